import Derived.Test.YtpbjekdjebjbkaaGreatDoorGw
import Derived.Test.YtpbjekdjebjbkaaGreatDoorShelf
set_option linter.unusedSimpArgs false
set_option linter.unusedVariables false
namespace Go.Proofs.YtpbjekdjebjbkaaGreatDoor
open Go.RowKit Go.Sort
def zV (l:List Int):List Value:=l.map (Value.int .i64)
theorem zV_len (l:List Int):(zV l).length=l.length:=by unfold zV; simp
def sortI (l:List Int):List Int:=l.mergeSort fun x y=>decide (x≤y)
theorem sortI_perm (l:List Int):(sortI l).Perm l:=List.mergeSort_perm ..
theorem sortI_len (l:List Int):(sortI l).length=l.length:=(sortI_perm l).length_eq
theorem heap_grow_old {w:World} {os:Array Obj} {k:Nat} (h:k<w.heap.size):(grow w os).heap[k]?=w.heap[k]?:=by
 unfold grow
 exact Array.getElem?_append_left h
theorem heap_map_other {w:World} {g k:Nat} {f:Array Value→Array Value} (h:k ≠ g):(mapBlock w g f).heap[k]?=w.heap[k]?:=by
 unfold mapBlock
 rw [Array.getElem?_modify,if_neg (fun e=>h e.symm)]
theorem heap_map_same {w:World} {g:Nat} {f:Array Value→Array Value} {c:Array Value} {e:TypeId} {fr:Nat × Nat} (h:w.heap[g]?=some (.cells c e fr)):(mapBlock w g f).heap[g]?=some (.cells (f c) e fr):=by
 unfold mapBlock
 rw [Array.getElem?_modify,if_pos rfl,h]; rfl
theorem put_at {α:Type} [Inhabited α] {enc:α→Value} {off:Nat} {d:Array α} {c:Array Value} {j:Nat} (hj:j<d.size) (hc:off+d.size≤c.size):(putCells enc off d c)[off+j]?=some (enc d[j]!):=by
 unfold putCells
 rw [Array.getElem?_mapIdx,Array.getElem?_eq_getElem (by omega)]
 simp only [Option.map_some]
 rw [if_pos ⟨by omega,by omega⟩,show off+j - off=j from by omega]
theorem put_size {α:Type} [Inhabited α] {enc:α→Value} {off:Nat} {d:Array α} {c:Array Value}:(putCells enc off d c).size=c.size:=by
 unfold putCells; simp
section
variable {w:World} {l:List Int} {p:Option Addr} {n c:Nat} {L:List Item}
theorem rwHolds {g o:Nat} {cur:Array Value} (hg:w.heap[g]?=some (.cells cur 3 (0,0))) (hc:∀ j u,(zV l)[j]?=some u→cur[o+j]?=some u):Holds (Value.int .i64) w g o l.toArray:=fun j hj=>by
 have hj2:j<l.length:=by simpa using hj
 refine ⟨?_,?_⟩
 · rw [cell_of_row w g _ cur 3 (0,0) hg]
   refine (hc j _ (show (zV l)[j]?=some (.int .i64 l[j]) from ?_)).trans ?_
   · unfold zV; rw [List.getElem?_map,List.getElem?_eq_getElem hj2]; rfl
   · rw [getElem!_pos _ j hj]; rfl
 · unfold World.frozen?
   rw [hg]; simp
theorem rwPut {g o:Nat} {cur:Array Value} {m:List Int} {os:Array Obj} {q n':Nat} (H:S w L) {k:Nat} (hk:L[k]?=some (Rw 3 1 (some ⟨g,o,none⟩) n c (zV l))) (hg:w.heap[g]?=some (.cells cur 3 (0,0))) (hs:o+c≤cur.size) (hn:n≤c) (hcm:c≤maxLen) (hm:n'≤m.length) (hml:m.length≤c) (hn':n'≤n) :
   S (grow (putRow (Value.int .i64) (Go.Sort.ahead w q) g o m.toArray) os) (L.set k (Rw 3 1 (some ⟨g,o,none⟩) n' c (zV (m.take n')))):=by
 have hlt:g<w.heap.size:=(Array.getElem?_eq_some_iff.1 hg).1
 have hW:(putRow (Value.int .i64) (Go.Sort.ahead w q) g o m.toArray).heap.size=w.heap.size:=by rw [size_putRow]; rfl
 have hblk:(grow (putRow (Value.int .i64) (Go.Sort.ahead w q) g o m.toArray) os).heap[g]?=some (.cells (putCells (Value.int .i64) o m.toArray cur) 3 (0,0)):=by
   rw [heap_grow_old (by rw [hW]; exact hlt)]
   exact heap_map_same (w:=Go.Sort.ahead w q) hg
 refine H.turn (it':=Rw 3 1 (some ⟨g,o,none⟩) n' c (zV (m.take n'))) hk ⟨rfl,rfl,rfl,?_,fun k hk=>?_⟩ ⟨?_,by omega,hcm,.inr ⟨g,o,_,rfl,hblk,?_,fun j u hu=>?_⟩⟩ (fun b hb=>⟨.inl hb,?_⟩)
 · show w.heap.size≤(grow _ os).heap.size
   unfold grow
   simp only [Array.size_append]
   rw [hW]; omega
 · rw [heap_grow_old (by rw [hW]; exact hk.1)]
   exact heap_map_other (w:=Go.Sort.ahead w q) (fun e=>hk.2 ⟨o,by rw [e]⟩)
 · rw [zV_len,List.length_take]; omega
 · rw [put_size,Nat.mul_one]; exact hs
 · have hj:j<n':=by
     have:=(List.getElem?_eq_some_iff.1 hu).1
     rw [zV_len,List.length_take] at this; omega
   rw [put_at (by simp; omega) (by simp; omega)]
   unfold zV at hu
   rw [List.getElem?_map,List.getElem?_take_of_lt hj,List.getElem?_eq_getElem (by omega)] at hu
   simp only [Option.map_some,Option.some.injEq] at hu
   rw [← hu,getElem!_pos _ j (by simp; omega)]
   simp
 · obtain ⟨o'',ho''⟩:=hb
   have:b=g:=by cases ho''; rfl
   rw [this]
   show g<(grow _ os).heap.size
   unfold grow
   simp only [Array.size_append]
   rw [hW]; omega
end
theorem sortInts_s (l:List Int) (p:Option Addr) (n c:Nat) (hn:l.length=n) (hn2:n≤1000000) (w:World) (HS:S w [Rw 3 1 p n c (zV l)]) :
   Calls Tryz.prog 119 #[.slice p n c] w fun e w'=>e=.returned (.tuple #[])∧S w' ([Rw 3 1 p n c (zV (sortI l))]++[Old w (fps [Rw 3 1 p n c (zV l)])]):=by
 have H:=HS.beginI
 obtain ⟨k1,k2,k3,k4⟩:=HS.rw (k:=0) rfl
 rcases Nat.eq_zero_or_pos n with hz | hp
 · subst hz
   have hl:l=[]:=List.eq_nil_of_length_eq_zero hn
   subst hl
   refine (Tryz.slices_Sort_int_none p c w).mono ?_
   rintro e w' ⟨rfl,rfl⟩
   rw [show sortI []=[] from by simp [sortI]]
   exact ⟨rfl,H⟩
 rcases k4 with ⟨_,h0,_⟩ | ⟨g,o,cur,rfl,hg,hs,hc⟩
 · omega
 rw [Nat.mul_one] at hs
 have hlt:g<w.heap.size:=(Array.getElem?_eq_some_iff.1 hg).1
 have hr:=Tryz.slices_Sort_int g o c l w (rwHolds hg hc) hlt (by omega)
 rw [hn] at hr
 refine hr.mono ?_
 rintro e w' ⟨rfl,m,os,rfl⟩
 refine ⟨rfl,?_⟩
 have h9:=rwPut (m:=sortI l) (os:=os) (q:=m) (n':=n) H (k:=0) rfl hg hs k2 k3 (by rw [sortI_len]; omega) (by rw [sortI_len]; omega) (Nat.le_refl _)
 rw [List.take_of_length_le (by rw [sortI_len]; omega)] at h9
 exact h9
theorem sortI_le (l:List Int):(sortI l).Pairwise (·≤·):=by
 have h:=List.pairwise_mergeSort (le:=fun x y:Int=>decide (x≤y)) (fun a b c x y=>decide_eq_true (Int.le_trans (of_decide_eq_true x) (of_decide_eq_true y))) (fun a b=>by
   rcases Int.le_total a b with q | q
   · rw [decide_eq_true q]; rfl
   · rw [decide_eq_true q,Bool.or_true]) l
 exact h.imp fun q=>of_decide_eq_true q
end Go.Proofs.YtpbjekdjebjbkaaGreatDoor
