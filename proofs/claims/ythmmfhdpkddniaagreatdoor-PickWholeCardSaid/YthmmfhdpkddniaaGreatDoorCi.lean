import Derived.Test.YthmmfhdpkddniaaGreatDoorGl
import Derived.Test.YthmmfhdpkddniaaGreatDoorShelf
import Derived.Test.YthmmfhdpkddniaaGreatDoorFm
import Derived.Test.YthmmfhdpkddniaaGreatDoorXt
set_option linter.unusedSimpArgs false
set_option linter.unusedVariables false
namespace Go.Proofs.YthmmfhdpkddniaaGreatDoor
open Go.RowKit Go.Sort
def zV (l:List Int):List Value:=l.map (Value.int .i64)
theorem zV_len (l:List Int):(zV l).length=l.length:=by unfold zV; simp
def sortI (l:List Int):List Int:=l.mergeSort fun x y=>decide (x≤y)
theorem sortI_perm (l:List Int):(sortI l).Perm l:=List.mergeSort_perm ..
theorem sortI_len (l:List Int):(sortI l).length=l.length:=(sortI_perm l).length_eq
theorem heap_grow_old {w:World} {os:Array Obj} {k:Nat} (h:k<w.heap.size):(grow w os).heap[k]?=w.heap[k]?:=by
 unfold grow
 exact Array.getElem?_append_left h
theorem heap_map_other {w:World} {g k:Nat} {f:Array Value→Array Value} (h:k ≠ g):(mapBlock w g f).heap[k]?=w.heap[k]?:=by
 unfold mapBlock
 rw [Array.getElem?_modify,if_neg (fun e=>h e.symm)]
theorem heap_map_same {w:World} {g:Nat} {f:Array Value→Array Value} {c:Array Value} {e:TypeId} {fr:Nat × Nat} (h:w.heap[g]?=some (.cells c e fr)):(mapBlock w g f).heap[g]?=some (.cells (f c) e fr):=by
 unfold mapBlock
 rw [Array.getElem?_modify,if_pos rfl,h]; rfl
theorem put_at {α:Type} [Inhabited α] {enc:α→Value} {off:Nat} {d:Array α} {c:Array Value} {j:Nat} (hj:j<d.size) (hc:off+d.size≤c.size):(putCells enc off d c)[off+j]?=some (enc d[j]!):=by
 unfold putCells
 rw [Array.getElem?_mapIdx,Array.getElem?_eq_getElem (by omega)]
 simp only [Option.map_some]
 rw [if_pos ⟨by omega,by omega⟩,show off+j - off=j from by omega]
theorem put_size {α:Type} [Inhabited α] {enc:α→Value} {off:Nat} {d:Array α} {c:Array Value}:(putCells enc off d c).size=c.size:=by
 unfold putCells; simp
section
variable {w:World} {l:List Int} {p:Option Addr} {n c:Nat} {L:List Item}
theorem rwHolds {g o:Nat} {cur:Array Value} (hg:w.heap[g]?=some (.cells cur 3 (0,0))) (hc:∀ j u,(zV l)[j]?=some u→cur[o+j]?=some u):Holds (Value.int .i64) w g o l.toArray:=fun j hj=>by
 have hj2:j<l.length:=by simpa using hj
 refine ⟨?_,?_⟩
 · rw [cell_of_row w g _ cur 3 (0,0) hg]
   refine (hc j _ (show (zV l)[j]?=some (.int .i64 l[j]) from ?_)).trans ?_
   · unfold zV; rw [List.getElem?_map,List.getElem?_eq_getElem hj2]; rfl
   · rw [getElem!_pos _ j hj]; rfl
 · unfold World.frozen?
   rw [hg]; simp
theorem rwPut {g o:Nat} {cur:Array Value} {m:List Int} {os:Array Obj} {q n':Nat} (H:S w L) {k:Nat} (hk:L[k]?=some (Rw 3 1 (some ⟨g,o,none⟩) n c (zV l))) (hg:w.heap[g]?=some (.cells cur 3 (0,0))) (hs:o+c≤cur.size) (hn:n≤c) (hcm:c≤maxLen) (hm:n'≤m.length) (hml:m.length≤c) (hn':n'≤n) :
   S (grow (putRow (Value.int .i64) (Go.Sort.ahead w q) g o m.toArray) os) (L.set k (Rw 3 1 (some ⟨g,o,none⟩) n' c (zV (m.take n')))):=by
 have hlt:g<w.heap.size:=(Array.getElem?_eq_some_iff.1 hg).1
 have hW:(putRow (Value.int .i64) (Go.Sort.ahead w q) g o m.toArray).heap.size=w.heap.size:=by rw [size_putRow]; rfl
 have hblk:(grow (putRow (Value.int .i64) (Go.Sort.ahead w q) g o m.toArray) os).heap[g]?=some (.cells (putCells (Value.int .i64) o m.toArray cur) 3 (0,0)):=by
   rw [heap_grow_old (by rw [hW]; exact hlt)]
   exact heap_map_same (w:=Go.Sort.ahead w q) hg
 refine H.turn (it':=Rw 3 1 (some ⟨g,o,none⟩) n' c (zV (m.take n'))) hk ⟨rfl,rfl,rfl,?_,fun k hk=>?_,Nat.le_add_right _ _⟩ ⟨?_,by omega,hcm,.inr ⟨g,o,_,rfl,hblk,?_,fun j u hu=>?_⟩⟩ (fun b hb=>⟨.inl hb,?_⟩)
 · show w.heap.size≤(grow _ os).heap.size
   unfold grow
   simp only [Array.size_append]
   rw [hW]; omega
 · rw [heap_grow_old (by rw [hW]; exact hk.1)]
   exact heap_map_other (w:=Go.Sort.ahead w q) (fun e=>hk.2 ⟨o,by rw [e]⟩)
 · rw [zV_len,List.length_take]; omega
 · rw [put_size,Nat.mul_one]; exact hs
 · have hj:j<n':=by
     have:=(List.getElem?_eq_some_iff.1 hu).1
     rw [zV_len,List.length_take] at this; omega
   rw [put_at (by simp; omega) (by simp; omega)]
   unfold zV at hu
   rw [List.getElem?_map,List.getElem?_take_of_lt hj,List.getElem?_eq_getElem (by omega)] at hu
   simp only [Option.map_some,Option.some.injEq] at hu
   rw [← hu,getElem!_pos _ j (by simp; omega)]
   simp
 · obtain ⟨o'',ho''⟩:=hb
   have:b=g:=by cases ho''; rfl
   rw [this]
   show g<(grow _ os).heap.size
   unfold grow
   simp only [Array.size_append]
   rw [hW]; omega
end
theorem sortInts_s (l:List Int) (p:Option Addr) (n c:Nat) (hn:l.length=n) (hn2:n≤1000000) (w:World) (HS:S w [Rw 3 1 p n c (zV l)]) :
   Calls Tryz.prog 48 #[.slice p n c] w fun e w'=>e=.returned (.tuple #[])∧S w' ([Rw 3 1 p n c (zV (sortI l))]++[Old w (fps [Rw 3 1 p n c (zV l)])]):=by
 have H:=HS.beginI
 obtain ⟨k1,k2,k3,k4⟩:=HS.rw (k:=0) rfl
 rcases Nat.eq_zero_or_pos n with hz | hp
 · subst hz
   have hl:l=[]:=List.eq_nil_of_length_eq_zero hn
   subst hl
   refine (Tryz.slices_Sort_int_none p c w).mono ?_
   rintro e w' ⟨rfl,rfl⟩
   rw [show sortI []=[] from by simp [sortI]]
   exact ⟨rfl,H⟩
 rcases k4 with ⟨_,h0,_⟩ | ⟨g,o,cur,rfl,hg,hs,hc⟩
 · omega
 rw [Nat.mul_one] at hs
 have hlt:g<w.heap.size:=(Array.getElem?_eq_some_iff.1 hg).1
 have hr:=Tryz.slices_Sort_int g o c l w (rwHolds hg hc) hlt (by omega)
 rw [hn] at hr
 refine hr.mono ?_
 rintro e w' ⟨rfl,m,os,rfl⟩
 refine ⟨rfl,?_⟩
 have h9:=rwPut (m:=sortI l) (os:=os) (q:=m) (n':=n) H (k:=0) rfl hg hs k2 k3 (by rw [sortI_len]; omega) (by rw [sortI_len]; omega) (Nat.le_refl _)
 rw [List.take_of_length_le (by rw [sortI_len]; omega)] at h9
 exact h9
theorem S.borrow {w0 w:World} {L0 L:List Item} {k:Nat} (h0:S w0 L0) (h:S w L) (hk:L[k]?=some (Old w0 no)):S w L0:=
 ⟨fun it hi=>⟨it.loc ((h.at hk).less fun g hg=>⟨(h0.1 it hi).2 g hg,id⟩) (h0.1 it hi).1,fun g hg=>Nat.lt_of_lt_of_le ((h0.1 it hi).2 g hg) (h.at hk).size⟩,h0.2⟩
theorem S.grown {w w':World} {L:List Item} {k:Nat} (h:S w' L) (hk:L[k]?=some (Old w no)):∃ q os,w'=grow (w.drewN q) os:=by
 obtain ⟨h1,h2,h3,h4,h5,h6⟩:=h.at hk
 refine ⟨w'.drawn - w.drawn,w'.heap.extract w.heap.size w'.heap.size,?_⟩
 have hh:w'.heap=w.heap++w'.heap.extract w.heap.size w'.heap.size:=by
   apply Array.ext_getElem?
   intro g
   by_cases hg:g<w.heap.size
   · rw [Array.getElem?_append_left hg]
     exact h5 g ⟨hg,id⟩
   · rw [Array.getElem?_append_right (by omega),Array.getElem?_extract]
     by_cases hg2:g<w'.heap.size
     · rw [if_pos (by omega),show w.heap.size+(g - w.heap.size)=g by omega]
     · rw [if_neg (by omega),Array.getElem?_eq_none (by omega)]
 have hd:w'.drawn=w.drawn+(w'.drawn - w.drawn):=by omega
 unfold grow World.drewN
 cases w'
 cases w
 simp only at *
 subst h1 h2 h3
 congr 1
theorem x_sliceA {P:Program} {N:Nat} {f:Fr} {ds:List Deferred} {w:World} {o:Oper} {t e n size g:Nat} {x:Operand} (ho:o.op=.slice t x none none none) (hx:evo f x=some (.pointer (some ⟨g,0,none⟩))) (hu:P.underlying t=some (.array n e)) (hz:szO P e=some size) :
   Ex P N f ds o w (.slice (some ⟨g,0,none⟩) n n) w:=
 ex_of (x:=Instr.sliceAt t (.pointer (some ⟨g,0,none⟩)) none none none) (fun a ha=>by unfold execOp; simp only [ho,ha.eval hx,Option.map_none]) (by
   have hel:P.elem t=e:=by unfold Program.elem; rw [hu]
   have hal:P.arrayLen t=n:=by unfold Program.arrayLen; rw [hu]
   have hu':P.underlying t=some (.array (P.arrayLen t) (P.elem t)):=by rw [hel,hal]; exact hu
   rw [run_sliceAt_array_all (P:=P) w t _ hu',hel,run_sz hz]
   simp only [Result.andThen_ok,slicedAt,hal,Nat.zero_mul,add_lit',ite_self,Nat.sub_zero])
theorem sortF_s (l:List Int) (p:Option Addr) (n c:Nat) (C:Item) (g:Nat) (cb:Array Value) (cf:Int→Int→Int) (hn:l.length=n) (hn2:n≤1000000) (hg:∀ args w,(callFunc g args).run Tryz.prog w=.ok (.enter g args) w)
   (hirr:∀ x∈l,¬ cf x x<0) (htr:∀ x∈l,∀ y∈l,∀ z∈l,cf x y<0→cf y z<0→cf x z<0) (hnt:∀ x∈l,∀ y∈l,∀ z∈l,¬ cf x y<0→¬ cf y z<0→¬ cf x z<0) (hT:∀ x∈l,∀ y∈l,¬ cf x y<0→¬ cf y x<0→x=y)
   (hc:∀ x∈l,∀ y∈l,∀ w,S w [C]→Calls Tryz.prog g (#[.int .i64 x,.int .i64 y]++cb) w fun e w'=>e=.returned (.int .i64 (cf x y))∧S w' [Old w no])
   (w:World) (HS:S w [Rw 3 1 p n c (zV l),C]) :
   Calls Tryz.prog 155 #[.slice p n c,.func (.func g) #[] cb] w fun e w'=>e=.returned (.tuple #[])∧∃ m:List Int,(m.Perm l∧m.Pairwise fun x y=>¬ cf y x<0)∧S w' ([Rw 3 1 p n c (zV m),C]++[Old w (fps [Rw 3 1 p n c (zV l),C])]):=by
 have H:=HS.beginI
 obtain ⟨k1,k2,k3,k4⟩:=HS.rw (k:=0) rfl
 rcases Nat.eq_zero_or_pos n with h0 | hp
 · subst h0
   have hl:l=[]:=List.eq_nil_of_length_eq_zero hn
   subst hl
   refine (Tryz.slices_SortFunc_none (α:=Int) p c _ w).mono ?_
   rintro e w' ⟨rfl,rfl⟩
   exact ⟨rfl,[],⟨List.Perm.refl _,List.Pairwise.nil⟩,H⟩
 rcases k4 with ⟨_,h0,_⟩ | ⟨gb,o,cur,rfl,hgb,hs,hcu⟩
 · omega
 rw [Nat.mul_one] at hs
 have hlt:gb<w.heap.size:=(Array.getElem?_eq_some_iff.1 hgb).1
 obtain ⟨x0,hx0⟩:=List.exists_mem_of_length_pos (l:=l) (by omega)
 haveI:Inhabited {x // x∈l}:=⟨⟨x0,hx0⟩⟩
 have hd:(l.attach.toArray).size=n:=by simp [hn]
 have hv:∀ (dk:Array {x // x∈l}),dk.size=n→putCells (fun x:{x // x∈l}=>Value.int .i64 x.1) o dk=putCells (Value.int .i64) o (dk.toList.map (·.1)).toArray:=fun dk hk=>by
   funext c
   unfold putCells
   apply Array.ext
   · simp
   · intro j h1 h2
     simp only [Array.getElem_mapIdx,List.size_toArray,List.length_map,Array.length_toList]
     split
     · rename_i hj
       rw [getElem!_pos _ _ (by omega),getElem!_pos _ _ (by simp; omega)]
       simp
     · rfl
 have hW:∀ m (dk:Array {x // x∈l}) os,dk.size=n→sortWorld (fun x:{x // x∈l}=>Value.int .i64 x.1) w gb o m dk os=grow (putRow (Value.int .i64) (Go.Sort.ahead w m) gb o (dk.toList.map (·.1)).toArray) os:=fun m dk os hk=>by
   unfold sortWorld putRow
   rw [hv dk hk]
 have hP:∀ m (dk:Array {x // x∈l}) os,dk.size=n→S (sortWorld (fun x:{x // x∈l}=>Value.int .i64 x.1) w gb o m dk os) [Rw 3 1 (some ⟨gb,o,none⟩) n c (zV (dk.toList.map (·.1))),C,Old w (fps [Rw 3 1 (some ⟨gb,o,none⟩) n c (zV l),C])]:=fun m dk os hk=>by
   rw [hW m dk os hk]
   have h9:=rwPut (m:=dk.toList.map (·.1)) (os:=os) (q:=m) (n':=n) H (k:=0) rfl hgb hs k2 k3 (by simp; omega) (by simp; omega) (Nat.le_refl _)
   rw [List.take_of_length_le (by simp; omega)] at h9
   exact h9
 have hr:=Tryz.slices_SortFunc_total (α:={x // x∈l}) (fun x=>Value.int .i64 x.1) (fun _=>rfl) (fun x y=>cf x.1 y.1) ⟨fun x=>decide_eq_false (hirr _ x.2),fun x y z h1 h2=>decide_eq_true (htr _ x.2 _ y.2 _ z.2 (of_decide_eq_true h1) (of_decide_eq_true h2)),fun x y z h1 h2=>decide_eq_false (hnt _ x.2 _ y.2 _ z.2 (of_decide_eq_false h1) (of_decide_eq_false h2))⟩ g cb gb o c l.attach.toArray w hg
   (fun m os dk hk x y=>(hc x.1 x.2 y.1 y.2 _ ((hP m dk os (hk.trans hd)).takes [1] (by decide))).mono fun e w' ⟨he,h9⟩=>⟨he,h9.grown (k:=0) rfl⟩)
   (fun j hj=>by
     have h9:=rwHolds hgb hcu j (by simpa using hj)
     rw [getElem!_pos _ _ (by simpa using hj)] at h9
     rw [show l.attach.toArray[j]! = l.attach.toArray[j] from getElem!_pos _ j hj]
     simpa using h9)
   hlt (by omega) (fun x y h1 h2=>Subtype.ext (hT _ x.2 _ y.2 (of_decide_eq_false h1) (of_decide_eq_false h2)))
 rw [hd] at hr
 refine hr.mono ?_
 rintro e w' ⟨rfl,m,os,rfl⟩
 have hpm:=List.mergeSort_perm l.attach (fun x y=>!decide (cf y.1 x.1<0))
 refine ⟨rfl,(l.attach.mergeSort fun x y=>!decide (cf y.1 x.1<0)).map (·.1),⟨?_,?_⟩,?_⟩
 · have:=hpm.map (·.1)
   rwa [List.attach_map_subtype_val] at this
 · rw [List.pairwise_map]
   have h9:=List.pairwise_mergeSort (le:=fun x y:{x // x∈l}=>!decide (cf y.1 x.1<0)) (fun a b c h1 h2=>by
     simp only [Bool.not_eq_true',decide_eq_false_iff_not] at *
     exact hnt _ c.2 _ b.2 _ a.2 h2 h1) (fun a b=>by
     by_cases h1:cf b.1 a.1<0
     · by_cases h2:cf a.1 b.1<0
       · exact absurd (htr _ a.2 _ b.2 _ a.2 h2 h1) (hirr _ a.2)
       · simp [h2]
     · simp [h1]) l.attach
   exact h9.imp fun h=>by simpa using h
 · exact hP m _ os ((congrArg List.length (List.toList_toArray ..)).trans (by rw [List.length_mergeSort]; exact hd))
end Go.Proofs.YthmmfhdpkddniaaGreatDoor
namespace Go.Proofs.YthmmfhdpkddniaaGreatDoor
open Go.RowKit
theorem cl157:callable Tryz.prog 157=true:=by kernel_rfl
theorem S.arrReads {w:World} {L:List Item} {k g e:Nat} {cs:Array Value} {l:List Int} (h:S w L) (hk:L[k]?=some (Ob g (.cells cs e (0,0)))) (hl:cs.toList=fl intL l) (hm:l.length≤maxLen):Reads w (some ⟨g,0,none⟩) l.length l.length 1 (fl intL l):=by
 have hlen:(fl intL l).length=l.length * 1:=intE.flLen l
 have h9:=h.obRw (size:=1) (n:=l.length) hk (by rw [← Array.length_toList,hl,hlen]) hm
 rw [hl] at h9
 exact h9.rwReads (k:=k) (by rw [List.getElem?_set_self (List.getElem?_eq_some_iff.1 hk).1])
structure Rk8 where
 a0:Int
 a1:Int
 a2:Int
 a3:Int
 a4:Int
 a5:Int
 a6:Int
 a7:Int
def rk8L (r:Rk8):List Int:=[r.a0,r.a1,r.a2,r.a3,r.a4,r.a5,r.a6,r.a7]
def rk8V (r:Rk8):Value:=.agg #[.int .i64 r.a0,.int .i64 r.a1,.int .i64 r.a2,.int .i64 r.a3,.int .i64 r.a4,.int .i64 r.a5,.int .i64 r.a6,.int .i64 r.a7]
set_option maxRecDepth 20000 in
set_option maxHeartbeats 4000000 in
theorem cand1_s (b mg:Nat) (M:Int→Option Rk8) (x y:Int) (hxk:okI x) (hyk:okI y) (rx ry:Rk8) (hx:M x=some rx) (hy:M y=some ry)  (w:World) (hC:S w [Ob b (.cells #[.map (some mg)] 177 (0,0)),Mp (Value.int .i64) rk8V okI mg M]):Calls Tryz.prog 156 #[.int .i64 x,.int .i64 y,.pointer (some ⟨b,0,none⟩)] w fun e w'=>e=.returned (.int .i64 (cmpS (rk8L rx) (rk8L ry)))∧S w' [Old w no]:=by
 have H0:=S.old w
 refine enter 17 Tryz.func156 rfl rfl rfl ?_
 refine g_wk [(0,_),(1,_),(2,_)] ?_
 refine w_s ?_
 refine w_k3 ?_
 refine w_1 (S.borrow hC H0 (k:=0) rfl) 0 ?_
 refine w_m ?_
 refine w_v (v:=.agg #[.int .i64 (rx.a0),.int .i64 (rx.a1),.int .i64 (rx.a2),.int .i64 (rx.a3),.int .i64 (rx.a4),.int .i64 (rx.a5),.int .i64 (rx.a6),.int .i64 (rx.a7)]) (ex_cast (x_lookup1 (x:=x) (intTy Tryz.underlying177 Tryz.underlying3) (S.borrow hC H0 (k:=0) rfl) 1 rfl rfl rfl rfl (hxk) ze179) (by rw [hx]; rfl)) ?_
 refine w_1 (S.borrow hC H0 (k:=0) rfl) 0 ?_
 refine w_m ?_
 refine w_v (v:=.agg #[.int .i64 (ry.a0),.int .i64 (ry.a1),.int .i64 (ry.a2),.int .i64 (ry.a3),.int .i64 (ry.a4),.int .i64 (ry.a5),.int .i64 (ry.a6),.int .i64 (ry.a7)]) (ex_cast (x_lookup1 (x:=y) (intTy Tryz.underlying177 Tryz.underlying3) (S.borrow hC H0 (k:=0) rfl) 1 rfl rfl rfl rfl (hyk) ze179) (by rw [hy]; rfl)) ?_
 refine l_of (s_alloc H0 (wt0 rfl) rfl rfl rfl ze179 ?_)
 intro g1 wq2 H3
 refine l_of (s_alloc H3 (wt0 rfl) rfl rfl rfl ze179 ?_)
 intro g4 wq5 H6
 refine l_of (w_st #[.int .i64 (rx.a0),.int .i64 (rx.a1),.int .i64 (rx.a2),.int .i64 (rx.a3),.int .i64 (rx.a4),.int .i64 (rx.a5),.int .i64 (rx.a6),.int .i64 (rx.a7)] H6 1 ?_)
 intro wq7 H8
 refine l_of (w_st #[.int .i64 (ry.a0),.int .i64 (ry.a1),.int .i64 (ry.a2),.int .i64 (ry.a3),.int .i64 (ry.a4),.int .i64 (ry.a5),.int .i64 (ry.a6),.int .i64 (ry.a7)] H8 0 ?_)
 intro wq9 H10
 refine w_e ?_
 refine g_seq ?_
 refine g_any [] (fun _=>True) [] (by kernel_rfl) H10 (fun wq11 H12=>?_)
 refine a_pure (v:=.slice (some ⟨g1,0,none⟩) 8 8) 0 rfl (wt0 rfl) rfl rfl rfl (by kernel_rfl) (by kernel_rfl) (by kernel_rfl) (.inr fun _=>trivial) (fun wx=>x_sliceA rfl rfl Tryz.underlying179 sz3) ?_
 refine a_pure (v:=.slice (some ⟨g4,0,none⟩) 8 8) 1 rfl (wt0 rfl) rfl rfl rfl (by kernel_rfl) (by kernel_rfl) (by kernel_rfl) (.inr fun _=>trivial) (fun wx=>x_sliceA rfl rfl Tryz.underlying179 sz3) ?_
 refine a_one (i:=2) (by kernel_rfl) rfl ?_
 refine s_call0 H12 (wt0 rfl) (x_call' rfl rfl cl157) (scmp_s (rk8L rx) (rk8L ry) ⟨rfl,by show 8≤1000; omega⟩ (some ⟨g1,0,none⟩) 8 8 (some ⟨g4,0,none⟩) 8 8 _ (S.arrReads (l:=rk8L rx) H12 (k:=1) rfl rfl (by show 8≤maxLen; unfold maxLen; omega)) (S.arrReads (l:=rk8L ry) H12 (k:=0) rfl rfl (by show 8≤maxLen; unfold maxLen; omega))) rfl rfl ?_
 intro wq13 H14
 refine a_k trivial ?_
 refine a_one (i:=3) (by kernel_rfl) rfl ?_
 refine s_v xa ?_
 refine a_k trivial ?_
 refine a_done (by kernel_rfl) ?_
 refine w_0 ?_
 refine g_wk [(5,_)] ?_
 refine g_ret ?_
 refine fin_r [.tmp 5] [.int .i64 ((cmpS (rk8L rx) (rk8L ry)))] ?_
 exact ⟨rfl,H14.mask [false,false,true]⟩
end Go.Proofs.YthmmfhdpkddniaaGreatDoor
namespace Go.Proofs.YthmmfhdpkddniaaGreatDoor
open Go.RowKit Go.Sort
def rkR (A:PK) (p:Pee) (i:Int):Rk8:=⟨b10 (decide (0<A.du i)),A.du i,b10 (A.partB i),b10 (bitAt p.sug i),0 - A.lv i,if A.ino=true then 0 else (A.countV i:Int),if A.ino=true then 0 else drV A.seed i,i⟩
theorem rkR_cmp (A:PK) (p:Pee) (x y:Int):cmpS (rk8L (rkR A p x)) (rk8L (rkR A p y))=sg (lexC (A.keys p) x y) 0:=cmpS_lex (A.keys p) x y
theorem sg_neg {a:Int}:sg a 0<0 ↔ a<0:=by
 unfold sg
 split
 · omega
 · split <;> omega
def cdC (A:PK) (p:Pee) (x y:Int):Int:=cmpS (rk8L (rkR A p x)) (rk8L (rkR A p y))
theorem cdC_neg {A:PK} {p:Pee} {x y:Int}:cdC A p x y<0 ↔ lexC (A.keys p) x y<0:=by
 unfold cdC
 rw [rkR_cmp]
 exact sg_neg
section
variable {A:PK} {p:Pee} {x y z:Int}
theorem cdC_irr:¬ cdC A p x x<0:=fun h=>by
 have h1:=cdC_neg.1 h
 have h2:=((lexC_wk (A.keys p)).anti x x).1 h1
 omega
theorem cdC_tr (h1:cdC A p x y<0) (h2:cdC A p y z<0):cdC A p x z<0:=cdC_neg.2 ((lexC_wk (A.keys p)).lt1 (cdC_neg.1 h1) (by have:=cdC_neg.1 h2; omega))
theorem cdC_nle (h:¬ cdC A p x y<0):lexC (A.keys p) y x≤0:=by
 rw [cdC_neg,(lexC_wk (A.keys p)).anti] at h
 omega
theorem cdC_nt (h1:¬ cdC A p x y<0) (h2:¬ cdC A p y z<0):¬ cdC A p x z<0:=fun h=>by
 have h3:=(lexC_wk (A.keys p)).trans z y x (cdC_nle h2) (cdC_nle h1)
 have h4:=((lexC_wk (A.keys p)).anti x z).1 (cdC_neg.1 h)
 omega
theorem cdC_eq (h1:¬ cdC A p x y<0) (h2:¬ cdC A p y x<0):x=y:=by
 have h3:=cdC_nle h2
 rw [cdC_neg] at h1
 exact lexC_zero A p (by omega)
theorem cand_sorted {m:List Int} (hn:A.n≤24) (hp:m.Perm (A.candL p)) (hs:m.Pairwise fun x y=>¬ cdC A p y x<0) (hnd:(A.candL p).Nodup):m=A.cand p:=by
 refine cand_is hn hp ?_
 have h9:m.Nodup:=hp.nodup_iff.2 hnd
 refine (hs.and h9).imp fun h=>?_
 have h1:=cdC_nle h.1
 have h2:lexC (A.keys p) _ _ ≠ 0:=fun h3=>h.2 (lexC_zero A p h3)
 omega
end
end Go.Proofs.YthmmfhdpkddniaaGreatDoor
