import Derived.Test.YtpbjekdjebjbkaaGreatDoorRx
import Derived.Test.YtpbjekdjebjbkaaGreatDoorMj
import Derived.Test.YtpbjekdjebjbkaaGreatDoorOp
import Derived.Deep.Slices
set_option linter.unusedSimpArgs false
set_option linter.unusedVariables false
/- What the arguments of the laws hold. -/
namespace Go.Proofs.YtpbjekdjebjbkaaGreatDoor
open Go.ChangeShapes Go.WideShapes Go.ChangeAt Go.RowKit Go.Joins Go.Deep
def plsV (l:List Pl):List Value:=l.flatMap plL
def chgsV (l:List Chg):List Value:=l.flatMap chgL
section
variable {H:Type} {enc:TypeId × Value→H} {w:World} {base:Nat} {spare:Nat→Bool} {held:Bool}
theorem flat_get {α:Type} {f:α→List Value} {size:Nat}:∀ {l:List α} {j:Nat} {u:Value},(∀ a∈l,(f a).length=size)→(l.flatMap f)[j]?=some u→∃ i k a,i<l.length∧l[i]?=some a∧j=i * size+k∧k<size∧(f a)[k]?=some u
 | [],j,u,_,h=>by simp at h
 | a :: l,j,u,hs,h=>by
   have ha:=hs a (List.mem_cons_self ..)
   rw [List.flatMap_cons,List.getElem?_append] at h
   split at h
   · rename_i hj
     exact ⟨0,j,a,by simp,rfl,by omega,by omega,h⟩
   · rename_i hj
     obtain ⟨i,k,b,h1,h2,h3,h4,h5⟩:=flat_get (fun b hb=>hs b (List.mem_cons_of_mem _ hb)) h
     refine ⟨i+1,k,b,by simp; omega,by simpa using h2,?_,h4,h5⟩
     rw [Nat.add_mul]; omega
theorem cellw_3 {fuel:Nat} {cs:List Value} {x:DataW H × List MemPlace} (h:DataW.trod enc Tryz.prog w base spare held fuel 3 cs=some x) (hl:cs.length=1):∃ (x0:Int),cs=[.int .i64 x0]∧okI x0:=by
 obtain ⟨a,e,_,hw⟩:=DataW.trod_int Tryz.underlying3 h
 exact ⟨a,e,wf_okI hw⟩
set_option maxRecDepth 100000 in
theorem cellw_27 {fuel:Nat} {cs:List Value} {x:DataW H × List MemPlace} (h:DataW.trod enc Tryz.prog w base spare held fuel 27 cs=some x) (hl:cs.length=2):∃ (x0:Int) (x1:Int),cs=[.int .i64 x0,.int .i64 x1]∧okI x0∧okI x1:=by
 obtain ⟨xs,k,_,hx,_,hlen,hg⟩:=DataW.trod_struct Tryz.underlying27 h
 match cs,hl with
 | [v0,v1],_ =>
   match xs,hlen with
   | [y0,y1],_ =>
     have hc0:Tryz.prog.cellsOf 3=1:=by kernel_rfl
     have g0:DataW.trod enc Tryz.prog w base spare held k 3 [v0]=some y0:=by simpa [hc0] using hg 0 _ rfl
     obtain ⟨a0,e0,w0⟩:=cellw_3 g0 rfl
     have hc1:Tryz.prog.cellsOf 3=1:=by kernel_rfl
     have g1:DataW.trod enc Tryz.prog w base spare held k 3 [v1]=some y1:=by simpa [hc1] using hg 1 _ rfl
     obtain ⟨a1,e1,w1⟩:=cellw_3 g1 rfl
     simp only [List.cons.injEq,and_true] at e0 e1
     subst e0
     subst e1
     exact ⟨a0,a1,rfl,w0,w1⟩
set_option maxRecDepth 100000 in
theorem open_players {v:Value} {d:DataW H} {ps:List MemPlace} {b0:Nat} (hv:Value.okWide Tryz.prog w .any b0 22 v) (h:DataW.Trod enc Tryz.prog w base spare held 22 v d ps) :
   ∃ (p:Option Addr) (c:Nat) (l:List (Go.Proofs.YtpbjekdjebjbkaaGreatDoor.Pl)),v=.slice p l.length c∧l.length≤9223372036854775807∧Reads w p l.length c 2 (plsV l)∧∀ x∈l,okI x.st:=by
 obtain ⟨fuel,hf⟩:=h
 obtain ⟨p,n,c,rfl⟩:∃ p n c,v=.slice p n c:=okWide_slice Tryz.underlying22 hv
 have hC:Tryz.prog.cellsOf 27=2:=by kernel_rfl
 rcases open_slice Tryz.underlying22 hf with ⟨h1,_⟩ | ⟨a,len,cap,m,k,D,Pl,h1,_,hl,hm,hmm,_,hx⟩
 · simp only [Value.cells,List.cons.injEq,Value.slice.injEq,and_true] at h1
   obtain ⟨rfl,rfl,rfl⟩:=h1
   exact ⟨none,0,[],rfl,Nat.zero_le _,⟨rfl,Nat.le_refl _,fun h=>absurd h (Nat.lt_irrefl _)⟩,fun x hx=>by cases hx⟩
 · simp only [Value.cells,List.cons.injEq,Value.slice.injEq,and_true] at h1
   obtain ⟨rfl,rfl,rfl⟩:=h1
   have hlm:n≤m:=by rw [hmm]; split <;> omega
   rw [hC] at hx
   have:Inhabited (Go.Proofs.YtpbjekdjebjbkaaGreatDoor.Pl):=⟨(⟨0,0⟩:Go.Proofs.YtpbjekdjebjbkaaGreatDoor.Pl)⟩
   obtain ⟨f,hf⟩:=choose_lt (α:=Go.Proofs.YtpbjekdjebjbkaaGreatDoor.Pl) (n:=n) (p:=fun i x=>(∀ (j:Nat) (u:Value),(plL x)[j]?=some u→w.cell? (a.add (i * 2+j))=some u)∧okI x.st) (fun i hi=>by
     obtain ⟨cs',q1,q2⟩:=hx i (by omega)
     obtain ⟨_,hlen,hcell⟩:=World.cells?_some q1
     obtain ⟨x0,x1,ee,w0,w1⟩:=cellw_27 q2 hlen
     subst ee
     refine ⟨⟨x0,x1⟩,fun j u hu=>?_,w0⟩
     have hj:j<2:=(List.getElem?_eq_some_iff.1 hu).1
     have:=hcell j hj
     rw [addr_add] at this
     rw [this]; exact hu)
   have hlen:((List.range n).map f).length=n:=by simp
   refine ⟨some a,c,(List.range n).map f,by rw [hlen],by rw [hlen]; unfold maxLen at hm; omega,?_,fun x hx=>?_⟩
   · rw [hlen]
     refine ⟨?_,hl,fun hn=>⟨a,rfl,fun j u hu=>?_⟩⟩
     · unfold plsV; rw [flat_length (size:=2) (fun _ _=>rfl),hlen]
     · obtain ⟨i,k,x,h1,h2,rfl,h4,h5⟩:=flat_get (size:=2) (fun _ _=>rfl) hu
       rw [hlen] at h1
       rw [List.getElem?_map,List.getElem?_range h1] at h2
       simp only [Option.map_some,Option.some.injEq] at h2
       rw [← h2] at h5
       exact (hf i h1).1 k u h5
   · obtain ⟨i,hi,rfl⟩:=List.mem_map.1 hx
     exact (hf i (List.mem_range.1 hi)).2
end
end Go.Proofs.YtpbjekdjebjbkaaGreatDoor
