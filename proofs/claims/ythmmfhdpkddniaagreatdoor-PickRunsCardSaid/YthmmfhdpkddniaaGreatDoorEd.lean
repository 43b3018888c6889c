import Derived.Tactics
import Derived.Deep.Quiet
import Derived.Deep.Draws
import Derived.OrdersHeld
import Derived.Below
import Derived.Laws.Rows
import Derived.Laws.CopyRow
import Derived.Laws.Tables
import Derived.IntWalk
import Derived.Laws.Entries
import Derived.Laws.World
import Derived.KernelRfl
import Derived.WideLaws
import Derived.Laws.Strings
import Derived.LaidEql
import Derived.Maps.AppendAt
import Derived.Lib.AppendStr
import Derived.Laws.BytesString
import Derived.Laws.OwnMore
import Derived.Deep.OwnRows
import Derived.Recover
set_option linter.all false
namespace Go.Proofs.YthmmfhdpkddniaaGreatDoor
open Go.RowKit
abbrev Fr:=List (Nat × Value)
theorem Cx {d t:Nat} (e:¬ d=t):Nat.beq d t=false:=by
 cases h:Nat.beq d t
 · rfl
 · exact absurd (Nat.eq_of_beq_eq_true h) e
def gt:Fr→Nat→Option Value
 | [],_=>none
 | (i,v) :: r,t=>bif Nat.beq i t then some v else gt r t
def cy (f:Fr):Operand→Option Value
 | .tmp t=>gt f t
 | .const v=>some v
 | .global g=>some (.pointer (some ⟨g,0,none⟩))
 | .func i=>some (.func (.func i) #[] #[])
def rj (f:Fr):List Operand→Option (List Value)
 | []=>some []
 | x :: r=>match cy f x,rj f r with | some v,some vs=>some (v :: vs) | _,_=>none
structure jX (N:Nat) (a:Act) (f:Fr) (ds:List Deferred):Prop where
 size:a.tmps.size=N
 get:∀ t v,gt f t=some v→a.tmps[t]?=some v
 defers:a.defers=ds
theorem jX.eval {N:Nat} {a:Act} {f:Fr} {ds:List Deferred} (h:jX N a f ds) {x:Operand} {v:Value} (hx:cy f x=some v):a.eval x=v:=by
 cases x with
 | tmp t=>have:=h.get t v hx; simp [Act.eval,Array.getD_eq_getD_getElem?,this]
 | const u=>simpa [cy,Act.eval] using hx
 | global g=>simpa [cy,Act.eval] using hx
 | func i=>simpa [cy,Act.eval] using hx
theorem jX.evals {N:Nat} {a:Act} {f:Fr} {ds:List Deferred} (h:jX N a f ds):∀ {xs:List Operand} {vs:List Value},rj f xs=some vs→xs.map a.eval=vs
 | [],vs,hx=>by simpa [rj] using hx
 | x :: r,vs,hx=>by
   unfold rj at hx
   split at hx
   · rename_i v ws hv hw
     cases hx
     simp [h.eval hv,h.evals hw]
   · cases hx
theorem jX.evalsA {N:Nat} {a:Act} {f:Fr} {ds:List Deferred} (h:jX N a f ds) {xs:Array Operand} {vs:List Value} (hx:rj f xs.toList=some vs):xs.map a.eval=vs.toArray:=by
 have:=h.evals hx; rw [← this,← List.map_toArray]
theorem jX.put {N:Nat} {a:Act} {f:Fr} {ds:List Deferred} (h:jX N a f ds) (d:Nat) (hd:Nat.blt d N=true) (v:Value):jX N (a.put (some d) v) ((d,v) :: f) ds:=by
 have hd':d<N:=Nat.le_of_ble_eq_true hd
 refine ⟨by simp [Act.put,h.size],fun t u hu=>?_,h.defers⟩
 simp only [gt] at hu
 by_cases e:d=t
 · subst e
   simp at hu
   subst hu
   simp [Act.put,h.size,hd']
 rw [show Nat.beq d t=false from Cx e] at hu
 simp only [cond_false] at hu
 simp [Act.put,e,h.get t u hu]
def sub:Fr→Fr→Prop
 | [],_=>True
 | (t,v) :: r,f=>gt f t=some v∧sub r f
theorem D2:∀ {f' f:Fr},sub f' f→∀ t v,gt f' t=some v→gt f t=some v
 | [],_,_,t,v,h=>by cases h
 | (i,u) :: r,f,hs,t,v,h=>by
   simp only [gt] at h
   by_cases e:i=t
   · subst e; simp at h; subst h; exact hs.1
   · rw [show Nat.beq i t=false from Cx e] at h
     exact D2 hs.2 t v h
theorem jX.weak {N:Nat} {a:Act} {f f':Fr} {ds:List Deferred} (h:jX N a f ds) (hs:sub f' f):jX N a f' ds:=
 ⟨h.size,fun t v ht=>h.get t v (D2 hs t v ht),h.defers⟩
def j6:Nat→List Value→Fr
 | _,[]=>[]
 | i,v :: r=>(i,v) :: j6 (i+1) r
theorem jv:∀ (l:List Value) (i t:Nat) (v:Value),gt (j6 i l) t=some v→i≤t∧l[t - i]?=some v
 | [],i,t,v,h=>by cases h
 | u :: r,i,t,v,h=>by
   simp only [j6,gt] at h
   by_cases e:i=t
   · subst e; simp at h; subst h; simp
   · rw [show Nat.beq i t=false from Cx e] at h
     obtain ⟨h1,h2⟩:=jv r (i+1) t v h
     refine ⟨by omega,?_⟩
     rw [show t - i=(t - (i+1))+1 from by omega,List.getElem?_cons_succ]
     exact h2
def G (N:Nat) (K:Act→World→Prop) (f:Fr) (ds:List Deferred) (w:World):Prop:=∀ a,jX N a f ds→K a w
def GQ (N:Nat) (K:Act→Prop) (f:Fr) (ds:List Deferred):Prop:=∀ a,jX N a f ds→K a
theorem sG {N:Nat} {K:Act→World→Prop} {f:Fr} {ds:List Deferred} {w:World} (f':Fr) (hs:sub f' f) (h:G N K f' ds w):G N K f ds w:=fun a ha=>h a (ha.weak hs)
section
variable {P:Program} {N:Nat} {Q:Exit→Act→World→Prop} {f:Fr} {ds:List Deferred} {w:World}
theorem enter {g:FuncId} {fn:Func} {c:Code} {args:Array Value} {R:Ending→World→Prop} (N:Nat) (hf:P.funcs[g]?=some fn) (hb:fn.body=some c) (hN:fn.ntmps=N) (hA:Nat.ble args.size N=true)
   (h:G N (c.wp P (bodyPost P fn R)) (j6 0 args.toList) [] w):Calls P g args w R:=by
 refine calls_of_wp hf hb (h _ ⟨?_,fun t v ht=>?_,rfl⟩)
 · have:args.size≤N:=Nat.le_of_ble_eq_true hA
   simp [hN]; omega
 obtain ⟨_,h2⟩:=jv _ 0 t v ht
 have h3:args[t]?=some v:=by simpa using h2
 have h4:t<args.size:=(Array.getElem?_eq_some_iff.1 h3).1
 show (args++_)[t]?=_
 rw [Array.getElem?_append_left h4]; exact h3
theorem KX {g:FuncId} {fn:Func} {c:Code} {args:Array Value} {R:Ending→World→Prop} (N:Nat) (hf:P.funcs[g]?=some fn) (hb:fn.body=some c) (hN:fn.ntmps=N) (hA:Nat.ble args.size N=true)
   (h:G N (c.wp P (bodyPostD P fn R)) (j6 0 args.toList) [] w):Calls P g args w R:=by
 refine calls_of_wp_defers hf hb (h _ ⟨?_,fun t v ht=>?_,rfl⟩)
 · have:args.size≤N:=Nat.le_of_ble_eq_true hA
   simp [hN]; omega
 obtain ⟨_,h2⟩:=jv _ 0 t v ht
 have h3:args[t]?=some v:=by simpa using h2
 have h4:t<args.size:=(Array.getElem?_eq_some_iff.1 h3).1
 show (args++_)[t]?=_
 rw [Array.getElem?_append_left h4]; exact h3
theorem g_seq {x y:Code} (h:G N (x.wp P (Exit.then (y.wp P Q) Q)) f ds w):G N ((Code.seq x y).wp P Q) f ds w:=fun a ha=>wp_seq (h a ha)
theorem g_skip (h:G N (Q .normal) f ds w):G N (Code.skip.wp P Q) f ds w:=fun a ha=>wp_skip (h a ha)
theorem jq {K:Act→World→Prop} (h:G N K f ds w):G N (Exit.then K Q .normal) f ds w:=h
theorem ye {K:Act→World→Prop} (h:G N (Q .ret) f ds w):G N (Exit.then K Q .ret) f ds w:=h
theorem B2 {K:Act→World→Prop} {i:Nat} (h:G N (Q (.exit i)) f ds w):G N (Exit.then K Q (.exit i)) f ds w:=h
theorem aA {K:Act→World→Prop} {i:List PanicEntry} (h:G N (Q (.panic i)) f ds w):G N (Exit.then K Q (.panic i)) f ds w:=h
theorem RG {i:Nat} (h:G N (Q .normal) f ds w):G N (Exit.inBlock i Q .normal) f ds w:=h
theorem IJ {i:Nat} (h:G N (Q .ret) f ds w):G N (Exit.inBlock i Q .ret) f ds w:=h
theorem IK {i:Nat} (h:G N (Q .normal) f ds w):G N (Exit.inBlock i Q (.exit i)) f ds w:=fun a ha=>by
 show if i=i then _ else _
 rw [if_pos rfl]; exact h a ha
theorem FX {i j:Nat} (hne:Nat.beq j i=false) (h:G N (Q (.exit j)) f ds w):G N (Exit.inBlock i Q (.exit j)) f ds w:=fun a ha=>by
 show if j=i then _ else _
 rw [if_neg (fun e=>by rw [e] at hne; simp [Nat.beq_refl] at hne)]; exact h a ha
theorem g_block {i:Nat} {c:Code} (h:G N (c.wp P (Exit.inBlock i Q)) f ds w):G N ((Code.block i c).wp P Q) f ds w:=fun a ha=>wp_block (h a ha)
theorem g_exit {i:Nat} (h:G N (Q (.exit i)) f ds w):G N ((Code.exit i).wp P Q) f ds w:=fun a ha=>wp_exit (h a ha)
theorem g_ret (h:G N (Q .ret) f ds w):G N (Code.ret.wp P Q) f ds w:=fun a ha=>wp_ret (h a ha)
theorem Er {l:Nat} (h:G N (Q .normal) f ds w):G N ((Code.label l).wp P Q) f ds w:=fun a ha=>wp_label (h a ha)
theorem g_cond_t {c:Operand} {x y:Code} {b:Bool} (hc:cy f c=some (.bool b)) (hb:b=true) (ht:G N (x.wp P Q) f ds w):G N ((Code.cond c x y).wp P Q) f ds w:=
 fun a ha=>wp_cond_true (by rw [ha.eval hc,hb]) (ht a ha)
theorem g_cond_f {c:Operand} {x y:Code} {b:Bool} (hc:cy f c=some (.bool b)) (hb:b=false) (ht:G N (y.wp P Q) f ds w):G N ((Code.cond c x y).wp P Q) f ds w:=
 fun a ha=>wp_cond_false (by rw [ha.eval hc,hb]) (ht a ha)
theorem CL {ι:Type} {c:Code} {a:Act} (I:ι→Act→World→Prop) (μ:ι→Nat) (i0:ι) (h0:I i0 a w)
   (round:∀ i a w,I i a w→c.wp P (Exit.then (fun a' w'=>∃ j,I j a' w'∧μ j<μ i) Q) a w):(Code.loop c).wp P Q a w:=by
 intro b k cs
 have key:∀ n i a w,μ i=n→I i a w →
     ∃ e a' w',Q e a' w'∧Arrives P (lone (b.at a (.code c :: .inLoop c :: k)) cs w) b k cs e a' w':=by
   intro n
   induction n using Nat.strongRecOn with
   | _ n ih =>
     intro i a w hn hI
     obtain ⟨e,a₁,w₁,hq,harr⟩:=round i a w hI b (.inLoop c :: k) cs
     cases e with
     | normal =>
       obtain ⟨j,hI₁,hlt⟩:=hq
       obtain ⟨e₂,a₂,w₂,hq₂,harr₂⟩:=ih (μ j) (hn ▸ hlt) j a₁ w₁ rfl hI₁
       exact ⟨e₂,a₂,w₂,hq₂,.of_steps (Steps.trans harr (.one step_inLoop)) harr₂⟩
     | exit id=>exact ⟨_,a₁,w₁,hq,.pass (x:=.inLoop c) rfl (fun _ _=>.inl (by simp)) harr⟩
     | goto l=>exact ⟨_,a₁,w₁,hq,.pass (x:=.inLoop c) rfl (fun _ _=>.inl (by simp)) harr⟩
     | ret=>exact ⟨_,a₁,w₁,hq,.pass (x:=.inLoop c) rfl (fun _ _=>.inl (by simp)) harr⟩
     | panic ch=>exact ⟨_,a₁,w₁,hq,.pass (x:=.inLoop c) rfl (fun _ _=>.inl (by simp)) harr⟩
     | outgrown=>exact ⟨_,a₁,w₁,hq,.pass (x:=.inLoop c) rfl (fun _ _=>.inl (by simp)) harr⟩
 obtain ⟨e,a',w',hq,harr⟩:=key _ i0 a w rfl h0
 exact ⟨e,a',w',hq,.of_steps (.one step_loop) harr⟩
theorem g_loop {ι:Type} {c:Code} (F:ι→Fr) (I:ι→World→Prop) (μ:ι→Nat) (i0:ι) (hs:sub (F i0) f) (h0:I i0 w)
   (round:∀ i w,I i w→G N (c.wp P (Exit.then (fun a' w'=>∃ j,(jX N a' (F j) ds∧I j w')∧μ j<μ i) Q)) (F i) ds w):G N ((Code.loop c).wp P Q) f ds w:=fun a ha =>
 CL (fun i a w=>jX N a (F i) ds∧I i w) μ i0 ⟨ha.weak hs,h0⟩ (fun i a w ⟨h1,h2⟩=>round i w h2 a h1)
theorem qI {ι:Type} {F:ι→Fr} {I:ι→World→Prop} {μ:ι→Nat} {i:ι} (j:ι) (hs:sub (F j) f) (h:I j w) (hμ:μ j<μ i) :
   G N (fun a' w'=>∃ j,(jX N a' (F j) ds∧I j w')∧μ j<μ i) f ds w:=fun _ ha=>⟨j,⟨ha.weak hs,h⟩,hμ⟩
theorem g_cut {ι:Type} {c:Code} {K:Act→World→Prop} (F:ι→Fr) (I:ι→World→Prop)
   (hc:G N (c.wp P (Exit.then (fun a' w'=>∃ j,jX N a' (F j) ds∧I j w') Q)) f ds w) (hk:∀ i w,I i w→G N K (F i) ds w):G N (c.wp P (Exit.then K Q)) f ds w:=fun a ha =>
 wp_mono (hc a ha) fun e a' w' h=>by
   cases e with
   | normal=>obtain ⟨j,h1,h2⟩:=h; exact hk j w' h2 a' h1
   | _=>exact h
theorem iu {ι:Type} {F:ι→Fr} {I:ι→World→Prop} (j:ι) (hs:sub (F j) f) (h:I j w) :
   G N (fun a' w'=>∃ j,jX N a' (F j) ds∧I j w') f ds w:=fun _ ha=>⟨j,ha.weak hs,h⟩
end
structure iY (fp:Nat→Prop) (w w':World):Prop where
 os:w'.os=w.os
 tape:w'.tape=w.tape
 output:w'.output=w.output
 size:w.heap.size≤w'.heap.size
 block:∀ g,fp g→w'.heap[g]?=w.heap[g]?
 dr:w.drawn≤w'.drawn
theorem iY.rfl' {fp:Nat→Prop} {w:World}:iY fp w w:=⟨rfl,rfl,rfl,Nat.le_refl _,fun _ _=>rfl,Nat.le_refl _⟩
theorem iY.trans {fp:Nat→Prop} {a b c:World} (h:iY fp a b) (k:iY fp b c):iY fp a c:=
 ⟨k.os.trans h.os,k.tape.trans h.tape,k.output.trans h.output,Nat.le_trans h.size k.size,fun g hg=>(k.block g hg).trans (h.block g hg),Nat.le_trans h.dr k.dr⟩
theorem iY.less {fp fp':Nat→Prop} {a b:World} (h:iY fp a b) (k:∀ g,fp' g→fp g):iY fp' a b:=
 ⟨h.os,h.tape,h.output,h.size,fun g hg=>h.block g (k g hg),h.dr⟩
structure aD where
 fp:Nat→Prop
 ok:World→Prop
 loc:∀ {w w'},iY fp w w'→ok w→ok w'
def S (w:World) (L:List aD):Prop:=(∀ it∈L,it.ok w∧∀ g,it.fp g→g<w.heap.size)∧L.Pairwise (fun a b=>∀ g,a.fp g→¬ b.fp g)
def Ob (g:Nat) (o:Obj):aD:=⟨fun k=>k=g,fun w=>w.heap[g]?=some o,fun h k=>(h.block g rfl).trans k⟩
def aB (w0:World) (X:Nat→Prop):aD:=
 ⟨fun g=>g<w0.heap.size∧¬ X g,fun w=>iY (fun g=>g<w0.heap.size∧¬ X g) w0 w,fun h k=>k.trans h⟩
abbrev no:Nat→Prop:=fun _=>False
theorem S.nil (w:World):S w []:=⟨fun _ h=>(by cases h),.nil⟩
theorem S.at {w:World} {L:List aD} (h:S w L) {k:Nat} {it:aD} (hk:L[k]?=some it):it.ok w:=(h.1 it (List.mem_of_getElem? hk)).1
theorem S.lt {w:World} {L:List aD} (h:S w L) {k:Nat} {it:aD} (hk:L[k]?=some it) {g:Nat} (hg:it.fp g):g<w.heap.size:=(h.1 it (List.mem_of_getElem? hk)).2 g hg
theorem S.ob {w:World} {L:List aD} (h:S w L) {k g:Nat} {o:Obj} (hk:L[k]?=some (Ob g o)):w.heap[g]?=some o:=h.at hk
theorem S.move {w w':World} {L:List aD} (h:S w L) (hs:iY (fun g=>g<w.heap.size) w w'):S w' L:=
 ⟨fun it hit=>⟨it.loc (hs.less fun g hg=>(h.1 it hit).2 g hg) (h.1 it hit).1,fun g hg=>Nat.lt_of_lt_of_le ((h.1 it hit).2 g hg) hs.size⟩,h.2⟩
theorem S.old (w:World):S w [aB w no]:=⟨fun it h=>by
 rw [List.mem_singleton] at h
 subst h
 exact ⟨iY.rfl',fun g hg=>hg.1⟩,List.pairwise_singleton _ _⟩
theorem S.cons {w:World} {L:List aD} {it:aD} (h:S w L) (hi:it.ok w) (hl:∀ g,it.fp g→g<w.heap.size) (hd:∀ x∈L,∀ g,it.fp g→¬ x.fp g):S w (it :: L):=
 ⟨fun x hx=>by
   rcases List.mem_cons.1 hx with rfl | hx
   · exact ⟨hi,hl⟩
   · exact h.1 x hx,List.pairwise_cons.2 ⟨hd,h.2⟩⟩
theorem S.tail {w:World} {L:List aD} {it:aD} (h:S w (it :: L)):S w L:=⟨fun x hx=>h.1 x (List.mem_cons_of_mem _ hx),(List.pairwise_cons.1 h.2).2⟩
theorem S.head {w:World} {L:List aD} {it:aD} (h:S w (it :: L)):it.ok w∧(∀ g,it.fp g→g<w.heap.size)∧∀ x∈L,∀ g,it.fp g→¬ x.fp g:=
 ⟨(h.1 it (List.mem_cons_self ..)).1,(h.1 it (List.mem_cons_self ..)).2,(List.pairwise_cons.1 h.2).1⟩
theorem S.sublist {w:World} {L L':List aD} (h:S w L) (hs:L'.Sublist L):S w L':=⟨fun it hit=>h.1 it (hs.subset hit),h.2.sublist hs⟩
theorem S.perm {w:World} {L L':List aD} (h:S w L) (hp:L.Perm L'):S w L':=
 ⟨fun it hit=>h.1 it (hp.mem_iff.2 hit),(hp.pairwise_iff (fun {a b} hab g hb ha=>hab g ha hb)).1 h.2⟩
theorem S.alloc {w:World} {L:List aD} (h:S w L) (o:Obj):S (w.alloc o) (Ob w.heap.size o :: L):=by
 have hs:iY (fun g=>g<w.heap.size) w (w.alloc o):=⟨rfl,rfl,rfl,by simp,fun g hg=>Below.heap_alloc _ _ _ hg,Nat.le_refl _⟩
 refine (h.move hs).cons ?_ ?_ ?_
 · exact heap_alloc_new w o
 · intro g hg; cases hg; simp
 intro x hx g hg hx'; cases hg
 exact absurd ((h.1 x hx).2 _ hx') (Nat.lt_irrefl _)
theorem S.drew {w:World} {L:List aD} (h:S w L):S w.drew L:=h.move ⟨rfl,rfl,rfl,Nat.le_refl _,fun _ _=>rfl,Nat.le_succ _⟩
theorem S.drawn {w:World} {L:List aD} (h:S w L) (n:Nat) (hn:w.drawn≤n):S { w with drawn:=n } L:=h.move ⟨rfl,rfl,rfl,Nat.le_refl _,fun _ _=>rfl,hn⟩
theorem Bc {L:List aD} {k:Nat} {x y:aD} (h:y∈L.set k x):y=x∨∃ j,j ≠ k∧L[j]?=some y:=by
 obtain ⟨j,hj⟩:=List.getElem?_of_mem h
 rw [List.getElem?_set] at hj
 split at hj
 · split at hj
   · simp at hj; exact .inl hj.symm
   · cases hj
 · rename_i hne
   exact .inr ⟨j,fun e=>hne e.symm,hj⟩
theorem ua {L:List aD} (h:L.Pairwise (fun a b=>∀ g,a.fp g→¬ b.fp g)) {i j:Nat} {x y:aD} (hi:L[i]?=some x) (hj:L[j]?=some y) (hne:i ≠ j) (g:Nat) (hg:x.fp g):¬ y.fp g:=by
 obtain ⟨hi1,rfl⟩:=List.getElem?_eq_some_iff.1 hi
 obtain ⟨hj1,rfl⟩:=List.getElem?_eq_some_iff.1 hj
 rcases Nat.lt_or_gt_of_ne hne with hlt | hlt
 · exact List.pairwise_iff_getElem.1 h i j hi1 hj1 hlt g hg
 · exact fun hy=>List.pairwise_iff_getElem.1 h j i hj1 hi1 hlt g hy hg
theorem S.turn {w w':World} {L:List aD} (h:S w L) {k:Nat} {it it':aD} (hk:L[k]?=some it) (hs:iY (fun g=>g<w.heap.size∧¬ it.fp g) w w')
   (hok:it'.ok w') (hfp:∀ g,it'.fp g→(it.fp g∨w.heap.size≤g)∧g<w'.heap.size):S w' (L.set k it'):=by
 have H2:k<L.length:=(List.getElem?_eq_some_iff.1 hk).1
 refine ⟨fun x hx=>?_,?_⟩
 · rcases Bc hx with rfl | ⟨j,hj,hx⟩
   · exact ⟨hok,fun g hg=>(hfp g hg).2⟩
   have hx':=h.1 x (List.mem_of_getElem? hx)
   refine ⟨x.loc (hs.less fun g hg=>⟨hx'.2 g hg,fun hi=>ua h.2 hx hk hj g hg hi⟩) hx'.1,fun g hg=>Nat.lt_of_lt_of_le (hx'.2 g hg) hs.size⟩
 rw [List.pairwise_iff_getElem]
 intro i j hi hj hlt g hg hg'
 have hi':i<L.length:=by simpa using hi
 have hj':j<L.length:=by simpa using hj
 have e1:∀ n (hn:n<L.length),n ≠ k→((L.set k it')[n]'(by simpa using hn))=L[n]:=fun n hn hne=>by
   rw [List.getElem_set]; rw [if_neg (fun e=>hne e.symm)]
 have far:∀ n (hn:n<L.length),n ≠ k→∀ g,L[n].fp g→¬ it'.fp g:=fun n hn hne g h1 h2=>by
   have hx':=h.1 L[n] (List.getElem_mem hn)
   rcases (hfp g h2).1 with h3 | h3
   · exact ua h.2 (List.getElem?_eq_getElem hn) hk hne g h1 h3
   · have:=hx'.2 g h1; omega
 by_cases hik:i=k
 · subst hik
   rw [e1 j hj' (by omega)] at hg'
   rw [List.getElem_set_self] at hg
   exact far j hj' (by omega) g hg' hg
 rw [e1 i hi' hik] at hg
 by_cases hjk:j=k
 · subst hjk
   rw [List.getElem_set_self] at hg'
   exact far i hi' hik g hg hg'
 rw [e1 j hj' hjk] at hg'
 exact List.pairwise_iff_getElem.1 h.2 i j hi' hj' hlt g hg hg'
theorem S.write {w w':World} {L:List aD} (h:S w L) {k g:Nat} {o o':Obj} (hk:L[k]?=some (Ob g o)) (hs:iY (fun i=>i ≠ g) w w') (ho:w'.heap[g]?=some o'):S w' (L.set k (Ob g o')):=
 h.turn hk (hs.less fun i hi=>hi.2) ho fun i hi=>by
   cases hi
   exact ⟨.inl rfl,Nat.lt_of_lt_of_le (h.lt hk rfl) hs.size⟩
theorem o7 (w:World) (g i:Nat) (v:Value):iY (fun k=>k ≠ g) w (w.setCell ⟨g,i,none⟩ v):=
 ⟨rfl,rfl,rfl,by simp [World.setCell],fun k hk=>Below.heap_setCell _ _ _ _ hk,Nat.le_refl _⟩
theorem kn (w:World) (g:Nat) (cs:Array Value):iY (fun k=>k ≠ g) w (w.setRow g cs):=
 ⟨rfl,rfl,rfl,by simp [World.setRow],fun k hk=>by
   simp only [World.setRow,Array.getElem?_modify]; rw [if_neg (fun e=>hk e.symm)],Nat.le_refl _⟩
theorem S.cell {w:World} {L:List aD} (h:S w L) {k g i:Nat} {cs:Array Value} {t:TypeId} {fr:Nat × Nat} {v:Value} (hk:L[k]?=some (Ob g (.cells cs t fr))) (hv:cs[i]?=some v):w.cell? ⟨g,i,none⟩=some v:=
 (cell_of_row w g i cs t fr (h.ob hk)).trans hv
theorem S.setCell {w:World} {L:List aD} (h:S w L) {k g i:Nat} {cs:Array Value} {t:TypeId} (hk:L[k]?=some (Ob g (.cells cs t (0,0)))) (v:Value) :
   S (w.setCell ⟨g,i,none⟩ v) (L.set k (Ob g (.cells (cs.setIfInBounds i v) t (0,0)))):=
 h.write hk (o7 w g i v) (by
   have:=h.ob hk
   simp [World.setCell,Array.getElem?_modify,this])
theorem S.setRow {w:World} {L:List aD} (h:S w L) {k g:Nat} {cs:Array Value} {t:TypeId} (hk:L[k]?=some (Ob g (.cells cs t (0,0)))) (cs':Array Value) :
   S (w.setRow g cs') (L.set k (Ob g (.cells cs' t (0,0)))):=
 h.write hk (kn w g cs') (by
   have:=h.ob hk
   simp [World.setRow,Array.getElem?_modify,this])
theorem S.oldBlock {w w0:World} {L:List aD} {X:Nat→Prop} (h:S w L) {k:Nat} (hk:L[k]?=some (aB w0 X)) {g:Nat} (hg:g<w0.heap.size) (hX:¬ X g):w.heap[g]?=w0.heap[g]?:=
 (show iY _ w0 w from h.at hk).block g ⟨hg,hX⟩
theorem S.oldCell {w w0:World} {L:List aD} {X:Nat→Prop} (h:S w L) {k:Nat} (hk:L[k]?=some (aB w0 X)) {p:Addr} {v:Value} (hv:w0.cell? p=some v) (hX:¬ X p.block):w.cell? p=some v:=by
 have hlt:p.block<w0.heap.size:=by
   unfold World.cell? at hv
   split at hv
   · rename_i h1; exact (Array.getElem?_eq_some_iff.1 h1).1
   · cases hv
 rw [World.cell?_of_block (h.oldBlock hk hlt hX)]; exact hv
theorem S.absorb {w w1:World} {L new:List aD} (h:S w L) (h1:S w1 (new++[aB w no])):S w1 (new++L):=by
 have hold:iY (fun g=>g<w.heap.size∧¬ no g) w w1:=(h1.1 (aB w no) (by simp)).1
 have hL:S w1 L:=h.move (hold.less fun g hg=>⟨hg,id⟩)
 refine ⟨fun it hit=>?_,?_⟩
 · rcases List.mem_append.1 hit with hit | hit
   · exact h1.1 it (List.mem_append_left _ hit)
   exact hL.1 it hit
 have hp:=List.pairwise_append.1 h1.2
 refine List.pairwise_append.2 ⟨hp.1,hL.2,fun a ha b hb g hga hgb=>?_⟩
 exact hp.2.2 a ha (aB w no) (by simp) g hga ⟨(h.1 b hb).2 g hgb,id⟩
theorem S.absorbX {w w1:World} {L L' new:List aD} {X:Nat→Prop} (h:S w L) (hs:L'.Sublist L) (hX:∀ it∈L',∀ g,it.fp g→¬ X g) (h1:S w1 (new++[aB w X])):S w1 (new++L'):=by
 have hold:iY (fun g=>g<w.heap.size∧¬ X g) w w1:=(h1.1 (aB w X) (by simp)).1
 have h':=h.sublist hs
 have hL:S w1 L':=⟨fun it hit=>⟨it.loc (hold.less fun g hg=>⟨(h'.1 it hit).2 g hg,hX it hit g hg⟩) (h'.1 it hit).1,fun g hg=>Nat.lt_of_lt_of_le ((h'.1 it hit).2 g hg) hold.size⟩,h'.2⟩
 refine ⟨fun it hit=>?_,?_⟩
 · rcases List.mem_append.1 hit with hit | hit
   · exact h1.1 it (List.mem_append_left _ hit)
   exact hL.1 it hit
 have hp:=List.pairwise_append.1 h1.2
 refine List.pairwise_append.2 ⟨hp.1,hL.2,fun a ha b hb g hga hgb=>?_⟩
 exact hp.2.2 a ha (aB w X) (by simp) g hga ⟨(h'.1 b hb).2 g hgb,hX b hb g hgb⟩
theorem S.only {w:World} {new:List aD} {X:Nat→Prop} {w0:World} (h:S w (new++[aB w0 X])):S w [aB w0 X]:=h.sublist (List.sublist_append_right ..)
theorem S.below {w w0:World} {new:List aD} (h:S w (new++[aB w0 no])):Below w0.heap.size w0 w:=by
 have:=(h.1 (aB w0 no) (by simp)).1
 exact ⟨this.os,this.tape,this.output,this.size,fun k hk=>this.block k ⟨hk,id⟩⟩
section
variable {P:Program} {N:Nat} {Q:Exit→Act→World→Prop} {f:Fr} {ds:List Deferred} {w w':World} {o:Oper} {ops:Array Oper} {rest:List Oper} {L:List aD}
def Ex (P:Program) (N:Nat) (f:Fr) (ds:List Deferred) (o:Oper) (w:World) (v:Value) (w':World):Prop:=∀ a,jX N a f ds→(execOp a.eval o).run P w=.ok (.value v) w'
def Sz (P:Program) (N:Nat) (f:Fr) (ds:List Deferred) (o:Oper) (w:World) (w':World):Prop:=∀ a,jX N a f ds→(execOp a.eval o).run P w=.ok .skip w'
def Q5 (P:Program) (N:Nat) (f:Fr) (ds:List Deferred) (o:Oper) (w:World) (g:FuncId) (vs:List Value) (w':World):Prop:=∀ a,jX N a f ds→(execOp a.eval o).run P w=.ok (.enter g vs.toArray) w'
def SA (P:Program) (N:Nat) (f:Fr) (ds:List Deferred) (o:Oper) (w:World) (v:Value) (w':World):Prop:=∀ a,jX N a f ds→(execOp a.eval o).run P w=.halt (.panic v) w'
def Rl (P:Program) (N:Nat) (f:Fr) (ds:List Deferred) (o:Oper) (w:World) (d:Deferred) (w':World):Prop:=∀ a,jX N a f ds→(execOp a.eval o).run P w=.ok (.defer d) w'
def Wt (ops:Array Oper) (f:Fr) (o:Oper):Prop:=o.guard=none∨∃ j b oj dj,o.guard=some (j,b)∧ops[j]?=some oj∧oj.dst=some dj∧gt f dj=some (.bool b)
theorem bh (h:o.guard=none):Wt ops f o:=.inl h
theorem cU {j:Nat} {b b':Bool} {oj:Oper} {dj:Nat} (h:o.guard=some (j,b)) (h1:ops[j]?=some oj) (h2:oj.dst=some dj) (h3:gt f dj=some (.bool b')) (h4:b'=b):Wt ops f o:=
 .inr ⟨j,b,oj,dj,h,h1,h2,h4 ▸ h3⟩
def Wn (ops:Array Oper) (f:Fr) (o:Oper):Prop:=∃ j b b' oj dj,o.guard=some (j,b)∧ops[j]?=some oj∧oj.dst=some dj∧(gt f dj=some (.bool b')∧b' ≠ b∨gt f dj=some undef)
theorem nY {j:Nat} {b b':Bool} {oj:Oper} {dj:Nat} (h:o.guard=some (j,b)) (h1:ops[j]?=some oj) (h2:oj.dst=some dj) (h3:gt f dj=some (.bool b')) (h4:b'=!b):Wn ops f o:=
 ⟨j,b,b',oj,dj,h,h1,h2,.inl ⟨h3,by rw [h4]; cases b <;> simp⟩⟩
theorem Py {j:Nat} {b:Bool} {oj:Oper} {dj:Nat} (h:o.guard=some (j,b)) (h1:ops[j]?=some oj) (h2:oj.dst=some dj) (h3:gt f dj=some undef):Wn ops f o:=
 ⟨j,b,true,oj,dj,h,h1,h2,.inr h3⟩
theorem Wt.wanted (h:Wt ops f o) {a:Act} (ha:jX N a f ds):Region.wanted o (yielded ops a.tmps)=true:=by
 rcases h with h | ⟨j,b,oj,dj,h,h1,h2,h3⟩
 · simp [Region.wanted,h]
 · have:=ha.get dj _ h3
   simp [Region.wanted,h,yielded,h1,h2,this]
theorem Wn.unwanted (h:Wn ops f o) {a:Act} (ha:jX N a f ds):Region.wanted o (yielded ops a.tmps)=false:=by
 obtain ⟨j,b,b',oj,dj,h,h1,h2,h3⟩:=h
 rcases h3 with ⟨h3,h4⟩ | h3
 · have:=ha.get dj _ h3
   simp [Region.wanted,h,yielded,h1,h2,this,h4]
 · have:=ha.get dj _ h3
   simp [Region.wanted,h,yielded,h1,h2,this,undef]
theorem wZ {a:Act} {v:Value} (hd:o.dst=none):a.put o.dst v=a:=by rw [hd]; rfl
theorem g_region {id:Nat} {l:List Oper} (h:G N (wpList P l.toArray Q l) f ds w):G N ((Code.region id l.toArray false).wp P Q) f ds w:=fun a ha=>wp_region_lit (h a ha)
theorem g_nil (h:G N (Q .normal) f ds w):G N (wpList P ops Q []) f ds w:=fun a ha=>wpList_nil (h a ha)
def bH (P:Program) (ops:Array Oper) (Q:Exit→Act→World→Prop) (o:Oper) (K:Act→World→Prop) (a:Act) (w:World):Prop:=
 if Region.wanted o (yielded ops a.tmps) then o.wp P a w K Q∨(o.asks P a w∧LetsOut Q) else K (a.put o.dst undef) w
theorem l_of (h:G N (bH P ops Q o (wpList P ops Q rest)) f ds w):G N (wpList P ops Q (o :: rest)) f ds w:=fun a ha=>by
 unfold wpList; exact h a ha
theorem vW {i:Nat} {K:Act→World→Prop} (hi:ops[i]?=some o) (h:G N (bH P ops Q o K) f ds w):G N (wpOp P ops Q i K) f ds w:=fun a ha=>by
 unfold wpOp; simp only [hi]; exact h a ha
section
variable {K:Act→World→Prop}
theorem EX (hw:Wt ops f o) (h:∀ a,jX N a f ds→o.wp P a w K Q):G N (bH P ops Q o K) f ds w:=fun a ha=>by
 unfold bH; rw [if_pos (hw.wanted ha)]; exact .inl (h a ha)
theorem aJ {d:Nat} {v:Value} (hw:Wt ops f o) (hd:o.dst=some d) (hN:Nat.blt d N=true) (hx:Ex P N f ds o w v w') (h:G N K ((d,v) :: f) ds w'):G N (bH P ops Q o K) f ds w:=
 EX hw fun a ha=>by
   unfold Oper.wp
   rw [hx a ha,Oper.upon_value,hd]
   exact h _ (ha.put d hN v)
theorem uJ (hw:Wt ops f o) (hd:o.dst=none) (hx:Sz P N f ds o w w') (h:G N K f ds w'):G N (bH P ops Q o K) f ds w:=
 EX hw fun a ha=>by
   unfold Oper.wp
   rw [hx a ha,Oper.upon_skip,wZ hd]
   exact h _ ha
theorem Cl {v:Value} (hw:Wt ops f o) (hd:o.dst=none) (hx:Ex P N f ds o w v w') (h:G N K f ds w'):G N (bH P ops Q o K) f ds w:=
 EX hw fun a ha=>by
   unfold Oper.wp
   rw [hx a ha,Oper.upon_value,wZ hd]
   exact h _ ha
theorem D7 {v:Value} (hw:Wt ops f o) (hx:SA P N f ds o w v w') (h:G N (Q (.panic [{ v,recovered:=false }])) f ds w'):G N (bH P ops Q o K) f ds w:=
 EX hw fun a ha=>by
   unfold Oper.wp
   rw [hx a ha,Oper.upon_panic]
   exact h _ ha
theorem eM {d:Deferred} (hw:Wt ops f o) (hd:o.dst=none) (hx:Rl P N f ds o w d w') (h:G N K f (d :: ds) w'):G N (bH P ops Q o K) f ds w:=
 EX hw fun a ha=>by
   unfold Oper.wp
   rw [hx a ha,Oper.upon_defer,hd]
   exact (h _ ⟨ha.size,ha.get,by show d :: a.defers=_; rw [ha.defers]⟩)
theorem GA {d:Nat} (hw:Wn ops f o) (hd:o.dst=some d) (hN:Nat.blt d N=true) (h:G N K ((d,undef) :: f) ds w):G N (bH P ops Q o K) f ds w:=fun a ha=>by
 unfold bH
 rw [if_neg (by rw [hw.unwanted ha]; simp),hd]
 exact h _ (ha.put d hN _)
def Gx (N:Nat) (o:Oper) (K:Act→World→Prop) (Q:Exit→Act→World→Prop) (f:Fr) (ds:List Deferred):Ending→World→Prop
 | .returned v,w=>G N (fun a w=>K (a.put o.dst v) w) f ds w
 | .panicked c,w=>G N (Q (.panic c)) f ds w
 | .outgrown,_=>LetsOut Q
theorem bR {g:FuncId} {vs:List Value} {R:Ending→World→Prop} (hw:Wt ops f o) (hx:Q5 P N f ds o w g vs w') (hc:Calls P g vs.toArray w' R) (h:∀ e w'',R e w''→Gx N o K Q f ds e w''):G N (bH P ops Q o K) f ds w:=
 EX hw fun a ha=>by
   unfold Oper.wp
   rw [hx a ha,Oper.upon_enter]
   refine hc.mono fun e w'' he=>?_
   have:=h e w'' he
   cases e with
   | returned v=>exact this a ha
   | panicked c=>exact this a ha
   | outgrown=>exact this
theorem wm {d:Nat} {v:Value} (hd:o.dst=some d) (hN:Nat.blt d N=true) (h:G N K ((d,v) :: f) ds w):Gx N o K Q f ds (.returned v) w:=fun a ha=>by
 show K (a.put o.dst v) w
 rw [hd]; exact h _ (ha.put d hN v)
theorem bB {c:List PanicEntry} (h:G N (Q (.panic c)) f ds w):Gx N o K Q f ds (.panicked c) w:=h
end
theorem oP {id:Nat} {l:List Oper} (hm:P.follows .mixedOrders=true) (hB:Region.lexB .any l.toArray=true) (hS:S w L)
   (h:GQ N (wpQuiet P l.toArray (fun w=>S w L) (fun a'=>∀ w',S w' L→Q .normal a' w') l) f ds):G N ((Code.region id l.toArray true).wp P Q) f ds w:=fun a ha =>
 wp_region_quiet (C:=fun w=>S w L) hm hB (hS.drawn _ (Nat.le_succ _)) (by simpa using h a ha)
theorem tG (h:∀ w,S w L→G N (Q .normal) f ds w):GQ N (wpQuiet P ops (fun w=>S w L) (fun a'=>∀ w',S w' L→Q .normal a' w') []) f ds:=fun a ha=>wpQuiet_nil fun w' hw'=>h w' hw' a ha
theorem Rv {QQ:Act→Prop} {v:Value} {d:Nat} (hw:Wt ops f o) (hd:o.dst=some d) (hN:Nat.blt d N=true) (hx:∀ a,jX N a f ds→∀ w,S w L→o.quietAt P a (fun w=>S w L) w v)
   (h:GQ N (wpQuiet P ops (fun w=>S w L) QQ rest) ((d,v) :: f) ds):GQ N (wpQuiet P ops (fun w=>S w L) QQ (o :: rest)) f ds:=fun a ha =>
 wpQuiet_step fun K hK=>by
   rw [if_pos (hw.wanted ha)]
   exact ⟨v,fun w hw=>hx a ha w hw,by rw [hd]; exact hK _ (h _ (ha.put d hN v))⟩
theorem lF {QQ:Act→Prop} {v:Value} {d:Nat} (hw:Wt ops f o) (hd:o.dst=some d) (hN:Nat.blt d N=true) (hx:∀ w,S w L→Ex P N f ds o w v w)
   (h:GQ N (wpQuiet P ops (fun w=>S w L) QQ rest) ((d,v) :: f) ds):GQ N (wpQuiet P ops (fun w=>S w L) QQ (o :: rest)) f ds:=
 Rv hw hd hN (fun a ha w hS=>by unfold Oper.quietAt; rw [hx w hS a ha]; exact ⟨rfl,rfl⟩) h
theorem Mw {QQ:Act→Prop} {d:Nat} (hw:Wn ops f o) (hd:o.dst=some d) (hN:Nat.blt d N=true)
   (h:GQ N (wpQuiet P ops (fun w=>S w L) QQ rest) ((d,undef) :: f) ds):GQ N (wpQuiet P ops (fun w=>S w L) QQ (o :: rest)) f ds:=fun a ha =>
 wpQuiet_step fun K hK=>by
   rw [if_neg (by rw [hw.unwanted ha]; simp),hd]
   exact hK _ (h _ (ha.put d hN _))
def pg (P:Program) (f:Fr) (w:World):List ResultVar→List Value→Prop
 | [],[]=>True
 | .tmp t :: r,v :: vs=>gt f t=some v∧pg P f w r vs
 | .cell a t :: r,v :: vs=>(∃ ad,gt f a=some (.pointer (some ad))∧(loadVar t ad).run P w=.ok v w)∧pg P f w r vs
 | _,_=>False
def AB (tm:Array Value):ResultVar→Sem Value
 | .tmp t=>pure (tm.getD t undef)
 | .cell a t=>do loadVar t (← asAddr (tm.getD a undef))
theorem uP {a:Act} (ha:jX N a f ds):∀ {l:List ResultVar} {vs:List Value},pg P f w l vs→(l.mapM (AB a.tmps)).run P w=Result.ok vs w
 | [],[],_=>rfl
 | [],_ :: _,h=>h.elim
 | .tmp t :: r,v :: vs,⟨h1,h2⟩=>by
   have e:a.tmps.getD t undef=v:=by rw [Array.getD_eq_getD_getElem?,ha.get t v h1]; rfl
   simp only [List.mapM_cons,AB,e,Sem.run_bind,Sem.run_pure,Result.andThen_ok,uP ha h2]
 | .cell b t :: r,v :: vs,⟨⟨ad,h1,h3⟩,h2⟩=>by
   have e:a.tmps.getD b undef=.pointer (some ad):=by rw [Array.getD_eq_getD_getElem?,ha.get b _ h1]; rfl
   simp only [List.mapM_cons,AB,e,Sem.run_bind,Sem.run_pure,Result.andThen_ok,uP ha h2,asAddr,h3]
 | .tmp t :: r,[],h=>(show False from h).elim
 | .cell b t :: r,[],h=>(show False from h).elim
theorem CW (fn:Func) (tm:Array Value):results fn tm=(do let vs ← fn.results.mapM (AB tm); pure (if h:vs.size=1 then vs[0] else Value.tuple vs)):=by
 unfold results
 congr 2
def dQ:List Value→Value
 | [v]=>v
 | vs=>.tuple vs.toArray
theorem jB {fn:Func} {rs:List ResultVar} {vs:List Value} {a:Act} (ha:jX N a f ds) (hr:fn.results=rs.toArray) (h:pg P f w rs vs):(results fn a.tmps).run P w=.ok (dQ vs) w:=by
 rw [CW,hr]
 have:=uP ha h
 have e2:(rs.toArray.mapM (AB a.tmps)).run P w=.ok vs.toArray w:=by
   rw [List.mapM_toArray]
   simp [this]
 simp only [Sem.run_bind,e2,Result.andThen_ok,Sem.run_pure]
 match vs with
 | []=>rfl
 | [v]=>rfl
 | u :: v :: r=>simp [dQ]
theorem d5 {fn:Func} {R:Ending→World→Prop} (rs:List ResultVar) (vs:List Value) (hr:fn.results=rs.toArray) (h:pg P f w rs vs) (hR:R (.returned (dQ vs)) w):G N (bodyPost P fn R .ret) f [] w:=fun a ha =>
 ⟨ha.defers,_,jB ha hr h,hR⟩
theorem dO {fn:Func} {R:Ending→World→Prop} (rs:List ResultVar) (vs:List Value) (hr:fn.results=rs.toArray) (h:pg P f w rs vs) (hR:R (.returned (dQ vs)) w):G N (bodyPost P fn R .normal) f [] w:=fun a ha =>
 ⟨ha.defers,_,jB ha hr h,hR⟩
theorem fJ {fn:Func} {R:Ending→World→Prop} {c:List PanicEntry} (hR:R (.panicked c) w):G N (bodyPost P fn R (.panic c)) f [] w:=fun a ha=>⟨ha.defers,hR⟩
end
section
variable {P:Program} {N:Nat} {f:Fr} {ds:List Deferred} {w w':World} {o:Oper} {L:List aD}
theorem fH {v:Value} {x:Sem Value} (h:∀ a,jX N a f ds→execOp a.eval o=(do pure (.value (← x)))) (hx:x.run P w=.ok v w'):Ex P N f ds o w v w':=fun a ha=>by
 rw [h a ha]; simp [hx]
theorem bY {x:Operand} {v:Value} (ho:o.op=.move x) (hx:cy f x=some v):Ex P N f ds o w v w:=fun a ha=>by
 unfold execOp; simp only [ho,ha.eval hx]; rfl
theorem jS {x:Operand} {v:Value} (ho:o.op=.assign x) (hx:cy f x=some v):Ex P N f ds o w v w:=fun a ha=>by
 unfold execOp; simp only [ho,ha.eval hx]; rfl
def iM (P:Program) (op:BinOp) (t:TypeId) (x y:Operand) (a b:Value) (w:World) (v:Value):Prop:=(do eqGuard op t x y a b; binOp op t a b:Sem Value).run P w=.ok v w
theorem ai {op:BinOp} {t ty:TypeId} {x y:Operand} {vx vy v:Value} (ho:o.op=.binOp op t x y ty) (hx:cy f x=some vx) (hy:cy f y=some vy) (hb:iM P op t x y vx vy w v):Ex P N f ds o w v w:=
 fH (fun a ha=>by unfold execOp; simp only [ho,ha.eval hx,ha.eval hy]) hb
section
variable {t:TypeId} {xo yo:Operand} {k:IntKind} {x y r:Int}
theorem fY {op:BinOp}:(eqGuard op t xo yo (.int k x) (.int k y)).run P w=.ok () w:=by unfold eqGuard; cases op <;> rfl
theorem dY (h:k.wrap (x+y)=r):iM P .add t xo yo (.int k x) (.int k y) w (.int k r):=by
 unfold iM; rw [Sem.run_bind,fY]; simp [binOp,Op.intArith,h]
theorem vj (h:k.wrap (x - y)=r):iM P .sub t xo yo (.int k x) (.int k y) w (.int k r):=by
 unfold iM; rw [Sem.run_bind,fY]; simp [binOp,Op.intArith,h]
theorem tO (h:k.wrap (x * y)=r):iM P .mul t xo yo (.int k x) (.int k y) w (.int k r):=by
 unfold iM; rw [Sem.run_bind,fY]; simp [binOp,Op.intArith,h]
theorem MF (hy:y ≠ 0) (h:k.wrap (x.tdiv y)=r):iM P .quo t xo yo (.int k x) (.int k y) w (.int k r):=by
 unfold iM; rw [Sem.run_bind,fY]; simp [binOp,Op.intDiv,h,hy]
theorem yR (hy:y ≠ 0) (h:x.tmod y=r):iM P .rem t xo yo (.int k x) (.int k y) w (.int k r):=by
 unfold iM; rw [Sem.run_bind,fY]; simp [binOp,Op.intDiv,h,hy]
theorem dG:iM P .lss t xo yo (.int k x) (.int k y) w (.bool (decide (x<y))):=by
 unfold iM; rw [Sem.run_bind,fY]; simp [binOp,Op.intCmp]
theorem pA:iM P .leq t xo yo (.int k x) (.int k y) w (.bool (decide (x≤y))):=by
 unfold iM; rw [Sem.run_bind,fY]; simp [binOp,Op.intCmp]
theorem fK:iM P .gtr t xo yo (.int k x) (.int k y) w (.bool (decide (y<x))):=by
 unfold iM; rw [Sem.run_bind,fY]; simp [binOp,Op.intCmp]
theorem nm:iM P .geq t xo yo (.int k x) (.int k y) w (.bool (decide (y≤x))):=by
 unfold iM; rw [Sem.run_bind,fY]; simp [binOp,Op.intCmp]
theorem f7:iM P .eql t xo yo (.int k x) (.int k y) w (.bool (decide (x=y))):=by
 unfold iM; rw [Sem.run_bind,fY]; simp [binOp,Op.intCmp]; rfl
theorem eh:iM P .neq t xo yo (.int k x) (.int k y) w (.bool (!decide (x=y))):=by
 unfold iM; rw [Sem.run_bind,fY]; simp [binOp,Op.intCmp]; rfl
theorem wP {op:BinOp} (hop:op=.and∨op=.or∨op=.xor∨op=.andNot) {v:Value} (h:(Op.intBits op k x y).run P w=.ok v w):iM P op t xo yo (.int k x) (.int k y) w v:=by
 unfold iM; rw [Sem.run_bind,fY]
 rcases hop with rfl | rfl | rfl | rfl <;> simp [binOp,h]
theorem QW {n:Nat} {yk:IntKind} (h:k.wrap (x * 2 ^ (min n k.bits))=r):iM P .shl t xo yo (.int k x) (.int yk n) w (.int k r):=by
 have:(eqGuard .shl t xo yo (.int k x) (.int yk n)).run P w=.ok () w:=rfl
 unfold iM; have h0:¬ ((n:Int)<0):=by omega
 rw [Sem.run_bind,this]; simp [binOp,Op.shift,h,h0]
theorem QV {n:Nat} {yk:IntKind} (h:x.fdiv (2 ^ (min n k.bits))=r):iM P .shr t xo yo (.int k x) (.int yk n) w (.int k r):=by
 have:(eqGuard .shr t xo yo (.int k x) (.int yk n)).run P w=.ok () w:=rfl
 unfold iM; have h0:¬ ((n:Int)<0):=by omega
 rw [Sem.run_bind,this]; simp [binOp,Op.shift,h,h0]
theorem jD {n:Int} (h:-9223372036854775808≤n∧n≤9223372036854775807):IntKind.i64.wrap n=n:=IntWalk.i64_in n h
theorem Q3 {n:Int} (h:0≤n∧n≤255):IntKind.u8.wrap n=n:=IntWalk.u8_in n h
theorem Qq {x y:Int} (h:0≤x∧x≤9223372036854775807∧1≤y):IntKind.i64.wrap (x.tdiv y)=x / y:=IntWalk.i64_quo x y h
theorem EZ {x y:Int} (h:0≤x):x.tmod y=x % y:=Int.tmod_eq_emod_of_nonneg h
end
section
variable {t:TypeId} {xo yo:Operand}
theorem jw (n a:Nat):BitVec.ofInt n (a:Int)=BitVec.ofNat n a:=by
 apply BitVec.eq_of_toNat_eq
 simp [BitVec.toNat_ofInt]
end
section
variable {t:TypeId} {xo yo:Operand} {x y:ByteArray}
theorem zp {op:BinOp}:(eqGuard op t xo yo (.string x) (.string y)).run P w=.ok () w:=by unfold eqGuard; cases op <;> rfl
theorem LG (x y:ByteArray):(x.toList == y.toList)=decide (x=y):=by
 rw [Bool.eq_iff_iff]; simp only [beq_iff_eq,decide_eq_true_eq]
 constructor
 · intro h
   apply ByteArray.ext
   rw [← Array.toList_inj]
   rw [ByteArray.toList_eq,ByteArray.toList_eq] at h
   exact h
 · rintro rfl; rfl
theorem yS (h:x.size+y.size≤9223372036854775807):iM P .add t xo yo (.string x) (.string y) w (.string (x++y)):=by
 unfold iM; rw [Sem.run_bind,zp]
 have:¬ (((x.size+y.size:Nat):Int) > IntKind.i64.max):=by show ¬ ((9223372036854775807:Int)<_); omega
 simp only [binOp,Op.stringOp,Result.andThen_ok,if_neg this]; rfl
theorem QY:iM P .neq t xo yo (.string x) (.string y) w (.bool (!decide (x=y))):=by
 unfold iM; rw [Sem.run_bind,zp,← LG]; simp [binOp,Op.stringOp]
end
theorem cj {t:TypeId} {x:Operand} {b:Bool} (ho:o.op=.unOp .not t x) (hx:cy f x=some (.bool b)):Ex P N f ds o w (.bool (!b)) w:=
 fH (x:=Op.unary .not (.bool b)) (fun a ha=>by unfold execOp; simp only [ho,ha.eval hx]) rfl
theorem Mj {t:TypeId} {x:Operand} {k:IntKind} {n r:Int} (ho:o.op=.unOp .neg t x) (hx:cy f x=some (.int k n)) (h:k.wrap (0 - n)=r):Ex P N f ds o w (.int k r) w:=
 fH (x:=Op.unary .neg (.int k n)) (fun a ha=>by unfold execOp; simp only [ho,ha.eval hx]) (by simp [Op.unary,Op.intArith,← h])
theorem fg {s d:TypeId} {x:Operand} {k k':IntKind} {n r:Int} {dsc:TypeDesc} (ho:o.op=.convert s d x) (hx:cy f x=some (.int k n)) (hs:P.underlying s=some dsc) (hu:P.underlying d=some (.int k')) (h:k'.wrap n=r):Ex P N f ds o w (.int k' r) w:=
 fH (x:=convert s d (.int k n)) (fun a ha=>by unfold execOp; simp only [ho,ha.eval hx]) (by
   unfold convert
   simp only [Sem.run_bind,run_underlying hs,run_underlying hu,Result.andThen_ok]
   simp [Conv.intToInt,h])
def jW (P:Program) (t:TypeId):Option Nat:=(P.info? t).map (·.size)
def tw (P:Program) (t:TypeId):Option Value:=(P.info? t).bind (·.zero)
def jF:TypeDesc→Bool | .struct _ | .array _ _=>true | _=>false
def u_ (P:Program) (t i:Nat):Option Nat:=
 match P.underlying t with
 | some (.struct fs)=>match fs[i]? with
   | some f=>match P.info? f.type with
     | some ii=>if ii.size=0 then none else some f.offset
     | none=>none
   | none=>none
 | _=>none
theorem iZ {t n:Nat} (h:jW P t=some n) (w:World):(sizeOf t).run P w=.ok n w:=by
 unfold jW at h
 cases hi:P.info? t with
 | none=>simp [hi] at h
 | some i=>simp [hi] at h; simp [sizeOf,typeInfo,hi,h]
theorem zJ {t:Nat} {z:Value} (h:tw P t=some z) (w:World):(zeroValue t).run P w=.ok z w:=by
 unfold tw at h
 cases hi:P.info? t with
 | none=>simp [hi] at h
 | some i =>
   simp [hi] at h
   simp [zeroValue,typeInfo,hi,h]
theorem JG {t:TypeId} {z:Value} (ho:o.op=.alloc t) (hz:tw P t=some z):Ex P N f ds o w (.pointer (some ⟨w.heap.size,0,none⟩)) (w.alloc (.cells z.cells t (0,0))):=
 fH (x:=Instr.alloc t true (.tuple #[])) (fun a ha=>by unfold execOp; simp only [ho]) (by
   unfold Instr.alloc
   simp only [Sem.run_bind,zJ hz,Result.andThen_ok]
   rfl)
theorem Qb {t:TypeId} {x:Operand} {v:Value} (ho:o.op=.box t x) (hx:cy f x=some v):Ex P N f ds o w (.pointer (some ⟨w.heap.size,0,none⟩)) (w.alloc (.cells v.cells t (0,0))):=
 fH (x:=Instr.box t v) (fun a ha=>by unfold execOp; simp only [ho,ha.eval hx]) rfl
theorem iL (g o j:Nat):(⟨g,o,none⟩:Addr).add j=⟨g,o+j,none⟩:=by unfold Addr.add; split <;> simp_all
theorem c_ {s i n:Nat} {x:Operand} {g off off':Nat} (ho:o.op=.fieldAddr s x i) (hx:cy f x=some (.pointer (some ⟨g,off,none⟩))) (hf:u_ P s i=some n) (he:off+n=off'):Ex P N f ds o w (.pointer (some ⟨g,off',none⟩)) w:=
 fH (x:=Instr.fieldAt s (.pointer (some ⟨g,off,none⟩)) i) (fun a ha=>by unfold execOp; simp only [ho,ha.eval hx]) (by
   subst he
   unfold u_ at hf
   split at hf
   · rename_i fs hu
     split at hf
     · rename_i fd hfd
       split at hf
       · rename_i ii hii
         split at hf
         · cases hf
         · rename_i hne
           cases hf
           unfold Instr.fieldAt
           simp only [Sem.run_bind,run_underlying hu,Result.andThen_ok,hfd,Instr.sureAddr,Sem.run_pure,fieldPlace,iZ (show jW P fd.type=some ii.size by simp [jW,hii]),if_neg hne,iL]
       · cases hf
     · cases hf
   · cases hf)
theorem dp {t:TypeId} {d:TypeDesc} {p:Addr} {v:Value} (hu:P.underlying t=some d) (hd:jF d=false) (hc:w.cell? p=some v):(loadVar t p).run P w=.ok v w:=by
 unfold loadVar isAgg
 simp only [Sem.run_bind,run_underlying hu,Result.andThen_ok]
 have:(load p).run P w=.ok v w:=by simp [load,Sem.run,hc]
 cases d <;> simp [jF] at hd <;> simp only [Sem.run_pure,Result.andThen_ok,Bool.false_eq_true,if_false,this]
theorem uH {t:TypeId} {x:Operand} {p:Addr} {v:Value} (ho:o.op=.load t x) (hx:cy f x=some (.pointer (some p))) (h:(loadVar t p).run P w=.ok v w):Ex P N f ds o w v w:=
 fH (x:=Instr.loadAt t (.pointer (some p))) (fun a ha=>by unfold execOp; simp only [ho,ha.eval hx]) (by
   unfold Instr.loadAt
   simp only [Sem.run_bind,Instr.sureAddr,Sem.run_pure,Result.andThen_ok,h])
theorem gi {t:TypeId} {d:TypeDesc} {x:Operand} {g i:Nat} {cs:Array Value} {e:TypeId} {fr:Nat × Nat} {v:Value} (H:S w L) (k:Nat) (ho:o.op=.load t x) (hx:cy f x=some (.pointer (some ⟨g,i,none⟩))) (hu:P.underlying t=some d) (hd:jF d=false)
   (hk:L[k]?=some (Ob g (.cells cs e fr))) (hv:cs[i]?=some v):Ex P N f ds o w v w:=uH ho hx (dp hu hd (H.cell hk hv))
theorem dK {t:TypeId} {d:TypeDesc} {g i n:Nat} {cs:Array Value} {e:TypeId} {fr:Nat × Nat} {vs:Array Value} (hg:w.heap[g]?=some (.cells cs e fr)) (hu:P.underlying t=some d) (hd:jF d=true) (hn:jW P t=some n) (hl:Nat.ble (i+n) cs.size=true)
   (hv:cs.extract i (i+n)=vs):(loadVar t ⟨g,i,none⟩).run P w=.ok (.agg vs) w:=by
 subst hv
 have hl:=Nat.le_of_ble_eq_true hl
 have hsz:(cs.extract i (i+n)).toList.length=n:=by simp; omega
 have h:=run_loadCells_list (P:=P) w ⟨g,i,none⟩ (cs.extract i (i+n)).toList (fun j v hj=>by
   rw [iL,cell_of_row w g (i+j) cs e fr hg]
   have hj':=hj
   rw [Array.getElem?_toList] at hj'
   rw [Array.getElem?_extract] at hj'
   split at hj'
   · exact hj'
   · cases hj')
 rw [hsz,Array.toArray_toList] at h
 unfold loadVar isAgg
 simp only [Sem.run_bind,run_underlying hu,Result.andThen_ok]
 cases d <;> simp [jF] at hd <;> simp only [Sem.run_bind,Sem.run_pure,Result.andThen_ok,if_true,iZ hn,h]
theorem iN {t:TypeId} {d:TypeDesc} {x:Operand} {g i n:Nat} {cs:Array Value} {e:TypeId} {fr:Nat × Nat} {vs:Array Value} (H:S w L) (k:Nat) (ho:o.op=.load t x) (hx:cy f x=some (.pointer (some ⟨g,i,none⟩))) (hu:P.underlying t=some d) (hd:jF d=true)
   (hn:jW P t=some n) (hk:L[k]?=some (Ob g (.cells cs e fr))) (hl:Nat.ble (i+n) cs.size=true) (hv:cs.extract i (i+n)=vs):Ex P N f ds o w (.agg vs) w:=uH ho hx (dK (H.ob hk) hu hd hn hl hv)
theorem nQ {t:TypeId} {x y:Operand} {p:Addr} {v:Value} (ho:o.op=.store t x y) (hx:cy f x=some (.pointer (some p))) (hy:cy f y=some v) (h:(storeVar t p v).run P w=.ok () w'):Sz P N f ds o w w':=fun a ha=>by
 unfold execOp
 simp only [ho,ha.eval hx,ha.eval hy,Instr.storeAt,Instr.sureAddr,Sem.run_bind,Sem.run_pure,Result.andThen_ok,h]
theorem oW {t:TypeId} {g i:Nat} {cs:Array Value} {e:TypeId} {v:Value} (hg:w.heap[g]?=some (.cells cs e (0,0))) (hn:jW P t=some v.cells.size) (hl:i+v.cells.size≤cs.size) (h1:∀ u∈v.cells.toList,u.oneCell'=true) :
   (storeVar t ⟨g,i,none⟩ v).run P w=.ok () (w.setRow g (cs.toList.take i++v.cells.toList++cs.toList.drop (i+v.cells.size)).toArray):=by
 have h:=run_storeCells_at P g i e v.cells.toList 0 cs w hg (by simpa using hl) h1
 unfold storeVar
 simp only [Sem.run_bind,iZ hn,Result.andThen_ok]
 simpa using h
theorem b_ {ops:Array Oper} {K:Act→World→Prop} {Q:Exit→Act→World→Prop} {t:TypeId} {x y:Operand} {g i:Nat} {cs cs':Array Value} {e:TypeId} {v:Value} (H:S w L) (k:Nat) (hw:Wt ops f o) (hd:o.dst=none) (ho:o.op=.store t x y) (hx:cy f x=some (.pointer (some ⟨g,i,none⟩)))
   (hy:cy f y=some v) (hk:L[k]?=some (Ob g (.cells cs e (0,0)))) (hn:jW P t=some v.cells.size) (hl:Nat.ble (i+v.cells.size) cs.size=true) (h1:v.cells.toList.all (·.oneCell')=true)
   (hc:(cs.toList.take i++v.cells.toList++cs.toList.drop (i+v.cells.size)).toArray=cs') (h:∀ w',S w' (L.set k (Ob g (.cells cs' e (0,0))))→G N K f ds w'):G N (bH P ops Q o K) f ds w:=
 uJ hw hd (nQ ho hx hy (oW (H.ob hk) hn (Nat.le_of_ble_eq_true hl) (List.all_eq_true.1 h1))) (h _ (by rw [hc]; exact H.setRow hk cs'))
theorem yO {ops:Array Oper} {K:Act→World→Prop} {Q:Exit→Act→World→Prop} {d:Nat} {b:Obj} {v:Nat→Value} (H:S w L) (hw:Wt ops f o) (hd:o.dst=some d) (hN:Nat.blt d N=true) (hx:Ex P N f ds o w (v w.heap.size) (w.alloc b))
   (h:∀ g w',S w' (Ob g b :: L)→G N K ((d,v g) :: f) ds w'):G N (bH P ops Q o K) f ds w:=
 aJ hw hd hN hx (h _ _ (H.alloc b))
theorem J3 {ops:Array Oper} {K:Act→World→Prop} {Q:Exit→Act→World→Prop} {d:Nat} {t:TypeId} {z:Value} (H:S w L) (hw:Wt ops f o) (hd:o.dst=some d) (hN:Nat.blt d N=true) (ho:o.op=.alloc t) (hz:tw P t=some z)
   (h:∀ g w',S w' (Ob g (.cells z.cells t (0,0)) :: L)→G N K ((d,.pointer (some ⟨g,0,none⟩)) :: f) ds w'):G N (bH P ops Q o K) f ds w:=
 yO (v:=fun g=>.pointer (some ⟨g,0,none⟩)) H hw hd hN (JG ho hz) h
theorem Qj {ops:Array Oper} {K:Act→World→Prop} {Q:Exit→Act→World→Prop} {d:Nat} {t:TypeId} {x:Operand} {v:Value} (H:S w L) (hw:Wt ops f o) (hd:o.dst=some d) (hN:Nat.blt d N=true) (ho:o.op=.box t x) (hx:cy f x=some v)
   (h:∀ g w',S w' (Ob g (.cells v.cells t (0,0)) :: L)→G N K ((d,.pointer (some ⟨g,0,none⟩)) :: f) ds w'):G N (bH P ops Q o K) f ds w:=
 yO (v:=fun g=>.pointer (some ⟨g,0,none⟩)) H hw hd hN (Qb ho hx) h
theorem fm {x:Operand} {p:Addr} (ho:o.op=.nilCheck x) (hx:cy f x=some (.pointer (some p))):Ex P N f ds o w (.pointer (some p)) w:=fun a ha=>by
 unfold execOp; simp only [ho,ha.eval hx]; rfl
theorem E8 {x:Operand} {i:Nat} {vs:Array Value} {v:Value} (ho:o.op=.extract x i) (hx:cy f x=some (.tuple vs)) (hv:vs[i]?=some v):Ex P N f ds o w v w:=
 fH (x:=Instr.extract (.tuple vs) i) (fun a ha=>by unfold execOp; simp only [ho,ha.eval hx]) (by simp [Instr.extract,hv])
theorem Af {a:Act} (ha:jX N a f ds):∀ {ps:List (Nat × Operand)} {vs:List Value},rj f (ps.map (·.2))=some vs→(ps.map fun (i,x)=>(i,a.eval x))=(ps.map (·.1)).zip vs
 | [],vs,h=>by simp
 | (i,x) :: r,vs,h=>by
   simp only [List.map_cons] at h
   unfold rj at h
   split at h
   · rename_i v us hv hu
     cases h
     have:=Af ha hu
     simp only [List.map_cons,ha.eval hv,List.zip_cons_cons,this]
   · cases h
theorem JF {t:TypeId} {ps:Array (Nat × Operand)} {vs:List Value} {cells:Array Value} (ho:o.op=.build t ps) (hx:rj f (ps.toList.map (·.2))=some vs) (hb:P.built t ((ps.toList.map (·.1)).zip vs)=some cells):Ex P N f ds o w (.agg cells) w:=fun a ha=>by
 unfold execOp
 have h1:(ps.map fun (i,x)=>(i,a.eval x)).toList=(ps.toList.map (·.1)).zip vs:=by rw [Array.toList_map]; exact Af ha hx
 simp only [ho,Sem.run_bind,run_build w t _ cells (by rw [h1]; exact hb),Result.andThen_ok]; rfl
theorem JE {t i n m:Nat} {x:Operand} {cs:Array Value} {v:Value} {fs:Array Field} {fd:Field} (ho:o.op=.field t x i) (hx:cy f x=some (.agg cs)) (hu:P.underlying t=some (.struct fs)) (hf:fs[i]?=some fd) (hp:(part fd.type cs fd.offset).run P w=.ok v w):Ex P N f ds o w v w:=
 fH (x:=Instr.field t (.agg cs) i) (fun a ha=>by unfold execOp; simp only [ho,ha.eval hx]) (by
   unfold Instr.field
   simp only [Sem.run_bind,run_underlying hu,Result.andThen_ok,hf,asAgg,Sem.run_pure,hp])
theorem za {t:TypeId} {d:TypeDesc} {cs:Array Value} {i:Nat} {v:Value} (hu:P.underlying t=some d) (hd:jF d=false) (hv:cs[i]?=some v):(part t cs i).run P w=.ok v w:=by
 unfold part isAgg
 simp only [Sem.run_bind,run_underlying hu,Result.andThen_ok]
 cases d <;> simp [jF] at hd <;> simp [hv]
theorem dH {c x y:Operand} {b:Bool} {v:Value} (ho:o.op=.pick c x y) (hc:cy f c=some (.bool b)) (hb:b=true) (hx:cy f x=some v):Ex P N f ds o w v w:=fun a ha=>by
 unfold execOp; simp only [ho,ha.eval hx,ha.eval hc,asBool,hb]; rfl
theorem cH {c x y:Operand} {b:Bool} {v:Value} (ho:o.op=.pick c x y) (hc:cy f c=some (.bool b)) (hb:b=false) (hx:cy f y=some v):Ex P N f ds o w v w:=fun a ha=>by
 unfold execOp; simp only [ho,ha.eval hx,ha.eval hc,asBool,hb]; rfl
theorem h_ {fn:Fn} {first captured:Array Operand} {v1 v2:List Value} (ho:o.op=.makeFunc fn first captured) (h1:rj f first.toList=some v1) (h2:rj f captured.toList=some v2):Ex P N f ds o w (.func fn v1.toArray v2.toArray) w:=fun a ha=>by
 unfold execOp; simp only [ho,ha.evalsA h1,ha.evalsA h2]; rfl
theorem aa {a b:Bool} (h:a=b):(!a)=!b:=by rw [h]
theorem nt {p:Prop} [Decidable p] (h:¬ p):(!decide p)=true:=by simpa using h
theorem nf {p:Prop} [Decidable p] (h:p):(!decide p)=false:=by simpa using h
def mask:List Bool→List aD→List aD
 | true :: m,it :: L=>it :: mask m L
 | false :: m,_ :: L=>mask m L
 | _,_=>[]
theorem xi:∀ (m:List Bool) (L:List aD),(mask m L).Sublist L
 | true :: m,it :: L=>(xi m L).cons_cons it
 | false :: m,it :: L=>(xi m L).cons it
 | [],L=>by unfold mask; exact List.nil_sublist _
 | true :: _,[]=>by unfold mask; exact List.nil_sublist _
 | false :: _,[]=>by unfold mask; exact List.nil_sublist _
theorem S.mask {w:World} {L:List aD} (h:S w L) (m:List Bool):S w (mask m L):=h.sublist (xi m L)
def aI (P : Program) (g : FuncId) : Bool := match P.funcs[g]? with | some fn => !(fn.name == "runtime.NumGoroutine") && fn.body.isSome | none => false
theorem jV {g:FuncId} (h:aI P g=true) (args:Array Value):(callFunc g args).run P w=.ok (.enter g args) w:=by
 unfold aI at h
 split at h
 · rename_i fn hf
   simp only [Bool.and_eq_true,Bool.not_eq_true'] at h
   unfold callFunc
   have h1 : ¬ fn.name = "runtime.NumGoroutine" := by simpa using h.1
   simp [hf,h1,program,Sem.run,Option.isNone_iff_eq_none,Option.isSome_iff_ne_none.1 h.2]
 · cases h
theorem gQ {x:Operand} {g:FuncId} {args:Array Operand} {ts:Array TypeId} {first captured:Array Value} {vs:List Value} (ho:o.op=.call { callee:=.value x,args:=args,argTypes:=ts }) (hx:cy f x=some (.func (.func g) first captured)) (hv:rj f args.toList=some vs)
   (hg:aI P g=true):Q5 P N f ds o w g (first.toList++vs++captured.toList) w:=fun a ha=>by
 unfold execOp
 have he:args.map a.eval=vs.toArray:=ha.evalsA hv
 simp only [ho,resolve,ha.eval hx,Deferred.ofValue,Sem.run_bind,Sem.run_pure,Result.andThen_ok,invoke,he,jV hg]
 congr 2
 apply Array.ext'
 simp
theorem aP {g:FuncId} {args:Array Operand} {ts:Array TypeId} {vs:List Value} (ho:o.op=.call { callee:=.value (.func g),args:=args,argTypes:=ts }) (hv:rj f args.toList=some vs) (hg:aI P g=true):Q5 P N f ds o w g vs w:=fun a ha=>by
 have:=gQ (P:=P) (N:=N) (f:=f) (ds:=ds) (w:=w) (o:=o) (first:=#[]) (captured:=#[]) ho rfl hv hg a ha
 simpa using this
theorem fW {b:Builtin} {args:Array Operand} {ts:Array TypeId} {vs:List Value} {v:Value} (ho:o.op=.call { callee:=.builtin b,args:=args,argTypes:=ts }) (hv:rj f args.toList=some vs)
   (h:∀ cs,(builtin b ts o.type cs vs.toArray).run P w=.ok (.value v) w'):Ex P N f ds o w v w':=fun a ha=>by
 unfold execOp
 have he:args.map a.eval=vs.toArray:=ha.evalsA hv
 simp only [ho,resolve,Sem.run_bind,Sem.run_pure,Result.andThen_ok,invoke,he]
 exact h _
theorem iJ {x:Operand} {t:TypeId} {s:ByteArray} (ho:o.op=.call { callee:=.builtin .len,args:=#[x],argTypes:=#[t] }) (hx:cy f x=some (.string s)) (hu:P.underlying t=some .string):Ex P N f ds o w (.int .i64 s.size) w:=
 fW (vs:=[.string s]) ho (by simp only [rj,hx]) (fun cs=>by simp [builtin,Builtin.len_,run_underlying hu,goInt])
theorem GP {x:Operand} {t e:TypeId} {p:Option Addr} {n c:Nat} (ho:o.op=.call { callee:=.builtin .len,args:=#[x],argTypes:=#[t] }) (hx:cy f x=some (.slice p n c)) (hu:P.underlying t=some (.slice e)):Ex P N f ds o w (.int .i64 n) w:=
 fW (vs:=[.slice p n c]) ho (by simp only [rj,hx]) (fun cs=>by simp [builtin,Builtin.len_,run_underlying hu,goInt])
theorem yL {x y:Operand} {ts:Array TypeId} {k:IntKind} {a b:Int} (ho:o.op=.call { callee:=.builtin .min,args:=#[x,y],argTypes:=ts }) (hx:cy f x=some (.int k a)) (hy:cy f y=some (.int k b)):Ex P N f ds o w (.int k (min a b)) w:=
 fW (vs:=[.int k a,.int k b]) ho (by simp only [rj,hx,hy]) (fun cs=>by
   have:(if b<a then b else a)=min a b:=by rw [Int.min_def]; split <;> split <;> omega
   simp [builtin,Builtin.min_,Builtin.min2,this])
theorem Mk {x y:Operand} {ts:Array TypeId} {k:IntKind} {a b:Int} (ho:o.op=.call { callee:=.builtin .max,args:=#[x,y],argTypes:=ts }) (hx:cy f x=some (.int k a)) (hy:cy f y=some (.int k b)):Ex P N f ds o w (.int k (max a b)) w:=
 fW (vs:=[.int k a,.int k b]) ho (by simp only [rj,hx,hy]) (fun cs=>by
   have:(if a<b then b else a)=max a b:=by rw [Int.max_def]; split <;> split <;> omega
   simp [builtin,Builtin.max_,Builtin.max2,this])
def jY (s:ByteArray) (i:Nat):Nat:=(s.data.toList[i]?.getD 0).toNat
theorem iE (s:ByteArray) (i:Nat):jY s i<256:=UInt8.toNat_lt _
theorem tQ {t:TypeId} {x y:Operand} {s:ByteArray} {k:IntKind} {i:Int} (n:Nat) (ho:o.op=.index t x y) (hx:cy f x=some (.string s)) (hy:cy f y=some (.int k i)) (hu:P.underlying t=some .string) (hb:i=(n:Int)∧n<s.size):Ex P N f ds o w (.int .u8 (jY s n)) w:=
 fH (x:=Instr.index t (.string s) (.int k i)) (fun a ha=>by unfold execOp; simp only [ho,ha.eval hx,ha.eval hy]) (by
   obtain ⟨rfl,hi⟩:=hb
   have e:s[n]?=some (s[n]'hi):=getElem?_pos s n hi
   have e2:jY s n=(s[n]'hi).toNat:=by
     unfold jY
     rw [List.getElem?_eq_getElem (by simpa using hi)]; rfl
   have h0:(0:Int)≤(n:Int):=by omega
   unfold Instr.index
   simp only [asIntOf,Sem.run_bind,Sem.run_pure,Result.andThen_ok,run_underlying hu,if_pos h0,Int.toNat_natCast,e,e2])
theorem qR {k:IntKind} {i:Int} {y:Nat} {c:BoundsCode} (h:0≤i∧i≤y):(Instr.sliceBound (.int k i) y c).run P w=.ok i.toNat w:=by
 simp [Instr.sliceBound,asIntOf,h]
theorem AQ {t:TypeId} {x:Operand} {lo hi:Option Operand} {s:ByteArray} (l h:Nat) (ho:o.op=.slice t x lo hi none) (hx:cy f x=some (.string s)) (hu:P.underlying t=some .string)
   (hlo:(lo=none∧l=0)∨∃ y k i,lo=some y∧cy f y=some (.int k i)∧i=(l:Int)) (hhi:(hi=none∧h=s.size)∨∃ y k i,hi=some y∧cy f y=some (.int k i)∧i=(h:Int)) (hb:l≤h∧h≤s.size):Ex P N f ds o w (.string (s.extract l h)) w:=fun a ha=>by
 unfold execOp
 simp only [ho,ha.eval hx,Instr.sliceAt,Sem.run_bind,run_underlying hu,Result.andThen_ok,Instr.slice,Option.map_none,Option.isSome_none,Bool.false_eq_true,if_false,Sem.run_pure]
 have:(Instr.sliceBounds false s.size s.size (lo.map a.eval) (hi.map a.eval) none).run P w=.ok (l,h,s.size) w:=by
   unfold Instr.sliceBounds
   rcases hlo with ⟨rfl,rfl⟩ | ⟨y,k,i,rfl,e,rfl⟩ <;> rcases hhi with ⟨rfl,rfl⟩ | ⟨y',k',i',rfl,e',rfl⟩
   · simp
   · simp only [Option.map_some,ha.eval e',Option.map_none]
     simp [qR (P:=P) (w:=w) (k:=k') (i:=(h:Int)) (y:=s.size) (by omega)]
   · simp only [Option.map_some,ha.eval e,Option.map_none]
     simp [qR (P:=P) (w:=w) (k:=k) (i:=(l:Int)) (y:=s.size) (by omega)]
   · simp only [Option.map_some,ha.eval e,ha.eval e']
     simp [qR (P:=P) (w:=w) (k:=k') (i:=(h:Int)) (y:=s.size) (by omega),qR (P:=P) (w:=w) (k:=k) (i:=(l:Int)) (y:=h) (by omega)]
 simp [this]
end
/-! ## A region that draws its order, in general: what may be taken first is taken first; of what is left each order is walked.
  C: the class of worlds in which what is taken first yields its value; T: the operations behind which the class need not hold (they wait for all that hangs on it). -/
section
variable {P:Program} {N:Nat} {ops:Array Oper} {Q:Exit→Act→World→Prop} {md:Region.Mode} {C S':World→Prop} {T:List Nat} {f:Fr} {ds:List Deferred} {w:World} {listed:Array Bool} {fuel:Nat} {K:Act→World→Prop}
def cF (P:Program) (md:Region.Mode) (ops:Array Oper) (Q:Exit→Act→World→Prop) (C:World→Prop) (T:List Nat):Nat→Array Bool→Act→World→Prop
 | 0,listed,a,w=>Region.ready md ops listed=[]∧Q .normal a w
 | fuel+1,listed,a,w =>
   (Region.ready md ops listed=[]→Q .normal a w) ∧
   ∀ i∈Region.ready md ops listed,wpOp P ops Q i (fun a' w'=>(T.contains i=false→C w')∧cF P md ops Q C T fuel (listed.setIfInBounds i true) a' w') a w
theorem oS:∀ (fuel:Nat) (listed:Array Bool) (a:Act) (w:World),cF P md ops Q C T fuel listed a w→wpAny P md ops Q fuel listed a w
 | 0,_,_,_,h=>h
 | fuel+1,_,_,_,h=>⟨h.1,fun i hi=>wpOp_mono (fun a' w' h'=>oS fuel _ a' w' h'.2) (h.2 i hi)⟩
theorem o6 {i:Nat} {oi:Oper} {v:Value} (hi:ops[i]?=some oi) (hsel:∀ (j:Nat) (o:Oper) cs b,ops[j]?=some o→o.op ≠ .select cs b)
   (hQ:∀ c a w,Q (.panic c) (a.put oi.dst v) w→Q (.panic c) a w) (hC:∀ w,C w→S' w) (hT:∀ j oj,ops[j]?=some oj→T.contains j=true→(∃ e∈oj.after,Region.binds md e=true∧e.on=i)∨∀ w,S' w)
   (hCi:T.contains i=false→∀ w,S' w→C w) :
   ∀ (fuel:Nat) (listed:Array Bool) (a:Act) (w:World),
     (∀ j oj,ops[j]?=some oj→j ≠ i→listed.getD j true=false→(∀ e∈oj.after,Region.binds md e=true→e.on ≠ i)→oi.apart ops oj=true) →
     i∈Region.ready md ops listed→YieldsIf P ops S' oi v a→S' w →
     cF P md ops Q C T fuel (listed.setIfInBounds i true) (a.put oi.dst v) w→cF P md ops Q C T (fuel+1) listed a w:=by
 intro fuel
 induction fuel with
 | zero =>
   intro listed a w _ hr hy hS H
   refine ⟨fun h=>(by rw [h] at hr; cases hr),fun j hj=>?_⟩
   by_cases hji:j=i
   · subst hji; exact hy.wpOp hi hS ⟨fun h=>hCi h _ hS,H⟩
   · have:=ready_mono hj hji
     rw [H.1] at this
     cases this
 | succ fuel ih =>
   intro listed a w hfree hr hy hS H
   refine ⟨fun h=>(by rw [h] at hr; cases hr),fun j hj=>?_⟩
   by_cases hji:j=i
   · subst hji; exact hy.wpOp hi hS ⟨fun h=>hCi h _ hS,H⟩
   have h1:=H.2 j (ready_mono hj hji)
   obtain ⟨hjun,oj,hoj,hall⟩:=mem_ready.1 hj
   have hnot:∀ e∈oj.after,Region.binds md e=true→e.on ≠ i:=fun e he hb heq=>by
     have h1:=hall e he hb
     have h0:=(mem_ready.1 hr).1
     rw [heq] at h1
     rcases Nat.lt_or_ge i listed.size with h' | h'
     · simp [h'] at h0 h1; rw [h0] at h1; cases h1
     · simp [Array.getElem?_eq_none h'] at h1
   have h2:=wpOp_putIf hoj (hfree j oj hoj hji hjun hnot) (fun cs b=>hsel i oi cs b hi) (fun cs b=>hsel j oj cs b hoj) hQ hy h1
   have hfree':∀ k ok,ops[k]?=some ok→k ≠ i→(listed.setIfInBounds j true).getD k true=false →
       (∀ e∈ok.after,Region.binds md e=true→e.on ≠ i)→oi.apart ops ok=true:=fun k ok hk hki hun hno=>by
     refine hfree k ok hk hki ?_ hno
     by_cases hjk:j=k
     · subst hjk; exact hjun
     · rw [getD_set_ne true hjk] at hun; exact hun
   refine wpOp_mono (fun a' w' h3=>⟨h3.2.1,ih (listed.setIfInBounds j true) a' w' hfree' (ready_mono hr (Ne.symm hji)) h3.1 ?_ ?_⟩) h2
   · cases hTj:T.contains j with
     | false=>exact hC _ (h3.2.1 hTj)
     | true =>
       rcases hT j oj hoj hTj with ⟨e,he,hb,heq⟩ | h
       · exact absurd heq (hnot e he hb)
       exact h _
   rw [Array.setIfInBounds_comm _ _ hji]
   exact h3.2.2
def vf (md:Region.Mode) (ops:Array Oper) (T:List Nat) (i:Nat):Bool:=
 T.all fun j=>match ops[j]? with | some oj=>oj.after.any fun e=>Region.binds md e && Nat.beq e.on i | none=>true
theorem xK {i:Nat} (h:vf md ops T i=true):∀ j oj,ops[j]?=some oj→T.contains j=true→∃ e∈oj.after,Region.binds md e=true∧e.on=i:=fun j oj hj hT=>by
 have:=List.all_eq_true.1 h j (by simpa using hT)
 simp only [hj] at this
 obtain ⟨e,he,hb⟩:=Array.any_eq_true'.1 this
 simp only [Bool.and_eq_true] at hb
 exact ⟨e,he,hb.1,Nat.eq_of_beq_eq_true hb.2⟩
theorem nU {o:Oper} {v:Value} {a:Act} (ha:jX N a f ds) (hw:Wt ops f o) (hx:∀ w,S' w→Ex P N f ds o w v w):YieldsIf P ops S' o v a:=.inl ⟨hw.wanted ha,fun w h=>hx w h a ha⟩
theorem yT {o:Oper} {a:Act} (ha:jX N a f ds) (hw:Wn ops f o):YieldsIf P ops S' o undef a:=.inr ⟨hw.unwanted ha,rfl⟩
def cR (N:Nat) (f0:Fr) (ds:List Deferred) (Q:Exit→Act→World→Prop):Exit→Act→World→Prop
 | .panic c,a,w=>jX N a f0 ds∧G N (Q (.panic c)) f0 ds w
 | e,a,w=>Q e a w
theorem G1 {f0:Fr} {c:List PanicEntry} (hs:sub f0 f) (h:G N (Q (.panic c)) f0 ds w):G N (cR N f0 ds Q (.panic c)) f ds w:=fun a ha=>⟨ha.weak hs,h⟩
theorem oH {f0:Fr} {d:Nat} {v:Value} (hd:gt f0 d=none) {a:Act} (h:jX N (a.put (some d) v) f0 ds):jX N a f0 ds:=
 ⟨by have:=h.size; simpa [Act.put] using this,fun t u ht=>by
   have:=h.get t u ht
   have hne:d ≠ t:=fun e=>by subst e; rw [hd] at ht; cases ht
   simpa [Act.put,hne] using this,h.defers⟩
theorem g_any {id:Nat} {l:List Oper} {L:List aD} (f0:Fr) (C:World→Prop) (T:List Nat) (hm:P.follows .mixedOrders=true) (H:S w L) (h:∀ w,S w L→G N (cF P .any l.toArray (cR N f0 ds Q) C T l.length (Array.replicate l.length false)) f ds w):G N ((Code.region id l.toArray true).wp P Q) f ds w:=fun a ha=>by
 refine wp_mono (Q:=cR N f0 ds Q) (wp_region_any hm (oS (C:=C) (T:=T) _ _ _ _ ?_)) (fun e a w h=>by cases e <;> first | exact h | exact h.2 _ h.1)
 have:=h _ (H.drawn (w.drawn+1) (Nat.le_succ _)) a ha
 simpa using this
theorem jO {f0:Fr} {d:Nat} {o:Oper} {v:Value} (i:Nat) (hi:ops[i]?=some o) (hw:Wt ops f o) (hd:o.dst=some d) (hN:Nat.blt d N=true) (h0:gt f0 d=none) (hs:Region.noSelect ops=true) (hf:Region.free md ops listed i=true) (hr:(Region.ready md ops listed).contains i=true)
   (hT:vf md ops T i=true) (hC:C w) (hx:∀ w,C w→Ex P N f ds o w v w)
   (h:G N (cF P md ops (cR N f0 ds Q) C T fuel (listed.setIfInBounds i true)) ((d,v) :: f) ds w):G N (cF P md ops (cR N f0 ds Q) C T (fuel+1) listed) f ds w:=fun a ha =>
 o6 (S':=C) hi (Region.noSelect_spec hs) (fun c a w h=>⟨oH h0 (by rw [← hd]; exact h.1),h.2⟩) (fun _ h=>h) (fun j oj hj hTj=>.inl (xK hT j oj hj hTj)) (fun _ _ h=>h) fuel listed a w (Region.free_spec hi hf) (by simpa using hr) (nU ha hw hx) hC
   (by rw [hd]; exact h _ (ha.put d hN v))
theorem Ht {f0:Fr} {d:Nat} {o:Oper} {v:Value} (i:Nat) (hi:ops[i]?=some o) (hw:Wt ops f o) (hd:o.dst=some d) (hN:Nat.blt d N=true) (h0:gt f0 d=none) (hs:Region.noSelect ops=true) (hf:Region.free md ops listed i=true) (hr:(Region.ready md ops listed).contains i=true)
   (hCi:T.contains i=true∨∀ w,C w) (hx:∀ w,Ex P N f ds o w v w)
   (h:G N (cF P md ops (cR N f0 ds Q) C T fuel (listed.setIfInBounds i true)) ((d,v) :: f) ds w):G N (cF P md ops (cR N f0 ds Q) C T (fuel+1) listed) f ds w:=fun a ha =>
 o6 (S':=fun _=>True) hi (Region.noSelect_spec hs) (fun c a w h=>⟨oH h0 (by rw [← hd]; exact h.1),h.2⟩) (fun _ _=>trivial) (fun j oj hj hTj=>.inr fun _=>trivial) (fun h w _=>by rcases hCi with h' | h'; (rw [h] at h'; cases h'); exact h' w) fuel listed a w (Region.free_spec hi hf) (by simpa using hr) (nU ha hw (fun w _=>hx w)) trivial
   (by rw [hd]; exact h _ (ha.put d hN v))
theorem jH {f0:Fr} {d:Nat} {o:Oper} (i:Nat) (hi:ops[i]?=some o) (hw:Wn ops f o) (hd:o.dst=some d) (hN:Nat.blt d N=true) (h0:gt f0 d=none) (hs:Region.noSelect ops=true) (hf:Region.free md ops listed i=true) (hr:(Region.ready md ops listed).contains i=true)
   (hT:vf md ops T i=true) (hC:C w)
   (h:G N (cF P md ops (cR N f0 ds Q) C T fuel (listed.setIfInBounds i true)) ((d,undef) :: f) ds w):G N (cF P md ops (cR N f0 ds Q) C T (fuel+1) listed) f ds w:=fun a ha =>
 o6 (S':=C) hi (Region.noSelect_spec hs) (fun c a w h=>⟨oH h0 (by rw [← hd]; exact h.1),h.2⟩) (fun _ h=>h) (fun j oj hj hTj=>.inl (xK hT j oj hj hTj)) (fun _ _ h=>h) fuel listed a w (Region.free_spec hi hf) (by simpa using hr) (yT ha hw) hC
   (by rw [hd]; exact h _ (ha.put d hN _))
def AK (P:Program) (md:Region.Mode) (ops:Array Oper) (Q:Exit→Act→World→Prop) (C:World→Prop) (T:List Nat) (fuel:Nat) (listed:Array Bool) (i:Nat):Act→World→Prop:=
 fun a' w'=>(T.contains i=false→C w')∧cF P md ops Q C T fuel (listed.setIfInBounds i true) a' w'
theorem bF {i:Nat} (hC:C w) (h:G N (cF P md ops Q C T fuel (listed.setIfInBounds i true)) f ds w):G N (AK P md ops Q C T fuel listed i) f ds w:=fun a ha=>⟨fun _=>hC,h a ha⟩
theorem m_ {i:Nat} (hT:T.contains i=true) (h:G N (cF P md ops Q C T fuel (listed.setIfInBounds i true)) f ds w):G N (AK P md ops Q C T fuel listed i) f ds w:=fun a ha=>⟨fun h0=>absurd (hT.symm.trans h0) (by decide),h a ha⟩
theorem vk {i:Nat} {o:Oper} (hr:Region.ready md ops listed=[i]) (hi:ops[i]?=some o) (h:G N (bH P ops Q o (AK P md ops Q C T fuel listed i)) f ds w):G N (cF P md ops Q C T (fuel+1) listed) f ds w:=fun a ha =>
 ⟨fun h0=>absurd (hr.symm.trans h0) (by simp),fun j hj=>by
   rw [hr,List.mem_singleton] at hj
   subst hj
   exact vW hi h a ha⟩
theorem lH {i j:Nat} {o o':Oper} (hr:Region.ready md ops listed=[i,j]) (hi:ops[i]?=some o) (hj:ops[j]?=some o') (h:G N (bH P ops Q o (AK P md ops Q C T fuel listed i)) f ds w) (h':G N (bH P ops Q o' (AK P md ops Q C T fuel listed j)) f ds w):G N (cF P md ops Q C T (fuel+1) listed) f ds w:=fun a ha =>
 ⟨fun h0=>absurd (hr.symm.trans h0) (by simp),fun k hk=>by
   rw [hr] at hk
   simp only [List.mem_cons,List.not_mem_nil,or_false] at hk
   rcases hk with rfl | rfl
   · exact vW hi h a ha
   · exact vW hj h' a ha⟩
theorem uh {i j k:Nat} {o o' o'':Oper} (hr:Region.ready md ops listed=[i,j,k]) (hi:ops[i]?=some o) (hj:ops[j]?=some o') (hk:ops[k]?=some o'') (h:G N (bH P ops Q o (AK P md ops Q C T fuel listed i)) f ds w) (h':G N (bH P ops Q o' (AK P md ops Q C T fuel listed j)) f ds w) (h'':G N (bH P ops Q o'' (AK P md ops Q C T fuel listed k)) f ds w):G N (cF P md ops Q C T (fuel+1) listed) f ds w:=fun a ha =>
 ⟨fun h0=>absurd (hr.symm.trans h0) (by simp),fun m hm=>by
   rw [hr] at hm
   simp only [List.mem_cons,List.not_mem_nil,or_false] at hm
   rcases hm with rfl | rfl | rfl
   · exact vW hi h a ha
   · exact vW hj h' a ha
   · exact vW hk h'' a ha⟩
theorem Px {f0:Fr} (hr:Region.ready md ops listed=[]) (h:G N (Q .normal) f ds w):G N (cF P md ops (cR N f0 ds Q) C T fuel listed) f ds w:=fun a ha=>by
 cases fuel with
 | zero=>exact ⟨hr,h a ha⟩
 | succ n=>exact ⟨fun _=>h a ha,by rw [hr]; simp⟩
end
theorem FB {w w':World} {e:TypeId} {size n:Nat} {v:Value} {xs:List Value} (h:iY (fun g=>v.ownBlock=some g) w w') (k:w.ownsRow 0 e size v n xs):w'.ownsRow 0 e size v n xs:=by
 refine ⟨k.1,?_⟩
 rcases k.2 with h2 | ⟨g,cap,cur,rfl,h0,h3,r⟩
 · exact .inl h2
 exact .inr ⟨g,cap,cur,rfl,h0,(h.block g rfl).trans h3,r⟩
def SK (v:Value) (e:TypeId) (size n:Nat) (xs:List Value):aD:=⟨fun g=>v.ownBlock=some g,fun w=>w.ownsRow 0 e size v n xs,FB⟩
section
variable {P:Program} {N:Nat} {Q:Exit→Act→World→Prop} {f:Fr} {ds:List Deferred} {w w':World} {o:Oper} {ops:Array Oper} {L:List aD} {K:Act→World→Prop}
theorem S.row {k:Nat} {v:Value} {e size n:Nat} {xs:List Value} (h:S w L) (hk:L[k]?=some (SK v e size n xs)):w.ownsRow 0 e size v n xs:=h.at hk
def kf (P:Program) (t:TypeId):Option (Option Value × Nat × Nat):=(P.info? t).map fun i=>(i.zero,i.size,i.bytes)
theorem zU {t size bytes:Nat} {z:Option Value} (h:kf P t=some (z,size,bytes)):∃ i,P.info? t=some i∧i.zero=z∧i.size=size∧i.bytes=bytes:=by
 unfold kf at h
 cases hi:P.info? t with
 | none=>simp [hi] at h
 | some i=>simp [hi] at h; exact ⟨i,rfl,h.1,h.2.1,h.2.2⟩
theorem AC {P:Program} {x:Sem Value} {w w1 w2:World} {v1 v2:Value} (hr:x.run P w=.ok v1 w1) (h:x.run P w=.ok v2 w2) (hd:w.drawn≤w2.drawn):w.drawn≤w1.drawn:=by
 rw [hr] at h
 cases h; exact hd
theorem O1 {P:Program} {w w':World} {v':Value} (base:Nat) {t ty e:TypeId} {i:TypeInfo} {z:Value} {size bytes:Nat} (ht:P.underlying t=some (.slice e)) (hi:P.info? e=some i) (hz:i.zero=some z)
   (hsize:i.size=size) (hby:i.bytes=bytes) {v:Value} {n:Nat} {xs:List Value} (hown:w.ownsRow base e size v n xs)
   {a:Addr} {m c:Nat} {news:List Value} (hl:news.length=m * size) (hnews:∀ j u,news[j]?=some u→w.cell? (a.add j)=some u) (h1:∀ u∈news,u.oneCell'=true)
   (H2:n+m≤maxLen) (hbytes:(n+m) * bytes≤140737488355328) (hr:(Builtin.append_ #[t,t] ty #[v,.slice (some a) m c]).run P w=.ok v' w'):w.drawn≤w'.drawn:=by
 subst hsize
 subst hby
 have hsmall:n+m≤9223372036854775807:=by simp only [maxLen] at H2; omega
 rcases hown.2 with ⟨rfl,rfl⟩ | ⟨g,cap,cur,rfl,hbg,hg,hnc,hcm,hcs,htake⟩
 · by_cases hm:m=0
   · subst hm
     have hn:news=[]:=List.eq_nil_of_length_eq_zero (by simpa using hl)
     subst hn
     refine AC hr (v2:=.slice none 0 0) (w2:=w) ?_ (Nat.le_refl _)
     simp [Builtin.append_,run_underlying ht,sizeOf,typeInfo,hi,Builtin.lenOf,Builtin.firstCells,loadCells,loadCellsFrom]
   exact AC hr (run_append_nil (P:=P) w t ty e i z ht hi hz a m c news hl hnews (by omega) (by omega) (by have hb:=hbytes; simp only [Nat.zero_add] at hb; omega)) (Nat.le_succ _)
 by_cases hroom:n+m≤cap
 · have hfit:n * i.size+news.length≤cur.size:=by rw [hl,hcs,← Nat.add_mul]; exact Nat.mul_le_mul_right _ hroom
   exact AC hr (run_append_room (P:=P) w t ty e i ht hi g n cap cur hg a m c news hl hnews h1 hroom hfit) (Nat.le_refl _)
 have holds:∀ j u,xs[j]?=some u→w.cell? ((⟨g,0,none⟩:Addr).add j)=some u:=hown.cells (g:=g) rfl
 exact AC hr (run_append_grow (P:=P) w t ty e i z ht hi hz ⟨g,0,none⟩ n cap xs hown.1 holds a m c news hl hnews (by omega) (by omega) (growslice_fits (by omega) hbytes)) (Nat.le_succ _)
theorem BE {P:Program} {w w':World} {v':Value} {t ty e:TypeId} {i:TypeInfo} {z:Value} {size bytes:Nat} (ht:P.underlying t=some (.slice e)) (hi:P.info? e=some i) (hz:i.zero=some z)
   (hsize:i.size=size) (hby:i.bytes=bytes)
   {b:Addr} {n cap:Nat} {olds:List Value} (hlo:olds.length=n * size) (holds:∀ j u,olds[j]?=some u→w.cell? (b.add j)=some u)
   {a:Addr} {m c:Nat} {news:List Value} (hl:news.length=m * size) (hnews:∀ j u,news[j]?=some u→w.cell? (a.add j)=some u)
   (hg:cap<n+m) (h63:n+m≤maxLen) (hbytes:(n+m) * bytes≤140737488355328)
   (hr:(Builtin.append_ #[t,t] ty #[.slice (some b) n cap,.slice (some a) m c]).run P w=.ok v' w'):w.drawn≤w'.drawn:=by
 subst hsize
 subst hby
 have hsmall:n+m≤9223372036854775807:=by simp only [maxLen] at h63; omega
 exact AC hr (run_append_grow (P:=P) w t ty e i z ht hi hz b n cap olds hlo holds a m c news hl hnews hg (by omega) (growslice_fits hg hbytes)) (Nat.le_succ _)
theorem ud {g j0:Nat} {cs:Array Value} {e:TypeId} {fr:Nat × Nat} (H:S w L) (hk:L[j0]?=some (Ob g (.cells cs e fr))):∀ j u,cs.toList[j]?=some u→w.cell? ((⟨g,0,none⟩:Addr).add j)=some u:=fun j u hu=>by
 rw [iL,Nat.zero_add]; exact H.cell hk (by simpa using hu)
theorem dM {t e size n c g off:Nat} {x y:Operand} {k:IntKind} {i:Int} (j:Nat) (ho:o.op=.indexAddr t x y) (hx:cy f x=some (.slice (some ⟨g,off,none⟩) n c)) (hy:cy f y=some (.int k i)) (hu:P.underlying t=some (.slice e)) (hz:jW P e=some size) (hb:i=(j:Int)∧j<n) {off':Nat} (he:off+j * size=off') :
   Ex P N f ds o w (.pointer (some ⟨g,off',none⟩)) w:=
 fH (x:=Instr.indexAt t (.slice (some ⟨g,off,none⟩) n c) (.int k i)) (fun a ha=>by unfold execOp; simp only [ho,ha.eval hx,ha.eval hy]) (by
   obtain ⟨rfl,hj⟩:=hb
   subst he
   unfold Instr.indexAt
   have h1:(0:Int)≤(j:Int)∧(j:Int)<(n:Int):=by omega
   simp only [asIntOf,Sem.run_bind,Sem.run_pure,Result.andThen_ok,run_underlying hu,if_pos h1,Int.toNat_natCast,iZ hz,iL])
theorem dw {t e size n g off:Nat} {x y:Operand} {k:IntKind} {i:Int} (j:Nat) (ho:o.op=.indexAddr t x y) (hx:cy f x=some (.pointer (some ⟨g,off,none⟩))) (hy:cy f y=some (.int k i)) (hu:P.underlying t=some (.array n e)) (hz:jW P e=some size) (hb:i=(j:Int)∧j<n) {off':Nat} (he:off+j * size=off') :
   Ex P N f ds o w (.pointer (some ⟨g,off',none⟩)) w:=
 fH (x:=Instr.indexAt t (.pointer (some ⟨g,off,none⟩)) (.int k i)) (fun a ha=>by unfold execOp; simp only [ho,ha.eval hx,ha.eval hy]) (by
   obtain ⟨rfl,hj⟩:=hb
   subst he
   unfold Instr.indexAt
   have h1:(0:Int)≤(j:Int)∧(j:Int)<(n:Int):=by omega
   simp only [asIntOf,Sem.run_bind,Sem.run_pure,Result.andThen_ok,run_underlying hu,Instr.sureAddr,if_pos h1,Int.toNat_natCast,iZ hz,iL])
theorem f_ {t:TypeId} {d:TypeDesc} {x:Operand} {p:Addr} {v:Value} (ho:o.op=.load t x) (hx:cy f x=some (.pointer (some p))) (hu:P.underlying t=some d) (hd:jF d=false) (hc:w.cell? p=some v):Ex P N f ds o w v w:=uH ho hx (dp hu hd hc)
theorem Fp {t:TypeId} {d:TypeDesc} {p:Addr} {n:Nat} {vs:List Value} (hu:P.underlying t=some d) (hd:jF d=true) (hn:jW P t=some n) (hl:vs.length=n) (hc:∀ j v,vs[j]?=some v→w.cell? (p.add j)=some v):(loadVar t p).run P w=.ok (.agg vs.toArray) w:=by
 have h:=run_loadCells_list (P:=P) w p vs hc
 rw [hl] at h
 unfold loadVar isAgg
 simp only [Sem.run_bind,run_underlying hu,Result.andThen_ok]
 cases d <;> simp [jF] at hd <;> simp only [Sem.run_bind,Sem.run_pure,Result.andThen_ok,if_true,iZ hn,h]
def fM (l:List UInt8):List Value:=l.map fun b=>Value.int .u8 b.toNat
theorem Dk (l:List UInt8) (r:ByteArray):(l.map fun b=>((b.toNat:Nat):Int)).foldl (fun r n=>r.push (UInt8.ofNat n.toNat)) r=⟨r.data++l.toArray⟩:=by
 induction l generalizing r with
 | nil=>simp
 | cons b l ih =>
   simp only [List.map_cons,List.foldl_cons,ih]
   apply ByteArray.ext
   apply Array.ext'
   simp [ByteArray.push]
theorem oG {s d e n c:Nat} {x:Operand} {ad:Addr} {l:List UInt8} (ho:o.op=.convert s d x) (hx:cy f x=some (.slice (some ad) n c)) (hs:P.underlying s=some (.slice e)) (hd:P.underlying d=some .string) (he:P.underlying e=some (.int .u8)) (hl:l.length=n)
   (hc:∀ j u,(fM l)[j]?=some u→w.cell? (ad.add j)=some u):Ex P N f ds o w (.string ⟨l.toArray⟩) w:=
 fH (x:=convert s d (.slice (some ad) n c)) (fun a ha=>by unfold execOp; simp only [ho,ha.eval hx]) (by
   have h1:=run_loadCells_list (P:=P) w ad (fM l) hc
   have h2:fM l=(l.map fun b=>((b.toNat:Nat):Int)).map (Value.int .u8):=by simp [fM]
   have h3:(fM l).length=n:=by simp [fM,hl]
   rw [h3,h2] at h1
   have h4:=run_bytesToString w ad n c _ h1
   rw [Dk] at h4
   unfold convert
   simp only [Sem.run_bind,run_underlying hs,run_underlying hd,Result.andThen_ok]
   simp only [run_underlying he,Sem.run_bind,Result.andThen_ok,h4]
   simp)
theorem Hv {s d e:Nat} {x:Operand} {n c:Nat} (ho:o.op=.convert s d x) (hx:cy f x=some (.slice none n c)) (hs:P.underlying s=some (.slice e)) (hd:P.underlying d=some .string) (he:P.underlying e=some (.int .u8)):Ex P N f ds o w (.string ⟨#[]⟩) w:=
 fH (x:=convert s d (.slice none n c)) (fun a ha=>by unfold execOp; simp only [ho,ha.eval hx]) (by
   unfold convert
   simp only [Sem.run_bind,run_underlying hs,run_underlying hd,Result.andThen_ok]
   simp only [run_underlying he,Sem.run_bind,Result.andThen_ok,Conv.bytesToString]
   rfl)
theorem yP {g k:Nat} {cs:Array Value} {e:TypeId} {fr:Nat × Nat} {l:List UInt8} (H:S w L) (hk:L[k]?=some (Ob g (.cells cs e fr))) (hl:cs.toList=fM l):∀ j u,(fM l)[j]?=some u→w.cell? ((⟨g,0,none⟩:Addr).add j)=some u:=by
 rw [← hl]; exact ud H hk
theorem iU {d t e size len:Nat} {ps:Array (Nat × Operand)} {vs:List Value} {z:Value} {cells:Array Value} (H:S w L) (hw:Wt ops f o) (hd:o.dst=some d) (hN:Nat.blt d N=true) (ho:o.op=.buildSlice t len ps) (hx:rj f (ps.toList.map (·.2))=some vs)
   (hu:P.underlying t=some (.slice e)) (hz:jW P e=some size) (hze:tw P e=some z) (hlen:Nat.ble (len * size) 16777216=true) (hpos:Nat.beq (len * size) 0=false)
   (hb:Instr.fill (fun i=>some (i * size,size)) ((Array.range (len * size)).map (z.cells[· % z.cells.size]!)) ((ps.toList.map (·.1)).zip vs)=some cells)
   (h:∀ g w',S w' (Ob g (.cells cells e (0,0)) :: L)→G N K ((d,.slice (some ⟨g,0,none⟩) len len) :: f) ds w'):G N (bH P ops Q o K) f ds w:=
 yO (v:=fun g=>.slice (some ⟨g,0,none⟩) len len) H hw hd hN (fun a ha=>by
   unfold execOp
   have h1:(ps.map fun (i,x)=>(i,a.eval x)).toList=(ps.toList.map (·.1)).zip vs:=by rw [Array.toList_map]; exact Af ha hx
   have h2:¬ (len * size > 2 ^ 24):=by have:=Nat.le_of_ble_eq_true hlen; omega
   have h3:¬ (len * size=0):=fun e=>by rw [e] at hpos; cases hpos
   simp only [ho,Instr.buildSlice,Sem.run_bind,run_underlying hu,Result.andThen_ok,iZ hz,if_neg h2,if_neg h3,zJ hze,Sem.run_pure,h1,hb]
   rfl) h
theorem yn (z:Value) (n:Nat):madeCells #[z] n=Array.replicate n z:=by
 unfold madeCells
 apply Array.ext
 · simp
 · intro i h1 h2
   simp [Nat.mod_one]
theorem vE {d t e bytes:Nat} {x y:Operand} {kx ky:IntKind} {i j:Int} {z:Value} (n:Nat) (H:S w L) (hw:Wt ops f o) (hd:o.dst=some d) (hN:Nat.blt d N=true) (ho:o.op=.makeSlice t x y) (hx:cy f x=some (.int kx i)) (hy:cy f y=some (.int ky j))
   (hu:P.underlying t=some (.slice e)) (hi:kf P e=some (some z,1,bytes)) (hz:z.cells=#[z]) (hn:i=(n:Int)∧j=(n:Int)∧bytes * n≤281474976710656∧n≤9223372036854775807)
   (h:∀ g w',S w' (Ob g (.cells (Array.replicate n z) e (0,0)) :: L)→G N K ((d,.slice (some ⟨g,0,none⟩) n n) :: f) ds w'):G N (bH P ops Q o K) f ds w:=
 yO (v:=fun g=>.slice (some ⟨g,0,none⟩) n n) H hw hd hN (fun a ha=>by
   obtain ⟨rfl,rfl,h1,h2⟩:=hn
   have:=Go.run_make_row' (P:=P) t e z bytes hu hi hz kx ky n h1 h2 w
   unfold execOp
   simp only [ho,ha.eval hx,ha.eval hy,Sem.run_bind,this,Result.andThen_ok,yn]
   rfl) h
def yQ:TypeDesc→Value→Value→Option Bool
 | .bool,.bool a,.bool b=>some (a == b)
 | .pointer _,.pointer none,.pointer b=>some b.isNone
 | .pointer _,.pointer (some _),.pointer none=>some false
 | .slice _,.slice none _ _,.slice b _ _=>some b.isNone
 | .slice _,.slice (some _) _ _,.slice none _ _=>some false
 | .map _ _,.map none,.map b=>some b.isNone
 | .map _ _,.map (some _),.map none=>some false
 | .func _ _ _,.nilFunc,.nilFunc=>some true
 | .func _ _ _,.nilFunc,.func _ _ _=>some false
 | .func _ _ _,.func _ _ _,.nilFunc=>some false
 | _,_,_=>none
theorem zb {t:TypeId} {d:TypeDesc} {x y:Value} {r:Bool} (hu:P.underlying t=some d) (h:yQ d x y=some r):(Op.equal t x y).run P w=.ok r w:=by
 show (Op.equalIn (9999+1) t x y).run P w=_
 unfold Op.equalIn
 simp only [Sem.run_bind,run_underlying hu,Result.andThen_ok]
 unfold yQ at h
 split at h <;> simp at h <;> subst h <;> simp
theorem j3 {t:TypeId} {d:TypeDesc} {xo yo:Operand} {x y:Value} {r:Bool} (hu:P.underlying t=some d) (h:yQ d x y=some r):iM P .eql t xo yo x y w (.bool r):=by
 have e:=zb (w:=w) hu h
 unfold iM
 unfold yQ at h
 split at h <;> simp at h <;> (rw [Sem.run_bind]; (show ((Result.ok () w).andThen _:Result Value)=_); simp only [Result.andThen_ok]; (show ((Op.equal t _ _ >>= fun b=>pure (Value.bool b):Sem Value)).run P w=_); rw [Sem.run_bind,e]; rfl)
theorem lG {t:TypeId} {d:TypeDesc} {xo yo:Operand} {x y:Value} {r:Bool} (hu:P.underlying t=some d) (h:yQ d x y=some r):iM P .neq t xo yo x y w (.bool (!r)):=by
 have e:=zb (w:=w) hu h
 unfold iM
 unfold yQ at h
 split at h <;> simp at h <;> (rw [Sem.run_bind]; (show ((Result.ok () w).andThen _:Result Value)=_); simp only [Result.andThen_ok]; (show ((Op.equal t _ _ >>= fun b=>pure (Value.bool (!b)):Sem Value)).run P w=_); rw [Sem.run_bind,e]; rfl)
end
def jZ (ks:List Nat):Nat→List aD→List aD
 | _,[]=>[]
 | i,it :: L=>if ks.contains i then jZ ks (i+1) L else it :: jZ ks (i+1) L
theorem u2 (ks:List Nat):∀ (L:List aD) (i:Nat),(jZ ks i L).Sublist L
 | [],_=>List.Sublist.refl _
 | it :: L,i=>by
   unfold jZ
   split
   · exact (u2 ks L (i+1)).cons it
   · exact (u2 ks L (i+1)).cons_cons it
theorem uW (ks:List Nat):∀ (L:List aD) (i:Nat) (x:aD),x∈jZ ks i L→∃ j,ks.contains (i+j)=false∧L[j]?=some x
 | [],_,x,h=>by unfold jZ at h; cases h
 | it :: L,i,x,h=>by
   unfold jZ at h
   split at h
   · obtain ⟨j,h1,h2⟩:=uW ks L (i+1) x h
     exact ⟨j+1,by rw [show i+(j+1)=i+1+j from by omega]; exact h1,h2⟩
   · rename_i hc
     rcases List.mem_cons.1 h with rfl | h
     · exact ⟨0,by simpa using hc,rfl⟩
     · obtain ⟨j,h1,h2⟩:=uW ks L (i+1) x h
       exact ⟨j+1,by rw [show i+(j+1)=i+1+j from by omega]; exact h1,h2⟩
theorem S.absorbK {w w1:World} {L new:List aD} {X:Nat→Prop} (h:S w L) (ks:List Nat) (hX:∀ g,X g→∃ k,ks.contains k=true∧∃ it,L[k]?=some it∧it.fp g) (h1:S w1 (new++[aB w X])):S w1 (new++jZ ks 0 L):=by
 refine h.absorbX (u2 ks L 0) (fun it hit g hg hx=>?_) h1
 obtain ⟨j,hj,hL⟩:=uW ks L 0 it hit
 obtain ⟨k,hk,it',hk',hf⟩:=hX g hx
 exact ua h.2 hL hk' (fun e=>by subst e; rw [Nat.zero_add] at hj; rw [hj] at hk; cases hk) g hg hf
theorem S.beginL {w:World}:∀ (gs:List (Nat × Obj)),(∀ p∈gs,w.heap[p.1]?=some p.2)→(gs.map Prod.fst).Nodup→∀ (X:Nat→Prop),(∀ i,X i ↔ i∈gs.map Prod.fst)→S w (gs.map (fun p=>Ob p.1 p.2)++[aB w X])
 | gs,h,hn,X,hX=>by
   have h1:S w [aB w X]:=⟨fun it hit=>by
     rw [List.mem_singleton] at hit; subst hit
     exact ⟨iY.rfl',fun g hg=>hg.1⟩,List.pairwise_singleton _ _⟩
   have key:∀ l:List (Nat × Obj),(∀ p∈l,w.heap[p.1]?=some p.2)→(l.map Prod.fst).Nodup→(∀ i∈l.map Prod.fst,X i)→S w (l.map (fun p=>Ob p.1 p.2)++[aB w X]):=by
     intro l
     induction l with
     | nil=>exact fun _ _ _=>h1
     | cons p l ih =>
       intro hl hnl hXl
       simp only [List.map_cons,List.nodup_cons,List.cons_append] at hnl ⊢
       refine (ih (fun q hq=>hl q (List.mem_cons_of_mem _ hq)) hnl.2 (fun i hi=>hXl i (by simp only [List.map_cons]; exact List.mem_cons_of_mem _ hi))).cons (hl p (List.mem_cons_self ..)) (fun i hi=>?_) (fun x hx i hi=>?_)
       · cases hi; exact (Array.getElem?_eq_some_iff.1 (hl p (List.mem_cons_self ..))).1
       · cases hi
         rcases List.mem_append.1 hx with hx | hx
         · obtain ⟨q,hq,rfl⟩:=List.mem_map.1 hx
           exact fun e=>hnl.1 (List.mem_map.2 ⟨q,hq,(show q.1=p.1 from e.symm)⟩)
         rw [List.mem_singleton] at hx; subst hx
         exact fun hx=>hx.2 (hXl _ (by simp))
   exact key gs h hn (fun i hi=>(hX i).2 hi)
def RO (p:Option Addr) (n c size:Nat) (xs:List Value):aD:=
 ⟨fun g=>0<n∧∃ o,p=some ⟨g,o,none⟩,fun w=>xs.length=n * size∧n≤c∧(0<n→∃ g o,p=some ⟨g,o,none⟩∧∀ j u,xs[j]?=some u→w.cell? ⟨g,o+j,none⟩=some u),fun h ⟨k1,k2,k3⟩=>⟨k1,k2,fun hn=>by
   obtain ⟨g,o,e,hc⟩:=k3 hn
   exact ⟨g,o,e,fun j u hu=>(World.cell?_of_block (h.block g ⟨hn,o,e⟩)).trans (hc j u hu)⟩⟩⟩
theorem S.ro {w:World} {L:List aD} {k:Nat} {p:Option Addr} {n c size:Nat} {xs:List Value} (h:S w L) (hk:L[k]?=some (RO p n c size xs)):xs.length=n * size∧n≤c∧(0<n→∃ g o,p=some ⟨g,o,none⟩∧∀ j u,xs[j]?=some u→w.cell? ⟨g,o+j,none⟩=some u):=h.at hk
section
variable {P:Program} {N:Nat} {Q:Exit→Act→World→Prop} {f:Fr} {ds:List Deferred} {w w':World} {o:Oper} {ops:Array Oper} {L:List aD} {K:Act→World→Prop}
theorem lP {t:TypeId} {x y:Operand} {g i:Nat} {cs:Array Value} {e:TypeId} {v:Value} (H:S w L) (k:Nat) (hw:Wt ops f o) (hd:o.dst=none) (ho:o.op=.store t x y) (hx:cy f x=some (.pointer (some ⟨g,i,none⟩)))
   (hy:cy f y=some v) (hk:L[k]?=some (Ob g (.cells cs e (0,0)))) (hn:jW P t=some 1) (hv:v.cells=#[v]) (h1:v.oneCell'=true) (hi:i<cs.size)
   (h:∀ w',S w' (L.set k (Ob g (.cells (cs.setIfInBounds i v) e (0,0))))→G N K f ds w'):G N (bH P ops Q o K) f ds w:=by
 have hr:=oW (P:=P) (t:=t) (g:=g) (i:=i) (v:=v) (H.ob hk) (by rw [hv]; exact hn) (by rw [hv]; exact hi) (by rw [hv]; simpa using h1)
 rw [hv] at hr
 have hc:(cs.toList.take i++(#[v]:Array Value).toList++cs.toList.drop (i+(#[v]:Array Value).size)).toArray=cs.setIfInBounds i v:=by
   apply Array.ext'
   simp only [Array.toList_setIfInBounds,List.size_toArray,List.length_cons,List.length_nil]
   rw [List.set_eq_take_append_cons_drop,if_pos (by simpa using hi)]
   simp
 rw [hc] at hr
 exact uJ hw hd (nQ ho hx hy hr) (h _ (H.setRow hk _))
end
section
variable {P:Program} {N:Nat} {f:Fr} {ds:List Deferred} {w:World}
def Cg:FrameMode→Value × FrameMode
 | .panicking ({ v,recovered:=false,goexit:=false } :: older)=>(v,.panicking ({ v,recovered:=true } :: older))
 | u=>(.nilIface,u)
theorem BW (c:Frame) (cs:List Frame):recoverD (c :: cs)=none∧Cg c.mode=(.nilIface,c.mode)∨recoverD (c :: cs)=some ((Cg c.mode).1,{ c with mode:=(Cg c.mode).2 } :: cs):=by
 obtain ⟨fn,tmps,todo,defers,mode,kind,roundOf⟩:=c
 cases mode with
 | run=>exact .inl ⟨rfl,rfl⟩
 | returning=>exact .inl ⟨rfl,rfl⟩
 | panicking l =>
   cases l with
   | nil=>exact .inl ⟨rfl,rfl⟩
   | cons e older =>
     obtain ⟨v,r,g⟩:=e
     cases r <;> cases g
     · exact .inr rfl
     · exact .inl ⟨rfl,rfl⟩
     · exact .inl ⟨rfl,rfl⟩
     · exact .inl ⟨rfl,rfl⟩
theorem o5 {g:FuncId} {fn:Func} {args:Array Value} {u:FrameMode} {R:Ending→FrameMode→World→Prop} {id:Nat} {o1 o2:Oper} {rest:Code} {d1 d2:Nat} {t1:TypeId} (N:Nat)
   (hf:P.funcs[g]?=some fn) (hb:fn.body=some (.seq (.region id #[o1,o2] false) rest)) (hN:fn.ntmps=N) (hA:Nat.ble args.size N=true)
   (h1:o1={ dst:=some d1,op:=.call { callee:=.builtin .recover,args:=#[],argTypes:=#[] },type:=t1,pos:=o1.pos,after:=o1.after,guard:=none })
   (hg2:o2.guard=none) (ho2:o2.op=.assign (.tmp d1)) (hd2:o2.dst=some d2) (hn1:Nat.blt d1 N=true) (hn2:Nat.blt d2 N=true)
   (h:G N (rest.wp P (bodyPost P fn (fun e w'=>R e (Cg u).2 w'))) ((d2,(Cg u).1) :: (d1,(Cg u).1) :: j6 0 args.toList) [] w):CallsD P g args u w R:=by
 refine callsD_of_wpS hf hb (fun c₀ cs hu=>?_)
 refine wpS_seq (wpS_region ?_)
 -- the frame at the start
 have hr0:jX N { tmps:=args++Array.replicate (fn.ntmps - args.size) undef,defers:=[] } (j6 0 args.toList) []:=by
   have hsz:args.size≤N:=Nat.le_of_ble_eq_true hA
   refine ⟨by simp [hN]; omega,fun t v ht=>?_,rfl⟩
   obtain ⟨_,h2⟩:=jv _ 0 t v ht
   have h3:args[t]?=some v:=by simpa using h2
   have h4:t<args.size:=(Array.getElem?_eq_some_iff.1 h3).1
   show (args++_)[t]?=_
   rw [Array.getElem?_append_left h4]; exact h3
 generalize ({ tmps:=args++Array.replicate (fn.ntmps - args.size) undef,defers:=[] }:Act)=a0 at hr0 ⊢
 -- what is left behind the two operations
 have key:∀ (v:Value) (u':FrameMode),Cg u=(v,u')→∀ cs',cs'={ c₀ with mode:=u' } :: cs →
     wpOpsS P #[o1,o2] (Exit.thenS (rest.wpS P (bodyPostS P fn c₀ cs R)) (bodyPostS P fn c₀ cs R)) [1] (a0.put (some d1) v) cs' w:=by
   intro v u' hv cs' hcs
   have e1:(#[o1,o2]:Array Oper)[1]?=some o2:=rfl
   simp only [wpOpsS,e1,Region.wanted,hg2,if_true]
   have hr1:=hr0.put d1 hn1 v
   have hx:(execOp (a0.put (some d1) v).eval o2).run P w=.ok (.value v) w:=jS (P:=P) ho2 (show cy ((d1,v) :: j6 0 args.toList) (.tmp d1)=some v by simp [cy,gt,Nat.beq_refl]) _ hr1
   rw [hx]
   simp only [Oper.upon,hd2]
   have hr2:=hr1.put d2 hn2 v
   rw [hv] at h
   show Code.wpS P rest (bodyPostS P fn c₀ cs R) _ cs' w
   refine wpS_of_wp (wp_mono (h _ hr2) (fun e a w hq=>?_))
   subst hcs
   cases e with
   | normal=>exact ⟨hq.1,u',rfl,hq.2⟩
   | ret=>exact ⟨hq.1,u',rfl,hq.2⟩
   | panic c=>exact ⟨hq.1,u',rfl,hq.2⟩
   | outgrown=>exact ⟨u',hq⟩
   | exit _=>exact hq
   | goto _=>exact hq
 have e0:(#[o1,o2]:Array Oper)[0]?=some o1:=rfl
 have H2:(execOp a0.eval o1).run P w=.ok .recover w:=by rw [h1]; rfl
 have hgd:o1.guard=none:=by rw [h1]
 have hdd:o1.dst=some d1:=by rw [h1]
 show wpOpsS P #[o1,o2] _ [0,1] a0 (c₀ :: cs) w
 unfold wpOpsS
 simp only [e0,Region.wanted,hgd,if_true,H2,hdd]
 rcases BW c₀ cs with ⟨h3,h4⟩ | h3
 · rw [h3]
   exact key _ _ (by rw [← hu]; exact h4) _ rfl
 rw [h3]
 rw [hu]
 exact key _ _ rfl _ rfl
theorem CallsD.mono {g:FuncId} {args:Array Value} {u:FrameMode} {R R':Ending→FrameMode→World→Prop} (h:CallsD P g args u w R) (hr:∀ e u' w',R e u' w'→R' e u' w'):CallsD P g args u w R':=
 fun c cs hu=>let ⟨e,u',w',fr,r,rest⟩:=h c cs hu; ⟨e,u',w',fr,hr _ _ _ r,rest⟩
def GL (N:Nat) (P:Program) (fn:Func) (R:Ending→World→Prop) (f:Fr) (ds:List Deferred) (u:FrameMode) (w:World):Prop:=∀ a,jX N a f a.defers→Leaves P fn a.tmps R ds u w
theorem cY {fn:Func} {R:Ending→World→Prop} (h:GL N P fn R f ds .returning w):G N (bodyPostD P fn R .ret) f ds w:=fun a ha=>by
 have:=h a ⟨ha.size,ha.get,rfl⟩
 show Leaves P fn a.tmps R a.defers .returning w
 rw [ha.defers]; exact this
theorem aX {fn:Func} {R:Ending→World→Prop} {c:List PanicEntry} (h:GL N P fn R f ds (.panicking c) w):G N (bodyPostD P fn R (.panic c)) f ds w:=fun a ha=>by
 have:=h a ⟨ha.size,ha.get,rfl⟩
 show Leaves P fn a.tmps R a.defers (.panicking c) w
 rw [ha.defers]; exact this
theorem KL {fn:Func} {R:Ending→World→Prop} {u:FrameMode} {g:FuncId} {args cap:Array Value} {RD:Ending→FrameMode→World→Prop} (hu:u ≠ .run) (hg:aI P g=true) (hc:CallsD P g (args++cap) u w RD)
   (h:∀ e u' w',RD e u' w'→match e with | .returned _=>GL N P fn R f ds (settle u') w' | .panicked c=>GL N P fn R f ds (raised u' c) w' | .outgrown=>R .outgrown w') :
   GL N P fn R f ({ target:=.fn (.func g) cap,args:=args } :: ds) u w:=fun a ha=>by
 refine ⟨hu,.func g,cap,g,args++cap,rfl,?_,hc.mono fun e u' w' hR=>?_⟩
 · show (callFunc g (args++cap)).run P w=_
   exact jV hg _
 have:=h e u' w' hR
 cases e with
 | returned v=>exact this a ha
 | panicked c=>exact this a ha
 | outgrown=>exact this
theorem Cv {fn:Func} {R:Ending→World→Prop} (rs:List ResultVar) (vs:List Value) (hr:fn.results=rs.toArray) (h:pg P f w rs vs) (hR:R (.returned (dQ vs)) w):GL N P fn R f [] .returning w:=fun a ha =>
 ⟨_,jB ha hr h,hR⟩
end
section
variable {P:Program} {N:Nat} {f:Fr} {ds:List Deferred} {w:World} {o:Oper}
theorem dc {x:Operand} {g:FuncId} {args:Array Operand} {ts:Array TypeId} {captured:Array Value} {vs:List Value} (ho:o.op=.defer { callee:=.value x,args:=args,argTypes:=ts }) (hx:cy f x=some (.func (.func g) #[] captured)) (hv:rj f args.toList=some vs) :
   Rl P N f ds o w { target:=.fn (.func g) captured,args:=vs.toArray } w:=fun a ha=>by
 unfold execOp
 have he:args.map a.eval=vs.toArray:=ha.evalsA hv
 simp only [ho,resolve,ha.eval hx,Deferred.ofValue,Sem.run_bind,Sem.run_pure,Result.andThen_ok,he,Array.empty_append]
theorem AP {x:Operand} {t:TypeId} {v:Value} (ho:o.op=.panic x) (hx:cy f x=some (.iface t v)):SA P N f ds o w (.iface t v) w:=fun a ha=>by
 unfold execOp
 simp only [ho,ha.eval hx,Instr.panic,goPanic,Sem.run_bind]
 rfl
theorem pG {t:TypeId} {x:Operand} {v:Value} {d:TypeDesc} (ho:o.op=.makeInterface t x) (hx:cy f x=some v) (hu:P.underlying t=some d) (hd:(match d with | .interface _=>true | _=>false)=false):Ex P N f ds o w (.iface t v) w:=
 fH (x:=Instr.makeInterface t v) (fun a ha=>by unfold execOp; simp only [ho,ha.eval hx]) (by
   unfold Instr.makeInterface
   simp only [Sem.run_bind,run_underlying hu,Result.andThen_ok]
   cases d <;> simp at hd <;> rfl)
theorem xG {x:Operand} {xt t:TypeId} {v:Value} {d:TypeDesc} (ho:o.op=.typeAssert x xt t true) (hx:cy f x=some (.iface t v)) (hu:P.underlying t=some d) (hd:(match d with | .interface _=>true | _=>false)=false):Ex P N f ds o w (.tuple #[v,.bool true]) w:=
 fH (x:=Instr.typeAssert (.iface t v) xt t true) (fun a ha=>by unfold execOp; simp only [ho,ha.eval hx]) (by
   unfold Instr.typeAssert
   simp only [Sem.run_bind,run_underlying hu,Result.andThen_ok]
   cases d <;> simp at hd <;> simp)
section
variable {t tt:TypeId} {v:Value} {xo yo:Operand} {c:Value}
theorem zx (h:P.underlying t=some (.interface (P.methodsAt t))):iM P .neq t xo yo (.iface tt v) .nilIface w (.bool true):=by
 have h0:(eqGuard .neq t xo yo (.iface tt v) .nilIface).run P w=.ok () w:=rfl
 unfold iM; rw [Sem.run_bind,h0]; exact run_neq_held_nil w t tt v h
theorem FU {op:BinOp}:(eqGuard op t xo (.const c) .nilIface .nilIface).run P w=.ok () w:=by
 unfold eqGuard
 cases op <;> cases xo <;> rfl
theorem BM (h:P.underlying t=some (.interface (P.methodsAt t))):iM P .neq t xo (.const c) .nilIface .nilIface w (.bool false):=by
 unfold iM; rw [Sem.run_bind,FU]; exact run_neq_nil_nil w t h
end
end
end Go.Proofs.YthmmfhdpkddniaaGreatDoor
