import Derived.Tactics
import Derived.Deep.Quiet
import Derived.Deep.Draws
import Derived.OrdersHeld
import Derived.Below
import Derived.Laws.Rows
import Derived.Laws.CopyRow
import Derived.Laws.Tables
import Derived.IntWalk
import Derived.Laws.Entries
import Derived.Laws.World
import Derived.KernelRfl
import Derived.WideLaws
import Derived.Laws.Strings
import Derived.LaidEql
import Derived.Maps.AppendAt
import Derived.Lib.AppendStr
import Derived.Laws.BytesString
import Derived.Laws.OwnMore
import Derived.Deep.OwnRows
import Derived.Recover
import Derived.ArgAppend
import Derived.Laws.Slices
import Derived.RangeFuncNested
import Derived.RangeFuncBound
import Derived.RangeFuncCalls
import Derived.RangeFuncLeaves
import Derived.RangeFuncFrom
import Derived.OrdersIn
import Derived.TacticsIn
import Derived.Lib.ConvBytes
import Derived.Deep.Upon
import Derived.Laws.Bits64
import Derived.Maps.Keyed
import Derived.Maps.RangeRun
import Derived.DeepKeys4
set_option linter.unusedSimpArgs false
set_option linter.unusedVariables false
namespace Go.Proofs.YtpbjekdjebjbkaaGreatDoor
open Go.RowKit
abbrev Fr:=List (Nat × Value)
theorem beq_ne {d t:Nat} (e:¬ d=t):Nat.beq d t=false:=by
 cases h:Nat.beq d t
 · rfl
 · exact absurd (Nat.eq_of_beq_eq_true h) e
def gt:Fr→Nat→Option Value
 | [],_=>none
 | (i,v) :: r,t=>bif Nat.beq i t then some v else gt r t
def evo (f:Fr):Operand→Option Value
 | .tmp t=>gt f t
 | .const v=>some v
 | .global g=>some (.pointer (some ⟨g,0,none⟩))
 | .func i=>some (.func (.func i) #[] #[])
def evs (f:Fr):List Operand→Option (List Value)
 | []=>some []
 | x :: r=>match evo f x,evs f r with | some v,some vs=>some (v :: vs) | _,_=>none
structure Rds (N:Nat) (a:Act) (f:Fr) (ds:List Deferred):Prop where
 size:a.tmps.size=N
 get:∀ t v,gt f t=some v→a.tmps[t]?=some v
 defers:a.defers=ds
theorem Rds.eval {N:Nat} {a:Act} {f:Fr} {ds:List Deferred} (h:Rds N a f ds) {x:Operand} {v:Value} (hx:evo f x=some v):a.eval x=v:=by
 cases x with
 | tmp t=>have:=h.get t v hx; simp [Act.eval,Array.getD_eq_getD_getElem?,this]
 | const u=>simpa [evo,Act.eval] using hx
 | global g=>simpa [evo,Act.eval] using hx
 | func i=>simpa [evo,Act.eval] using hx
theorem Rds.evals {N:Nat} {a:Act} {f:Fr} {ds:List Deferred} (h:Rds N a f ds):∀ {xs:List Operand} {vs:List Value},evs f xs=some vs→xs.map a.eval=vs
 | [],vs,hx=>by simpa [evs] using hx
 | x :: r,vs,hx=>by
   unfold evs at hx
   split at hx
   · rename_i v ws hv hw
     cases hx
     simp [h.eval hv,h.evals hw]
   · cases hx
theorem Rds.evalsA {N:Nat} {a:Act} {f:Fr} {ds:List Deferred} (h:Rds N a f ds) {xs:Array Operand} {vs:List Value} (hx:evs f xs.toList=some vs):xs.map a.eval=vs.toArray:=by
 have:=h.evals hx; rw [← this,← List.map_toArray]
theorem Rds.put {N:Nat} {a:Act} {f:Fr} {ds:List Deferred} (h:Rds N a f ds) (d:Nat) (hd:Nat.blt d N=true) (v:Value):Rds N (a.put (some d) v) ((d,v) :: f) ds:=by
 have hd':d<N:=Nat.le_of_ble_eq_true hd
 refine ⟨by simp [Act.put,h.size],fun t u hu=>?_,h.defers⟩
 simp only [gt] at hu
 by_cases e:d=t
 · subst e
   simp at hu
   subst hu
   simp [Act.put,h.size,hd']
 · rw [show Nat.beq d t=false from beq_ne e] at hu
   simp only [cond_false] at hu
   simp [Act.put,e,h.get t u hu]
def sub:Fr→Fr→Prop
 | [],_=>True
 | (t,v) :: r,f=>gt f t=some v∧sub r f
theorem sub_get:∀ {f' f:Fr},sub f' f→∀ t v,gt f' t=some v→gt f t=some v
 | [],_,_,t,v,h=>by cases h
 | (i,u) :: r,f,hs,t,v,h=>by
   simp only [gt] at h
   by_cases e:i=t
   · subst e; simp at h; subst h; exact hs.1
   · rw [show Nat.beq i t=false from beq_ne e] at h
     exact sub_get hs.2 t v h
theorem Rds.weak {N:Nat} {a:Act} {f f':Fr} {ds:List Deferred} (h:Rds N a f ds) (hs:sub f' f):Rds N a f' ds:=
 ⟨h.size,fun t v ht=>h.get t v (sub_get hs t v ht),h.defers⟩
def argsFr:Nat→List Value→Fr
 | _,[]=>[]
 | i,v :: r=>(i,v) :: argsFr (i+1) r
theorem argsFr_get:∀ (l:List Value) (i t:Nat) (v:Value),gt (argsFr i l) t=some v→i≤t∧l[t - i]?=some v
 | [],i,t,v,h=>by cases h
 | u :: r,i,t,v,h=>by
   simp only [argsFr,gt] at h
   by_cases e:i=t
   · subst e; simp at h; subst h; simp
   · rw [show Nat.beq i t=false from beq_ne e] at h
     obtain ⟨h1,h2⟩:=argsFr_get r (i+1) t v h
     refine ⟨by omega,?_⟩
     rw [show t - i=(t - (i+1))+1 from by omega,List.getElem?_cons_succ]
     exact h2
def G (N:Nat) (K:Act→World→Prop) (f:Fr) (ds:List Deferred) (w:World):Prop:=∀ a,Rds N a f ds→K a w
def GQ (N:Nat) (K:Act→Prop) (f:Fr) (ds:List Deferred):Prop:=∀ a,Rds N a f ds→K a
theorem g_weak {N:Nat} {K:Act→World→Prop} {f:Fr} {ds:List Deferred} {w:World} (f':Fr) (hs:sub f' f) (h:G N K f' ds w):G N K f ds w:=fun a ha=>h a (ha.weak hs)
section
variable {P:Program} {N:Nat} {Q:Exit→Act→World→Prop} {f:Fr} {ds:List Deferred} {w:World}
theorem enter {g:FuncId} {fn:Func} {c:Code} {args:Array Value} {R:Ending→World→Prop} (N:Nat) (hf:P.funcs[g]?=some fn) (hb:fn.body=some c) (hN:fn.ntmps=N) (hA:Nat.ble args.size N=true)
   (h:G N (c.wp P (bodyPost P fn R)) (argsFr 0 args.toList) [] w):Calls P g args w R:=by
 refine calls_of_wp hf hb (h _ ⟨?_,fun t v ht=>?_,rfl⟩)
 · have:args.size≤N:=Nat.le_of_ble_eq_true hA
   simp [hN]; omega
 · obtain ⟨_,h2⟩:=argsFr_get _ 0 t v ht
   have h3:args[t]?=some v:=by simpa using h2
   have h4:t<args.size:=(Array.getElem?_eq_some_iff.1 h3).1
   show (args++_)[t]?=_
   rw [Array.getElem?_append_left h4]; exact h3
theorem g_seq {x y:Code} (h:G N (x.wp P (Exit.then (y.wp P Q) Q)) f ds w):G N ((Code.seq x y).wp P Q) f ds w:=fun a ha=>wp_seq (h a ha)
theorem g_skip (h:G N (Q .normal) f ds w):G N (Code.skip.wp P Q) f ds w:=fun a ha=>wp_skip (h a ha)
theorem g_then {K:Act→World→Prop} (h:G N K f ds w):G N (Exit.then K Q .normal) f ds w:=h
theorem g_then_ret {K:Act→World→Prop} (h:G N (Q .ret) f ds w):G N (Exit.then K Q .ret) f ds w:=h
theorem g_then_exit {K:Act→World→Prop} {i:Nat} (h:G N (Q (.exit i)) f ds w):G N (Exit.then K Q (.exit i)) f ds w:=h
theorem g_in {i:Nat} (h:G N (Q .normal) f ds w):G N (Exit.inBlock i Q .normal) f ds w:=h
theorem g_in_ret {i:Nat} (h:G N (Q .ret) f ds w):G N (Exit.inBlock i Q .ret) f ds w:=h
theorem g_in_hit {i:Nat} (h:G N (Q .normal) f ds w):G N (Exit.inBlock i Q (.exit i)) f ds w:=fun a ha=>by
 show if i=i then _ else _
 rw [if_pos rfl]; exact h a ha
theorem g_in_miss {i j:Nat} (hne:Nat.beq j i=false) (h:G N (Q (.exit j)) f ds w):G N (Exit.inBlock i Q (.exit j)) f ds w:=fun a ha=>by
 show if j=i then _ else _
 rw [if_neg (fun e=>by rw [e] at hne; simp [Nat.beq_refl] at hne)]; exact h a ha
theorem g_block {i:Nat} {c:Code} (h:G N (c.wp P (Exit.inBlock i Q)) f ds w):G N ((Code.block i c).wp P Q) f ds w:=fun a ha=>wp_block (h a ha)
theorem g_exit {i:Nat} (h:G N (Q (.exit i)) f ds w):G N ((Code.exit i).wp P Q) f ds w:=fun a ha=>wp_exit (h a ha)
theorem g_ret (h:G N (Q .ret) f ds w):G N (Code.ret.wp P Q) f ds w:=fun a ha=>wp_ret (h a ha)
theorem g_label {l:Nat} (h:G N (Q .normal) f ds w):G N ((Code.label l).wp P Q) f ds w:=fun a ha=>wp_label (h a ha)
theorem g_cond_t {c:Operand} {x y:Code} {b:Bool} (hc:evo f c=some (.bool b)) (hb:b=true) (ht:G N (x.wp P Q) f ds w):G N ((Code.cond c x y).wp P Q) f ds w:=
 fun a ha=>wp_cond_true (by rw [ha.eval hc,hb]) (ht a ha)
theorem g_cond_f {c:Operand} {x y:Code} {b:Bool} (hc:evo f c=some (.bool b)) (hb:b=false) (ht:G N (y.wp P Q) f ds w):G N ((Code.cond c x y).wp P Q) f ds w:=
 fun a ha=>wp_cond_false (by rw [ha.eval hc,hb]) (ht a ha)
theorem wp_loop_ix {ι:Type} {c:Code} {a:Act} (I:ι→Act→World→Prop) (μ:ι→Nat) (i0:ι) (h0:I i0 a w)
   (round:∀ i a w,I i a w→c.wp P (Exit.then (fun a' w'=>∃ j,I j a' w'∧μ j<μ i) Q) a w):(Code.loop c).wp P Q a w:=by
 intro b k cs
 have key:∀ n i a w,μ i=n→I i a w →
     ∃ e a' w',Q e a' w'∧Arrives P (lone (b.at a (.code c :: .inLoop c :: k)) cs w) b k cs e a' w':=by
   intro n
   induction n using Nat.strongRecOn with
   | _ n ih =>
     intro i a w hn hI
     obtain ⟨e,a₁,w₁,hq,harr⟩:=round i a w hI b (.inLoop c :: k) cs
     cases e with
     | normal =>
       obtain ⟨j,hI₁,hlt⟩:=hq
       obtain ⟨e₂,a₂,w₂,hq₂,harr₂⟩:=ih (μ j) (hn ▸ hlt) j a₁ w₁ rfl hI₁
       exact ⟨e₂,a₂,w₂,hq₂,.of_steps (Steps.trans harr (.one step_inLoop)) harr₂⟩
     | exit id=>exact ⟨_,a₁,w₁,hq,.pass (x:=.inLoop c) rfl (fun _ _=>.inl (by simp)) harr⟩
     | goto l=>exact ⟨_,a₁,w₁,hq,.pass (x:=.inLoop c) rfl (fun _ _=>.inl (by simp)) harr⟩
     | ret=>exact ⟨_,a₁,w₁,hq,.pass (x:=.inLoop c) rfl (fun _ _=>.inl (by simp)) harr⟩
     | panic ch=>exact ⟨_,a₁,w₁,hq,.pass (x:=.inLoop c) rfl (fun _ _=>.inl (by simp)) harr⟩
     | outgrown=>exact ⟨_,a₁,w₁,hq,.pass (x:=.inLoop c) rfl (fun _ _=>.inl (by simp)) harr⟩
 obtain ⟨e,a',w',hq,harr⟩:=key _ i0 a w rfl h0
 exact ⟨e,a',w',hq,.of_steps (.one step_loop) harr⟩
theorem g_loop {ι:Type} {c:Code} (F:ι→Fr) (I:ι→World→Prop) (μ:ι→Nat) (i0:ι) (hs:sub (F i0) f) (h0:I i0 w)
   (round:∀ i w,I i w→G N (c.wp P (Exit.then (fun a' w'=>∃ j,(Rds N a' (F j) ds∧I j w')∧μ j<μ i) Q)) (F i) ds w):G N ((Code.loop c).wp P Q) f ds w:=fun a ha =>
 wp_loop_ix (fun i a w=>Rds N a (F i) ds∧I i w) μ i0 ⟨ha.weak hs,h0⟩ (fun i a w ⟨h1,h2⟩=>round i w h2 a h1)
theorem g_round {ι:Type} {F:ι→Fr} {I:ι→World→Prop} {μ:ι→Nat} {i:ι} (j:ι) (hs:sub (F j) f) (h:I j w) (hμ:μ j<μ i) :
   G N (fun a' w'=>∃ j,(Rds N a' (F j) ds∧I j w')∧μ j<μ i) f ds w:=fun _ ha=>⟨j,⟨ha.weak hs,h⟩,hμ⟩
theorem g_cut {ι:Type} {c:Code} {K:Act→World→Prop} (F:ι→Fr) (I:ι→World→Prop)
   (hc:G N (c.wp P (Exit.then (fun a' w'=>∃ j,Rds N a' (F j) ds∧I j w') Q)) f ds w) (hk:∀ i w,I i w→G N K (F i) ds w):G N (c.wp P (Exit.then K Q)) f ds w:=fun a ha =>
 wp_mono (hc a ha) fun e a' w' h=>by
   cases e with
   | normal=>obtain ⟨j,h1,h2⟩:=h; exact hk j w' h2 a' h1
   | _=>exact h
theorem g_mid {ι:Type} {F:ι→Fr} {I:ι→World→Prop} (j:ι) (hs:sub (F j) f) (h:I j w) :
   G N (fun a' w'=>∃ j,Rds N a' (F j) ds∧I j w') f ds w:=fun _ ha=>⟨j,ha.weak hs,h⟩
end
structure Same (fp:Nat→Prop) (w w':World):Prop where
 os:w'.os=w.os
 tape:w'.tape=w.tape
 output:w'.output=w.output
 size:w.heap.size≤w'.heap.size
 block:∀ g,fp g→w'.heap[g]?=w.heap[g]?
theorem Same.rfl' {fp:Nat→Prop} {w:World}:Same fp w w:=⟨rfl,rfl,rfl,Nat.le_refl _,fun _ _=>rfl⟩
theorem Same.trans {fp:Nat→Prop} {a b c:World} (h:Same fp a b) (k:Same fp b c):Same fp a c:=
 ⟨k.os.trans h.os,k.tape.trans h.tape,k.output.trans h.output,Nat.le_trans h.size k.size,fun g hg=>(k.block g hg).trans (h.block g hg)⟩
theorem Same.less {fp fp':Nat→Prop} {a b:World} (h:Same fp a b) (k:∀ g,fp' g→fp g):Same fp' a b:=
 ⟨h.os,h.tape,h.output,h.size,fun g hg=>h.block g (k g hg)⟩
structure Item where
 fp:Nat→Prop
 ok:World→Prop
 loc:∀ {w w'},Same fp w w'→ok w→ok w'
def S (w:World) (L:List Item):Prop:=(∀ it∈L,it.ok w∧∀ g,it.fp g→g<w.heap.size)∧L.Pairwise (fun a b=>∀ g,a.fp g→¬ b.fp g)
def Ob (g:Nat) (o:Obj):Item:=⟨fun k=>k=g,fun w=>w.heap[g]?=some o,fun h k=>(h.block g rfl).trans k⟩
def Old (w0:World) (X:Nat→Prop):Item:=
 ⟨fun g=>g<w0.heap.size∧¬ X g,fun w=>Same (fun g=>g<w0.heap.size∧¬ X g) w0 w,fun h k=>k.trans h⟩
abbrev no:Nat→Prop:=fun _=>False
theorem S.nil (w:World):S w []:=⟨fun _ h=>(by cases h),.nil⟩
theorem S.at {w:World} {L:List Item} (h:S w L) {k:Nat} {it:Item} (hk:L[k]?=some it):it.ok w:=(h.1 it (List.mem_of_getElem? hk)).1
theorem S.lt {w:World} {L:List Item} (h:S w L) {k:Nat} {it:Item} (hk:L[k]?=some it) {g:Nat} (hg:it.fp g):g<w.heap.size:=(h.1 it (List.mem_of_getElem? hk)).2 g hg
theorem S.ob {w:World} {L:List Item} (h:S w L) {k g:Nat} {o:Obj} (hk:L[k]?=some (Ob g o)):w.heap[g]?=some o:=h.at hk
theorem S.move {w w':World} {L:List Item} (h:S w L) (hs:Same (fun g=>g<w.heap.size) w w'):S w' L:=
 ⟨fun it hit=>⟨it.loc (hs.less fun g hg=>(h.1 it hit).2 g hg) (h.1 it hit).1,fun g hg=>Nat.lt_of_lt_of_le ((h.1 it hit).2 g hg) hs.size⟩,h.2⟩
theorem S.old (w:World):S w [Old w no]:=⟨fun it h=>by
 rw [List.mem_singleton] at h
 subst h
 exact ⟨Same.rfl',fun g hg=>hg.1⟩,List.pairwise_singleton _ _⟩
theorem S.cons {w:World} {L:List Item} {it:Item} (h:S w L) (hi:it.ok w) (hl:∀ g,it.fp g→g<w.heap.size) (hd:∀ x∈L,∀ g,it.fp g→¬ x.fp g):S w (it :: L):=
 ⟨fun x hx=>by
   rcases List.mem_cons.1 hx with rfl | hx
   · exact ⟨hi,hl⟩
   · exact h.1 x hx,List.pairwise_cons.2 ⟨hd,h.2⟩⟩
theorem S.tail {w:World} {L:List Item} {it:Item} (h:S w (it :: L)):S w L:=⟨fun x hx=>h.1 x (List.mem_cons_of_mem _ hx),(List.pairwise_cons.1 h.2).2⟩
theorem S.head {w:World} {L:List Item} {it:Item} (h:S w (it :: L)):it.ok w∧(∀ g,it.fp g→g<w.heap.size)∧∀ x∈L,∀ g,it.fp g→¬ x.fp g:=
 ⟨(h.1 it (List.mem_cons_self ..)).1,(h.1 it (List.mem_cons_self ..)).2,(List.pairwise_cons.1 h.2).1⟩
theorem S.sublist {w:World} {L L':List Item} (h:S w L) (hs:L'.Sublist L):S w L':=⟨fun it hit=>h.1 it (hs.subset hit),h.2.sublist hs⟩
theorem S.perm {w:World} {L L':List Item} (h:S w L) (hp:L.Perm L'):S w L':=
 ⟨fun it hit=>h.1 it (hp.mem_iff.2 hit),(hp.pairwise_iff (fun {a b} hab g hb ha=>hab g ha hb)).1 h.2⟩
theorem S.alloc {w:World} {L:List Item} (h:S w L) (o:Obj):S (w.alloc o) (Ob w.heap.size o :: L):=by
 have hs:Same (fun g=>g<w.heap.size) w (w.alloc o):=⟨rfl,rfl,rfl,by simp,fun g hg=>Below.heap_alloc _ _ _ hg⟩
 refine (h.move hs).cons ?_ ?_ ?_
 · exact heap_alloc_new w o
 · intro g hg; cases hg; simp
 · intro x hx g hg hx'; cases hg
   exact absurd ((h.1 x hx).2 _ hx') (Nat.lt_irrefl _)
theorem S.drawn {w:World} {L:List Item} (h:S w L) (n:Nat):S { w with drawn:=n } L:=h.move ⟨rfl,rfl,rfl,Nat.le_refl _,fun _ _=>rfl⟩
theorem mem_set' {L:List Item} {k:Nat} {x y:Item} (h:y∈L.set k x):y=x∨∃ j,j ≠ k∧L[j]?=some y:=by
 obtain ⟨j,hj⟩:=List.getElem?_of_mem h
 rw [List.getElem?_set] at hj
 split at hj
 · split at hj
   · simp at hj; exact .inl hj.symm
   · cases hj
 · rename_i hne
   exact .inr ⟨j,fun e=>hne e.symm,hj⟩
theorem pair_of {L:List Item} (h:L.Pairwise (fun a b=>∀ g,a.fp g→¬ b.fp g)) {i j:Nat} {x y:Item} (hi:L[i]?=some x) (hj:L[j]?=some y) (hne:i ≠ j) (g:Nat) (hg:x.fp g):¬ y.fp g:=by
 obtain ⟨hi1,rfl⟩:=List.getElem?_eq_some_iff.1 hi
 obtain ⟨hj1,rfl⟩:=List.getElem?_eq_some_iff.1 hj
 rcases Nat.lt_or_gt_of_ne hne with hlt | hlt
 · exact List.pairwise_iff_getElem.1 h i j hi1 hj1 hlt g hg
 · exact fun hy=>List.pairwise_iff_getElem.1 h j i hj1 hi1 hlt g hy hg
theorem S.turn {w w':World} {L:List Item} (h:S w L) {k:Nat} {it it':Item} (hk:L[k]?=some it) (hs:Same (fun g=>g<w.heap.size∧¬ it.fp g) w w')
   (hok:it'.ok w') (hfp:∀ g,it'.fp g→(it.fp g∨w.heap.size≤g)∧g<w'.heap.size):S w' (L.set k it'):=by
 have hk1:k<L.length:=(List.getElem?_eq_some_iff.1 hk).1
 refine ⟨fun x hx=>?_,?_⟩
 · rcases mem_set' hx with rfl | ⟨j,hj,hx⟩
   · exact ⟨hok,fun g hg=>(hfp g hg).2⟩
   · have hx':=h.1 x (List.mem_of_getElem? hx)
     refine ⟨x.loc (hs.less fun g hg=>⟨hx'.2 g hg,fun hi=>pair_of h.2 hx hk hj g hg hi⟩) hx'.1,fun g hg=>Nat.lt_of_lt_of_le (hx'.2 g hg) hs.size⟩
 · rw [List.pairwise_iff_getElem]
   intro i j hi hj hlt g hg hg'
   have hi':i<L.length:=by simpa using hi
   have hj':j<L.length:=by simpa using hj
   have e1:∀ n (hn:n<L.length),n ≠ k→((L.set k it')[n]'(by simpa using hn))=L[n]:=fun n hn hne=>by
     rw [List.getElem_set]; rw [if_neg (fun e=>hne e.symm)]
   have far:∀ n (hn:n<L.length),n ≠ k→∀ g,L[n].fp g→¬ it'.fp g:=fun n hn hne g h1 h2=>by
     have hx':=h.1 L[n] (List.getElem_mem hn)
     rcases (hfp g h2).1 with h3 | h3
     · exact pair_of h.2 (List.getElem?_eq_getElem hn) hk hne g h1 h3
     · have:=hx'.2 g h1; omega
   by_cases hik:i=k
   · subst hik
     rw [e1 j hj' (by omega)] at hg'
     rw [List.getElem_set_self] at hg
     exact far j hj' (by omega) g hg' hg
   · rw [e1 i hi' hik] at hg
     by_cases hjk:j=k
     · subst hjk
       rw [List.getElem_set_self] at hg'
       exact far i hi' hik g hg hg'
     · rw [e1 j hj' hjk] at hg'
       exact List.pairwise_iff_getElem.1 h.2 i j hi' hj' hlt g hg hg'
theorem S.write {w w':World} {L:List Item} (h:S w L) {k g:Nat} {o o':Obj} (hk:L[k]?=some (Ob g o)) (hs:Same (fun i=>i ≠ g) w w') (ho:w'.heap[g]?=some o'):S w' (L.set k (Ob g o')):=
 h.turn hk (hs.less fun i hi=>hi.2) ho fun i hi=>by
   cases hi
   exact ⟨.inl rfl,Nat.lt_of_lt_of_le (h.lt hk rfl) hs.size⟩
theorem same_setCell (w:World) (g i:Nat) (v:Value):Same (fun k=>k ≠ g) w (w.setCell ⟨g,i,none⟩ v):=
 ⟨rfl,rfl,rfl,by simp [World.setCell],fun k hk=>Below.heap_setCell _ _ _ _ hk⟩
theorem same_setRow (w:World) (g:Nat) (cs:Array Value):Same (fun k=>k ≠ g) w (w.setRow g cs):=
 ⟨rfl,rfl,rfl,by simp [World.setRow],fun k hk=>by
   simp only [World.setRow,Array.getElem?_modify]; rw [if_neg (fun e=>hk e.symm)]⟩
theorem S.cell {w:World} {L:List Item} (h:S w L) {k g i:Nat} {cs:Array Value} {t:TypeId} {fr:Nat × Nat} {v:Value} (hk:L[k]?=some (Ob g (.cells cs t fr))) (hv:cs[i]?=some v):w.cell? ⟨g,i,none⟩=some v:=
 (cell_of_row w g i cs t fr (h.ob hk)).trans hv
theorem S.setCell {w:World} {L:List Item} (h:S w L) {k g i:Nat} {cs:Array Value} {t:TypeId} (hk:L[k]?=some (Ob g (.cells cs t (0,0)))) (v:Value) :
   S (w.setCell ⟨g,i,none⟩ v) (L.set k (Ob g (.cells (cs.setIfInBounds i v) t (0,0)))):=
 h.write hk (same_setCell w g i v) (by
   have:=h.ob hk
   simp [World.setCell,Array.getElem?_modify,this])
theorem S.setRow {w:World} {L:List Item} (h:S w L) {k g:Nat} {cs:Array Value} {t:TypeId} (hk:L[k]?=some (Ob g (.cells cs t (0,0)))) (cs':Array Value) :
   S (w.setRow g cs') (L.set k (Ob g (.cells cs' t (0,0)))):=
 h.write hk (same_setRow w g cs') (by
   have:=h.ob hk
   simp [World.setRow,Array.getElem?_modify,this])
theorem S.oldBlock {w w0:World} {L:List Item} {X:Nat→Prop} (h:S w L) {k:Nat} (hk:L[k]?=some (Old w0 X)) {g:Nat} (hg:g<w0.heap.size) (hX:¬ X g):w.heap[g]?=w0.heap[g]?:=
 (show Same _ w0 w from h.at hk).block g ⟨hg,hX⟩
theorem S.oldCell {w w0:World} {L:List Item} {X:Nat→Prop} (h:S w L) {k:Nat} (hk:L[k]?=some (Old w0 X)) {p:Addr} {v:Value} (hv:w0.cell? p=some v) (hX:¬ X p.block):w.cell? p=some v:=by
 have hlt:p.block<w0.heap.size:=by
   unfold World.cell? at hv
   split at hv
   · rename_i h1; exact (Array.getElem?_eq_some_iff.1 h1).1
   · cases hv
 rw [World.cell?_of_block (h.oldBlock hk hlt hX)]; exact hv
theorem S.absorb {w w1:World} {L new:List Item} (h:S w L) (h1:S w1 (new++[Old w no])):S w1 (new++L):=by
 have hold:Same (fun g=>g<w.heap.size∧¬ no g) w w1:=(h1.1 (Old w no) (by simp)).1
 have hL:S w1 L:=h.move (hold.less fun g hg=>⟨hg,id⟩)
 refine ⟨fun it hit=>?_,?_⟩
 · rcases List.mem_append.1 hit with hit | hit
   · exact h1.1 it (List.mem_append_left _ hit)
   · exact hL.1 it hit
 · have hp:=List.pairwise_append.1 h1.2
   refine List.pairwise_append.2 ⟨hp.1,hL.2,fun a ha b hb g hga hgb=>?_⟩
   exact hp.2.2 a ha (Old w no) (by simp) g hga ⟨(h.1 b hb).2 g hgb,id⟩
theorem S.absorbX {w w1:World} {L L' new:List Item} {X:Nat→Prop} (h:S w L) (hs:L'.Sublist L) (hX:∀ it∈L',∀ g,it.fp g→¬ X g) (h1:S w1 (new++[Old w X])):S w1 (new++L'):=by
 have hold:Same (fun g=>g<w.heap.size∧¬ X g) w w1:=(h1.1 (Old w X) (by simp)).1
 have h':=h.sublist hs
 have hL:S w1 L':=⟨fun it hit=>⟨it.loc (hold.less fun g hg=>⟨(h'.1 it hit).2 g hg,hX it hit g hg⟩) (h'.1 it hit).1,fun g hg=>Nat.lt_of_lt_of_le ((h'.1 it hit).2 g hg) hold.size⟩,h'.2⟩
 refine ⟨fun it hit=>?_,?_⟩
 · rcases List.mem_append.1 hit with hit | hit
   · exact h1.1 it (List.mem_append_left _ hit)
   · exact hL.1 it hit
 · have hp:=List.pairwise_append.1 h1.2
   refine List.pairwise_append.2 ⟨hp.1,hL.2,fun a ha b hb g hga hgb=>?_⟩
   exact hp.2.2 a ha (Old w X) (by simp) g hga ⟨(h'.1 b hb).2 g hgb,hX b hb g hgb⟩
theorem S.only {w:World} {new:List Item} {X:Nat→Prop} {w0:World} (h:S w (new++[Old w0 X])):S w [Old w0 X]:=h.sublist (List.sublist_append_right ..)
theorem S.below {w w0:World} {new:List Item} (h:S w (new++[Old w0 no])):Below w0.heap.size w0 w:=by
 have:=(h.1 (Old w0 no) (by simp)).1
 exact ⟨this.os,this.tape,this.output,this.size,fun k hk=>this.block k ⟨hk,id⟩⟩
section
variable {P:Program} {N:Nat} {Q:Exit→Act→World→Prop} {f:Fr} {ds:List Deferred} {w w':World} {o:Oper} {ops:Array Oper} {rest:List Oper} {L:List Item}
def Ex (P:Program) (N:Nat) (f:Fr) (ds:List Deferred) (o:Oper) (w:World) (v:Value) (w':World):Prop:=∀ a,Rds N a f ds→(execOp a.eval o).run P w=.ok (.value v) w'
def ExU (P:Program) (N:Nat) (f:Fr) (ds:List Deferred) (o:Oper) (w:World) (w':World):Prop:=∀ a,Rds N a f ds→(execOp a.eval o).run P w=.ok .skip w'
def ExC (P:Program) (N:Nat) (f:Fr) (ds:List Deferred) (o:Oper) (w:World) (g:FuncId) (vs:List Value) (w':World):Prop:=∀ a,Rds N a f ds→(execOp a.eval o).run P w=.ok (.enter g vs.toArray) w'
def ExP (P:Program) (N:Nat) (f:Fr) (ds:List Deferred) (o:Oper) (w:World) (v:Value) (w':World):Prop:=∀ a,Rds N a f ds→(execOp a.eval o).run P w=.halt (.panic v) w'
def ExD (P:Program) (N:Nat) (f:Fr) (ds:List Deferred) (o:Oper) (w:World) (d:Deferred) (w':World):Prop:=∀ a,Rds N a f ds→(execOp a.eval o).run P w=.ok (.defer d) w'
def Wt (ops:Array Oper) (f:Fr) (o:Oper):Prop:=o.guard=none∨∃ j b oj dj,o.guard=some (j,b)∧ops[j]?=some oj∧oj.dst=some dj∧gt f dj=some (.bool b)
theorem wt0 (h:o.guard=none):Wt ops f o:=.inl h
theorem wt1 {j:Nat} {b b':Bool} {oj:Oper} {dj:Nat} (h:o.guard=some (j,b)) (h1:ops[j]?=some oj) (h2:oj.dst=some dj) (h3:gt f dj=some (.bool b')) (h4:b'=b):Wt ops f o:=
 .inr ⟨j,b,oj,dj,h,h1,h2,h4 ▸ h3⟩
def Wn (ops:Array Oper) (f:Fr) (o:Oper):Prop:=∃ j b b' oj dj,o.guard=some (j,b)∧ops[j]?=some oj∧oj.dst=some dj∧(gt f dj=some (.bool b')∧b' ≠ b∨gt f dj=some undef)
theorem wn1 {j:Nat} {b b':Bool} {oj:Oper} {dj:Nat} (h:o.guard=some (j,b)) (h1:ops[j]?=some oj) (h2:oj.dst=some dj) (h3:gt f dj=some (.bool b')) (h4:b'=!b):Wn ops f o:=
 ⟨j,b,b',oj,dj,h,h1,h2,.inl ⟨h3,by rw [h4]; cases b <;> simp⟩⟩
theorem wn2 {j:Nat} {b:Bool} {oj:Oper} {dj:Nat} (h:o.guard=some (j,b)) (h1:ops[j]?=some oj) (h2:oj.dst=some dj) (h3:gt f dj=some undef):Wn ops f o:=
 ⟨j,b,true,oj,dj,h,h1,h2,.inr h3⟩
theorem Wt.wanted (h:Wt ops f o) {a:Act} (ha:Rds N a f ds):Region.wanted o (yielded ops a.tmps)=true:=by
 rcases h with h | ⟨j,b,oj,dj,h,h1,h2,h3⟩
 · simp [Region.wanted,h]
 · have:=ha.get dj _ h3
   simp [Region.wanted,h,yielded,h1,h2,this]
theorem Wn.unwanted (h:Wn ops f o) {a:Act} (ha:Rds N a f ds):Region.wanted o (yielded ops a.tmps)=false:=by
 obtain ⟨j,b,b',oj,dj,h,h1,h2,h3⟩:=h
 rcases h3 with ⟨h3,h4⟩ | h3
 · have:=ha.get dj _ h3
   simp [Region.wanted,h,yielded,h1,h2,this,h4]
 · have:=ha.get dj _ h3
   simp [Region.wanted,h,yielded,h1,h2,this,undef]
theorem put_none {a:Act} {v:Value} (hd:o.dst=none):a.put o.dst v=a:=by rw [hd]; rfl
theorem g_region {id:Nat} {l:List Oper} (h:G N (wpList P l.toArray Q l) f ds w):G N ((Code.region id l.toArray false).wp P Q) f ds w:=fun a ha=>wp_region_lit (h a ha)
theorem g_nil (h:G N (Q .normal) f ds w):G N (wpList P ops Q []) f ds w:=fun a ha=>wpList_nil (h a ha)
def StepK (P:Program) (ops:Array Oper) (Q:Exit→Act→World→Prop) (o:Oper) (K:Act→World→Prop) (a:Act) (w:World):Prop:=
 if Region.wanted o (yielded ops a.tmps) then o.wp P a w K Q∨(o.asks P a w∧LetsOut Q) else K (a.put o.dst undef) w
theorem l_of (h:G N (StepK P ops Q o (wpList P ops Q rest)) f ds w):G N (wpList P ops Q (o :: rest)) f ds w:=fun a ha=>by
 unfold wpList; exact h a ha
theorem o_of {i:Nat} {K:Act→World→Prop} (hi:ops[i]?=some o) (h:G N (StepK P ops Q o K) f ds w):G N (wpOp P ops Q i K) f ds w:=fun a ha=>by
 unfold wpOp; simp only [hi]; exact h a ha
section
variable {K:Act→World→Prop}
theorem s_of (hw:Wt ops f o) (h:∀ a,Rds N a f ds→o.wp P a w K Q):G N (StepK P ops Q o K) f ds w:=fun a ha=>by
 unfold StepK; rw [if_pos (hw.wanted ha)]; exact .inl (h a ha)
theorem s_val {d:Nat} {v:Value} (hw:Wt ops f o) (hd:o.dst=some d) (hN:Nat.blt d N=true) (hx:Ex P N f ds o w v w') (h:G N K ((d,v) :: f) ds w'):G N (StepK P ops Q o K) f ds w:=
 s_of hw fun a ha=>by
   unfold Oper.wp
   rw [hx a ha,Oper.upon_value,hd]
   exact h _ (ha.put d hN v)
theorem s_unit (hw:Wt ops f o) (hd:o.dst=none) (hx:ExU P N f ds o w w') (h:G N K f ds w'):G N (StepK P ops Q o K) f ds w:=
 s_of hw fun a ha=>by
   unfold Oper.wp
   rw [hx a ha,Oper.upon_skip,put_none hd]
   exact h _ ha
theorem s_val0 {v:Value} (hw:Wt ops f o) (hd:o.dst=none) (hx:Ex P N f ds o w v w') (h:G N K f ds w'):G N (StepK P ops Q o K) f ds w:=
 s_of hw fun a ha=>by
   unfold Oper.wp
   rw [hx a ha,Oper.upon_value,put_none hd]
   exact h _ ha
theorem s_not {d:Nat} (hw:Wn ops f o) (hd:o.dst=some d) (hN:Nat.blt d N=true) (h:G N K ((d,undef) :: f) ds w):G N (StepK P ops Q o K) f ds w:=fun a ha=>by
 unfold StepK
 rw [if_neg (by rw [hw.unwanted ha]; simp),hd]
 exact h _ (ha.put d hN _)
def Back (N:Nat) (o:Oper) (K:Act→World→Prop) (Q:Exit→Act→World→Prop) (f:Fr) (ds:List Deferred):Ending→World→Prop
 | .returned v,w=>G N (fun a w=>K (a.put o.dst v) w) f ds w
 | .panicked c,w=>G N (Q (.panic c)) f ds w
 | .outgrown,_=>LetsOut Q
theorem s_call {g:FuncId} {vs:List Value} {R:Ending→World→Prop} (hw:Wt ops f o) (hx:ExC P N f ds o w g vs w') (hc:Calls P g vs.toArray w' R) (h:∀ e w'',R e w''→Back N o K Q f ds e w''):G N (StepK P ops Q o K) f ds w:=
 s_of hw fun a ha=>by
   unfold Oper.wp
   rw [hx a ha,Oper.upon_enter]
   refine hc.mono fun e w'' he=>?_
   have:=h e w'' he
   cases e with
   | returned v=>exact this a ha
   | panicked c=>exact this a ha
   | outgrown=>exact this
theorem b_ret {d:Nat} {v:Value} (hd:o.dst=some d) (hN:Nat.blt d N=true) (h:G N K ((d,v) :: f) ds w):Back N o K Q f ds (.returned v) w:=fun a ha=>by
 show K (a.put o.dst v) w
 rw [hd]; exact h _ (ha.put d hN v)
end
theorem g_quiet {id:Nat} {l:List Oper} (hm:P.follows .mixedOrders=true) (hB:Region.lexB .any l.toArray=true) (hS:S w L)
   (h:GQ N (wpQuiet P l.toArray (fun w=>S w L) (fun a'=>∀ w',S w' L→Q .normal a' w') l) f ds):G N ((Code.region id l.toArray true).wp P Q) f ds w:=fun a ha =>
 wp_region_quiet (C:=fun w=>S w L) hm hB (hS.drawn _) (by simpa using h a ha)
theorem q_nil (h:∀ w,S w L→G N (Q .normal) f ds w):GQ N (wpQuiet P ops (fun w=>S w L) (fun a'=>∀ w',S w' L→Q .normal a' w') []) f ds:=fun a ha=>wpQuiet_nil fun w' hw'=>h w' hw' a ha
theorem q_of {QQ:Act→Prop} {v:Value} {d:Nat} (hw:Wt ops f o) (hd:o.dst=some d) (hN:Nat.blt d N=true) (hx:∀ a,Rds N a f ds→∀ w,S w L→o.quietAt P a (fun w=>S w L) w v)
   (h:GQ N (wpQuiet P ops (fun w=>S w L) QQ rest) ((d,v) :: f) ds):GQ N (wpQuiet P ops (fun w=>S w L) QQ (o :: rest)) f ds:=fun a ha =>
 wpQuiet_step fun K hK=>by
   rw [if_pos (hw.wanted ha)]
   exact ⟨v,fun w hw=>hx a ha w hw,by rw [hd]; exact hK _ (h _ (ha.put d hN v))⟩
theorem q_val {QQ:Act→Prop} {v:Value} {d:Nat} (hw:Wt ops f o) (hd:o.dst=some d) (hN:Nat.blt d N=true) (hx:∀ w,S w L→Ex P N f ds o w v w)
   (h:GQ N (wpQuiet P ops (fun w=>S w L) QQ rest) ((d,v) :: f) ds):GQ N (wpQuiet P ops (fun w=>S w L) QQ (o :: rest)) f ds:=
 q_of hw hd hN (fun a ha w hS=>by unfold Oper.quietAt; rw [hx w hS a ha]; exact ⟨rfl,rfl⟩) h
theorem q_call {QQ:Act→Prop} {v:Value} {d:Nat} {g:FuncId} {vs:List Value} (hw:Wt ops f o) (hd:o.dst=some d) (hN:Nat.blt d N=true) (hx:∀ w,S w L→ExC P N f ds o w g vs w)
   (hc:∀ w,S w L→Calls P g vs.toArray w (fun e w'=>e=.returned v∧S w' L))
   (h:GQ N (wpQuiet P ops (fun w=>S w L) QQ rest) ((d,v) :: f) ds):GQ N (wpQuiet P ops (fun w=>S w L) QQ (o :: rest)) f ds:=
 q_of hw hd hN (fun a ha w hS=>by unfold Oper.quietAt; rw [hx w hS a ha]; exact ⟨rfl,hc w hS⟩) h
theorem q_not {QQ:Act→Prop} {d:Nat} (hw:Wn ops f o) (hd:o.dst=some d) (hN:Nat.blt d N=true)
   (h:GQ N (wpQuiet P ops (fun w=>S w L) QQ rest) ((d,undef) :: f) ds):GQ N (wpQuiet P ops (fun w=>S w L) QQ (o :: rest)) f ds:=fun a ha =>
 wpQuiet_step fun K hK=>by
   rw [if_neg (by rw [hw.unwanted ha]; simp),hd]
   exact hK _ (h _ (ha.put d hN _))
def resOk (P:Program) (f:Fr) (w:World):List ResultVar→List Value→Prop
 | [],[]=>True
 | .tmp t :: r,v :: vs=>gt f t=some v∧resOk P f w r vs
 | .cell a t :: r,v :: vs=>(∃ ad,gt f a=some (.pointer (some ad))∧(loadVar t ad).run P w=.ok v w)∧resOk P f w r vs
 | _,_=>False
def rdRes (tm:Array Value):ResultVar→Sem Value
 | .tmp t=>pure (tm.getD t undef)
 | .cell a t=>do loadVar t (← asAddr (tm.getD a undef))
theorem resOk_run {a:Act} (ha:Rds N a f ds):∀ {l:List ResultVar} {vs:List Value},resOk P f w l vs→(l.mapM (rdRes a.tmps)).run P w=Result.ok vs w
 | [],[],_=>rfl
 | [],_ :: _,h=>h.elim
 | .tmp t :: r,v :: vs,⟨h1,h2⟩=>by
   have e:a.tmps.getD t undef=v:=by rw [Array.getD_eq_getD_getElem?,ha.get t v h1]; rfl
   simp only [List.mapM_cons,rdRes,e,Sem.run_bind,Sem.run_pure,Result.andThen_ok,resOk_run ha h2]
 | .cell b t :: r,v :: vs,⟨⟨ad,h1,h3⟩,h2⟩=>by
   have e:a.tmps.getD b undef=.pointer (some ad):=by rw [Array.getD_eq_getD_getElem?,ha.get b _ h1]; rfl
   simp only [List.mapM_cons,rdRes,e,Sem.run_bind,Sem.run_pure,Result.andThen_ok,resOk_run ha h2,asAddr,h3]
 | .tmp t :: r,[],h=>(show False from h).elim
 | .cell b t :: r,[],h=>(show False from h).elim
theorem results_eq (fn:Func) (tm:Array Value):results fn tm=(do let vs ← fn.results.mapM (rdRes tm); pure (if h:vs.size=1 then vs[0] else Value.tuple vs)):=by
 unfold results
 congr 2
def tupled:List Value→Value
 | [v]=>v
 | vs=>.tuple vs.toArray
theorem results_run {fn:Func} {rs:List ResultVar} {vs:List Value} {a:Act} (ha:Rds N a f ds) (hr:fn.results=rs.toArray) (h:resOk P f w rs vs):(results fn a.tmps).run P w=.ok (tupled vs) w:=by
 rw [results_eq,hr]
 have:=resOk_run ha h
 have e2:(rs.toArray.mapM (rdRes a.tmps)).run P w=.ok vs.toArray w:=by
   rw [List.mapM_toArray]
   simp [this]
 simp only [Sem.run_bind,e2,Result.andThen_ok,Sem.run_pure]
 match vs with
 | []=>rfl
 | [v]=>rfl
 | u :: v :: r=>simp [tupled]
theorem fin_ret {fn:Func} {R:Ending→World→Prop} (rs:List ResultVar) (vs:List Value) (hr:fn.results=rs.toArray) (h:resOk P f w rs vs) (hR:R (.returned (tupled vs)) w):G N (bodyPost P fn R .ret) f [] w:=fun a ha =>
 ⟨ha.defers,_,results_run ha hr h,hR⟩
theorem fin_end {fn:Func} {R:Ending→World→Prop} (rs:List ResultVar) (vs:List Value) (hr:fn.results=rs.toArray) (h:resOk P f w rs vs) (hR:R (.returned (tupled vs)) w):G N (bodyPost P fn R .normal) f [] w:=fun a ha =>
 ⟨ha.defers,_,results_run ha hr h,hR⟩
end
section
variable {P:Program} {N:Nat} {f:Fr} {ds:List Deferred} {w w':World} {o:Oper} {L:List Item}
theorem ex_of {v:Value} {x:Sem Value} (h:∀ a,Rds N a f ds→execOp a.eval o=(do pure (.value (← x)))) (hx:x.run P w=.ok v w'):Ex P N f ds o w v w':=fun a ha=>by
 rw [h a ha]; simp [hx]
theorem x_move {x:Operand} {v:Value} (ho:o.op=.move x) (hx:evo f x=some v):Ex P N f ds o w v w:=fun a ha=>by
 unfold execOp; simp only [ho,ha.eval hx]; rfl
theorem x_assign {x:Operand} {v:Value} (ho:o.op=.assign x) (hx:evo f x=some v):Ex P N f ds o w v w:=fun a ha=>by
 unfold execOp; simp only [ho,ha.eval hx]; rfl
def Bin (P:Program) (op:BinOp) (t:TypeId) (x y:Operand) (a b:Value) (w:World) (v:Value):Prop:=(do eqGuard op t x y a b; binOp op t a b:Sem Value).run P w=.ok v w
theorem x_bin {op:BinOp} {t ty:TypeId} {x y:Operand} {vx vy v:Value} (ho:o.op=.binOp op t x y ty) (hx:evo f x=some vx) (hy:evo f y=some vy) (hb:Bin P op t x y vx vy w v):Ex P N f ds o w v w:=
 ex_of (fun a ha=>by unfold execOp; simp only [ho,ha.eval hx,ha.eval hy]) hb
section
variable {t:TypeId} {xo yo:Operand} {k:IntKind} {x y r:Int}
theorem guard_int {op:BinOp}:(eqGuard op t xo yo (.int k x) (.int k y)).run P w=.ok () w:=by unfold eqGuard; cases op <;> rfl
theorem b_add (h:k.wrap (x+y)=r):Bin P .add t xo yo (.int k x) (.int k y) w (.int k r):=by
 unfold Bin; rw [Sem.run_bind,guard_int]; simp [binOp,Op.intArith,h]
theorem b_sub (h:k.wrap (x - y)=r):Bin P .sub t xo yo (.int k x) (.int k y) w (.int k r):=by
 unfold Bin; rw [Sem.run_bind,guard_int]; simp [binOp,Op.intArith,h]
theorem b_mul (h:k.wrap (x * y)=r):Bin P .mul t xo yo (.int k x) (.int k y) w (.int k r):=by
 unfold Bin; rw [Sem.run_bind,guard_int]; simp [binOp,Op.intArith,h]
theorem b_quo (hy:y ≠ 0) (h:k.wrap (x.tdiv y)=r):Bin P .quo t xo yo (.int k x) (.int k y) w (.int k r):=by
 unfold Bin; rw [Sem.run_bind,guard_int]; simp [binOp,Op.intDiv,h,hy]
theorem b_rem (hy:y ≠ 0) (h:x.tmod y=r):Bin P .rem t xo yo (.int k x) (.int k y) w (.int k r):=by
 unfold Bin; rw [Sem.run_bind,guard_int]; simp [binOp,Op.intDiv,h,hy]
theorem b_lss:Bin P .lss t xo yo (.int k x) (.int k y) w (.bool (decide (x<y))):=by
 unfold Bin; rw [Sem.run_bind,guard_int]; simp [binOp,Op.intCmp]
theorem b_leq:Bin P .leq t xo yo (.int k x) (.int k y) w (.bool (decide (x≤y))):=by
 unfold Bin; rw [Sem.run_bind,guard_int]; simp [binOp,Op.intCmp]
theorem b_gtr:Bin P .gtr t xo yo (.int k x) (.int k y) w (.bool (decide (y<x))):=by
 unfold Bin; rw [Sem.run_bind,guard_int]; simp [binOp,Op.intCmp]
theorem b_geq:Bin P .geq t xo yo (.int k x) (.int k y) w (.bool (decide (y≤x))):=by
 unfold Bin; rw [Sem.run_bind,guard_int]; simp [binOp,Op.intCmp]
theorem b_eql:Bin P .eql t xo yo (.int k x) (.int k y) w (.bool (decide (x=y))):=by
 unfold Bin; rw [Sem.run_bind,guard_int]; simp [binOp,Op.intCmp]; rfl
theorem b_neq:Bin P .neq t xo yo (.int k x) (.int k y) w (.bool (!decide (x=y))):=by
 unfold Bin; rw [Sem.run_bind,guard_int]; simp [binOp,Op.intCmp]; rfl
theorem b_bits {op:BinOp} (hop:op=.and∨op=.or∨op=.xor∨op=.andNot) {v:Value} (h:(Op.intBits op k x y).run P w=.ok v w):Bin P op t xo yo (.int k x) (.int k y) w v:=by
 unfold Bin; rw [Sem.run_bind,guard_int]
 rcases hop with rfl | rfl | rfl | rfl <;> simp [binOp,h]
theorem b_shr {n:Nat} {yk:IntKind} (h:x.fdiv (2 ^ (min n k.bits))=r):Bin P .shr t xo yo (.int k x) (.int yk n) w (.int k r):=by
 have:(eqGuard .shr t xo yo (.int k x) (.int yk n)).run P w=.ok () w:=rfl
 unfold Bin; have h0:¬ ((n:Int)<0):=by omega
 rw [Sem.run_bind,this]; simp [binOp,Op.shift,h,h0]
theorem w64 {n:Int} (h:-9223372036854775808≤n∧n≤9223372036854775807):IntKind.i64.wrap n=n:=IntWalk.i64_in n h
theorem quo64 {x y:Int} (h:0≤x∧x≤9223372036854775807∧1≤y):IntKind.i64.wrap (x.tdiv y)=x / y:=IntWalk.i64_quo x y h
theorem rem0 {x y:Int} (h:0≤x):x.tmod y=x % y:=Int.tmod_eq_emod_of_nonneg h
end
section
variable {t:TypeId} {xo yo:Operand}
theorem ofInt_nat (n a:Nat):BitVec.ofInt n (a:Int)=BitVec.ofNat n a:=by
 apply BitVec.eq_of_toNat_eq
 simp [BitVec.toNat_ofInt]
end
section
variable {t:TypeId} {xo yo:Operand} {x y:ByteArray}
theorem guard_str {op:BinOp}:(eqGuard op t xo yo (.string x) (.string y)).run P w=.ok () w:=by unfold eqGuard; cases op <;> rfl
theorem b_cat (h:x.size+y.size≤9223372036854775807):Bin P .add t xo yo (.string x) (.string y) w (.string (x++y)):=by
 unfold Bin; rw [Sem.run_bind,guard_str]
 have:¬ (((x.size+y.size:Nat):Int) > IntKind.i64.max):=by show ¬ ((9223372036854775807:Int)<_); omega
 simp only [binOp,Op.stringOp,Result.andThen_ok,if_neg this]; rfl
end
theorem x_not {t:TypeId} {x:Operand} {b:Bool} (ho:o.op=.unOp .not t x) (hx:evo f x=some (.bool b)):Ex P N f ds o w (.bool (!b)) w:=
 ex_of (x:=Op.unary .not (.bool b)) (fun a ha=>by unfold execOp; simp only [ho,ha.eval hx]) rfl
theorem x_conv {s d:TypeId} {x:Operand} {k k':IntKind} {n r:Int} {dsc:TypeDesc} (ho:o.op=.convert s d x) (hx:evo f x=some (.int k n)) (hs:P.underlying s=some dsc) (hu:P.underlying d=some (.int k')) (h:k'.wrap n=r):Ex P N f ds o w (.int k' r) w:=
 ex_of (x:=convert s d (.int k n)) (fun a ha=>by unfold execOp; simp only [ho,ha.eval hx]) (by
   unfold convert
   simp only [Sem.run_bind,run_underlying hs,run_underlying hu,Result.andThen_ok]
   simp [Conv.intToInt,h])
def szO (P:Program) (t:TypeId):Option Nat:=(P.info? t).map (·.size)
def zeO (P:Program) (t:TypeId):Option Value:=(P.info? t).bind (·.zero)
def aggB:TypeDesc→Bool | .struct _ | .array _ _=>true | _=>false
def foO (P:Program) (t i:Nat):Option Nat:=
 match P.underlying t with
 | some (.struct fs)=>match fs[i]? with
   | some f=>match P.info? f.type with
     | some ii=>if ii.size=0 then none else some f.offset
     | none=>none
   | none=>none
 | _=>none
theorem run_sz {t n:Nat} (h:szO P t=some n) (w:World):(sizeOf t).run P w=.ok n w:=by
 unfold szO at h
 cases hi:P.info? t with
 | none=>simp [hi] at h
 | some i=>simp [hi] at h; simp [sizeOf,typeInfo,hi,h]
theorem run_ze {t:Nat} {z:Value} (h:zeO P t=some z) (w:World):(zeroValue t).run P w=.ok z w:=by
 unfold zeO at h
 cases hi:P.info? t with
 | none=>simp [hi] at h
 | some i =>
   simp [hi] at h
   simp [zeroValue,typeInfo,hi,h]
theorem x_alloc {t:TypeId} {z:Value} (ho:o.op=.alloc t) (hz:zeO P t=some z):Ex P N f ds o w (.pointer (some ⟨w.heap.size,0,none⟩)) (w.alloc (.cells z.cells t (0,0))):=
 ex_of (x:=Instr.alloc t true (.tuple #[])) (fun a ha=>by unfold execOp; simp only [ho]) (by
   unfold Instr.alloc
   simp only [Sem.run_bind,run_ze hz,Result.andThen_ok]
   rfl)
theorem x_box {t:TypeId} {x:Operand} {v:Value} (ho:o.op=.box t x) (hx:evo f x=some v):Ex P N f ds o w (.pointer (some ⟨w.heap.size,0,none⟩)) (w.alloc (.cells v.cells t (0,0))):=
 ex_of (x:=Instr.box t v) (fun a ha=>by unfold execOp; simp only [ho,ha.eval hx]) rfl
theorem add_lit' (g o j:Nat):(⟨g,o,none⟩:Addr).add j=⟨g,o+j,none⟩:=by unfold Addr.add; split <;> simp_all
theorem x_fieldAddr {s i n:Nat} {x:Operand} {g off off':Nat} (ho:o.op=.fieldAddr s x i) (hx:evo f x=some (.pointer (some ⟨g,off,none⟩))) (hf:foO P s i=some n) (he:off+n=off'):Ex P N f ds o w (.pointer (some ⟨g,off',none⟩)) w:=
 ex_of (x:=Instr.fieldAt s (.pointer (some ⟨g,off,none⟩)) i) (fun a ha=>by unfold execOp; simp only [ho,ha.eval hx]) (by
   subst he
   unfold foO at hf
   split at hf
   · rename_i fs hu
     split at hf
     · rename_i fd hfd
       split at hf
       · rename_i ii hii
         split at hf
         · cases hf
         · rename_i hne
           cases hf
           unfold Instr.fieldAt
           simp only [Sem.run_bind,run_underlying hu,Result.andThen_ok,hfd,Instr.sureAddr,Sem.run_pure,fieldPlace,run_sz (show szO P fd.type=some ii.size by simp [szO,hii]),if_neg hne,add_lit']
       · cases hf
     · cases hf
   · cases hf)
theorem run_load1 {t:TypeId} {d:TypeDesc} {p:Addr} {v:Value} (hu:P.underlying t=some d) (hd:aggB d=false) (hc:w.cell? p=some v):(loadVar t p).run P w=.ok v w:=by
 unfold loadVar isAgg
 simp only [Sem.run_bind,run_underlying hu,Result.andThen_ok]
 have:(load p).run P w=.ok v w:=by simp [load,Sem.run,hc]
 cases d <;> simp [aggB] at hd <;> simp only [Sem.run_pure,Result.andThen_ok,Bool.false_eq_true,if_false,this]
theorem x_load {t:TypeId} {x:Operand} {p:Addr} {v:Value} (ho:o.op=.load t x) (hx:evo f x=some (.pointer (some p))) (h:(loadVar t p).run P w=.ok v w):Ex P N f ds o w v w:=
 ex_of (x:=Instr.loadAt t (.pointer (some p))) (fun a ha=>by unfold execOp; simp only [ho,ha.eval hx]) (by
   unfold Instr.loadAt
   simp only [Sem.run_bind,Instr.sureAddr,Sem.run_pure,Result.andThen_ok,h])
theorem x_load1 {t:TypeId} {d:TypeDesc} {x:Operand} {g i:Nat} {cs:Array Value} {e:TypeId} {fr:Nat × Nat} {v:Value} (H:S w L) (k:Nat) (ho:o.op=.load t x) (hx:evo f x=some (.pointer (some ⟨g,i,none⟩))) (hu:P.underlying t=some d) (hd:aggB d=false)
   (hk:L[k]?=some (Ob g (.cells cs e fr))) (hv:cs[i]?=some v):Ex P N f ds o w v w:=x_load ho hx (run_load1 hu hd (H.cell hk hv))
theorem run_loadA {t:TypeId} {d:TypeDesc} {g i n:Nat} {cs:Array Value} {e:TypeId} {fr:Nat × Nat} {vs:Array Value} (hg:w.heap[g]?=some (.cells cs e fr)) (hu:P.underlying t=some d) (hd:aggB d=true) (hn:szO P t=some n) (hl:Nat.ble (i+n) cs.size=true)
   (hv:cs.extract i (i+n)=vs):(loadVar t ⟨g,i,none⟩).run P w=.ok (.agg vs) w:=by
 subst hv
 have hl:=Nat.le_of_ble_eq_true hl
 have hsz:(cs.extract i (i+n)).toList.length=n:=by simp; omega
 have h:=run_loadCells_list (P:=P) w ⟨g,i,none⟩ (cs.extract i (i+n)).toList (fun j v hj=>by
   rw [add_lit',cell_of_row w g (i+j) cs e fr hg]
   have hj':=hj
   rw [Array.getElem?_toList] at hj'
   rw [Array.getElem?_extract] at hj'
   split at hj'
   · exact hj'
   · cases hj')
 rw [hsz,Array.toArray_toList] at h
 unfold loadVar isAgg
 simp only [Sem.run_bind,run_underlying hu,Result.andThen_ok]
 cases d <;> simp [aggB] at hd <;> simp only [Sem.run_bind,Sem.run_pure,Result.andThen_ok,if_true,run_sz hn,h]
theorem x_loadA {t:TypeId} {d:TypeDesc} {x:Operand} {g i n:Nat} {cs:Array Value} {e:TypeId} {fr:Nat × Nat} {vs:Array Value} (H:S w L) (k:Nat) (ho:o.op=.load t x) (hx:evo f x=some (.pointer (some ⟨g,i,none⟩))) (hu:P.underlying t=some d) (hd:aggB d=true)
   (hn:szO P t=some n) (hk:L[k]?=some (Ob g (.cells cs e fr))) (hl:Nat.ble (i+n) cs.size=true) (hv:cs.extract i (i+n)=vs):Ex P N f ds o w (.agg vs) w:=x_load ho hx (run_loadA (H.ob hk) hu hd hn hl hv)
theorem exu_store {t:TypeId} {x y:Operand} {p:Addr} {v:Value} (ho:o.op=.store t x y) (hx:evo f x=some (.pointer (some p))) (hy:evo f y=some v) (h:(storeVar t p v).run P w=.ok () w'):ExU P N f ds o w w':=fun a ha=>by
 unfold execOp
 simp only [ho,ha.eval hx,ha.eval hy,Instr.storeAt,Instr.sureAddr,Sem.run_bind,Sem.run_pure,Result.andThen_ok,h]
theorem run_storeR {t:TypeId} {g i:Nat} {cs:Array Value} {e:TypeId} {v:Value} (hg:w.heap[g]?=some (.cells cs e (0,0))) (hn:szO P t=some v.cells.size) (hl:i+v.cells.size≤cs.size) (h1:∀ u∈v.cells.toList,u.oneCell'=true) :
   (storeVar t ⟨g,i,none⟩ v).run P w=.ok () (w.setRow g (cs.toList.take i++v.cells.toList++cs.toList.drop (i+v.cells.size)).toArray):=by
 have h:=run_storeCells_at P g i e v.cells.toList 0 cs w hg (by simpa using hl) h1
 unfold storeVar
 simp only [Sem.run_bind,run_sz hn,Result.andThen_ok]
 simpa using h
theorem s_store {ops:Array Oper} {K:Act→World→Prop} {Q:Exit→Act→World→Prop} {t:TypeId} {x y:Operand} {g i:Nat} {cs cs':Array Value} {e:TypeId} {v:Value} (H:S w L) (k:Nat) (hw:Wt ops f o) (hd:o.dst=none) (ho:o.op=.store t x y) (hx:evo f x=some (.pointer (some ⟨g,i,none⟩)))
   (hy:evo f y=some v) (hk:L[k]?=some (Ob g (.cells cs e (0,0)))) (hn:szO P t=some v.cells.size) (hl:Nat.ble (i+v.cells.size) cs.size=true) (h1:v.cells.toList.all (·.oneCell')=true)
   (hc:(cs.toList.take i++v.cells.toList++cs.toList.drop (i+v.cells.size)).toArray=cs') (h:∀ w',S w' (L.set k (Ob g (.cells cs' e (0,0))))→G N K f ds w'):G N (StepK P ops Q o K) f ds w:=
 s_unit hw hd (exu_store ho hx hy (run_storeR (H.ob hk) hn (Nat.le_of_ble_eq_true hl) (List.all_eq_true.1 h1))) (h _ (by rw [hc]; exact H.setRow hk cs'))
theorem s_new {ops:Array Oper} {K:Act→World→Prop} {Q:Exit→Act→World→Prop} {d:Nat} {b:Obj} {v:Nat→Value} (H:S w L) (hw:Wt ops f o) (hd:o.dst=some d) (hN:Nat.blt d N=true) (hx:Ex P N f ds o w (v w.heap.size) (w.alloc b))
   (h:∀ g w',S w' (Ob g b :: L)→G N K ((d,v g) :: f) ds w'):G N (StepK P ops Q o K) f ds w:=
 s_val hw hd hN hx (h _ _ (H.alloc b))
theorem s_alloc {ops:Array Oper} {K:Act→World→Prop} {Q:Exit→Act→World→Prop} {d:Nat} {t:TypeId} {z:Value} (H:S w L) (hw:Wt ops f o) (hd:o.dst=some d) (hN:Nat.blt d N=true) (ho:o.op=.alloc t) (hz:zeO P t=some z)
   (h:∀ g w',S w' (Ob g (.cells z.cells t (0,0)) :: L)→G N K ((d,.pointer (some ⟨g,0,none⟩)) :: f) ds w'):G N (StepK P ops Q o K) f ds w:=
 s_new (v:=fun g=>.pointer (some ⟨g,0,none⟩)) H hw hd hN (x_alloc ho hz) h
theorem s_box {ops:Array Oper} {K:Act→World→Prop} {Q:Exit→Act→World→Prop} {d:Nat} {t:TypeId} {x:Operand} {v:Value} (H:S w L) (hw:Wt ops f o) (hd:o.dst=some d) (hN:Nat.blt d N=true) (ho:o.op=.box t x) (hx:evo f x=some v)
   (h:∀ g w',S w' (Ob g (.cells v.cells t (0,0)) :: L)→G N K ((d,.pointer (some ⟨g,0,none⟩)) :: f) ds w'):G N (StepK P ops Q o K) f ds w:=
 s_new (v:=fun g=>.pointer (some ⟨g,0,none⟩)) H hw hd hN (x_box ho hx) h
theorem x_nilCheck {x:Operand} {p:Addr} (ho:o.op=.nilCheck x) (hx:evo f x=some (.pointer (some p))):Ex P N f ds o w (.pointer (some p)) w:=fun a ha=>by
 unfold execOp; simp only [ho,ha.eval hx]; rfl
theorem x_extract {x:Operand} {i:Nat} {vs:Array Value} {v:Value} (ho:o.op=.extract x i) (hx:evo f x=some (.tuple vs)) (hv:vs[i]?=some v):Ex P N f ds o w v w:=
 ex_of (x:=Instr.extract (.tuple vs) i) (fun a ha=>by unfold execOp; simp only [ho,ha.eval hx]) (by simp [Instr.extract,hv])
theorem evparts {a:Act} (ha:Rds N a f ds):∀ {ps:List (Nat × Operand)} {vs:List Value},evs f (ps.map (·.2))=some vs→(ps.map fun (i,x)=>(i,a.eval x))=(ps.map (·.1)).zip vs
 | [],vs,h=>by simp
 | (i,x) :: r,vs,h=>by
   simp only [List.map_cons] at h
   unfold evs at h
   split at h
   · rename_i v us hv hu
     cases h
     have:=evparts ha hu
     simp only [List.map_cons,ha.eval hv,List.zip_cons_cons,this]
   · cases h
theorem x_build {t:TypeId} {ps:Array (Nat × Operand)} {vs:List Value} {cells:Array Value} (ho:o.op=.build t ps) (hx:evs f (ps.toList.map (·.2))=some vs) (hb:P.built t ((ps.toList.map (·.1)).zip vs)=some cells):Ex P N f ds o w (.agg cells) w:=fun a ha=>by
 unfold execOp
 have h1:(ps.map fun (i,x)=>(i,a.eval x)).toList=(ps.toList.map (·.1)).zip vs:=by rw [Array.toList_map]; exact evparts ha hx
 simp only [ho,Sem.run_bind,run_build w t _ cells (by rw [h1]; exact hb),Result.andThen_ok]; rfl
theorem run_part1 {t:TypeId} {d:TypeDesc} {cs:Array Value} {i:Nat} {v:Value} (hu:P.underlying t=some d) (hd:aggB d=false) (hv:cs[i]?=some v):(part t cs i).run P w=.ok v w:=by
 unfold part isAgg
 simp only [Sem.run_bind,run_underlying hu,Result.andThen_ok]
 cases d <;> simp [aggB] at hd <;> simp [hv]
theorem x_pick_t {c x y:Operand} {b:Bool} {v:Value} (ho:o.op=.pick c x y) (hc:evo f c=some (.bool b)) (hb:b=true) (hx:evo f x=some v):Ex P N f ds o w v w:=fun a ha=>by
 unfold execOp; simp only [ho,ha.eval hx,ha.eval hc,asBool,hb]; rfl
theorem x_pick_f {c x y:Operand} {b:Bool} {v:Value} (ho:o.op=.pick c x y) (hc:evo f c=some (.bool b)) (hb:b=false) (hx:evo f y=some v):Ex P N f ds o w v w:=fun a ha=>by
 unfold execOp; simp only [ho,ha.eval hx,ha.eval hc,asBool,hb]; rfl
theorem x_makeFunc {fn:Fn} {first captured:Array Operand} {v1 v2:List Value} (ho:o.op=.makeFunc fn first captured) (h1:evs f first.toList=some v1) (h2:evs f captured.toList=some v2):Ex P N f ds o w (.func fn v1.toArray v2.toArray) w:=fun a ha=>by
 unfold execOp; simp only [ho,ha.evalsA h1,ha.evalsA h2]; rfl
theorem neg_of {a b:Bool} (h:a=b):(!a)=!b:=by rw [h]
theorem nt {p:Prop} [Decidable p] (h:¬ p):(!decide p)=true:=by simpa using h
theorem nf {p:Prop} [Decidable p] (h:p):(!decide p)=false:=by simpa using h
def mask:List Bool→List Item→List Item
 | true :: m,it :: L=>it :: mask m L
 | false :: m,_ :: L=>mask m L
 | _,_=>[]
theorem mask_sub:∀ (m:List Bool) (L:List Item),(mask m L).Sublist L
 | true :: m,it :: L=>(mask_sub m L).cons_cons it
 | false :: m,it :: L=>(mask_sub m L).cons it
 | [],L=>by unfold mask; exact List.nil_sublist _
 | true :: _,[]=>by unfold mask; exact List.nil_sublist _
 | false :: _,[]=>by unfold mask; exact List.nil_sublist _
theorem S.mask {w:World} {L:List Item} (h:S w L) (m:List Bool):S w (mask m L):=h.sublist (mask_sub m L)
def callable (P : Program) (g : FuncId) : Bool := match P.funcs[g]? with | some fn => !(fn.name == "runtime.NumGoroutine") && fn.body.isSome | none => false
theorem run_callFunc {g:FuncId} (h:callable P g=true) (args:Array Value):(callFunc g args).run P w=.ok (.enter g args) w:=by
 unfold callable at h
 split at h
 · rename_i fn hf
   simp only [Bool.and_eq_true,Bool.not_eq_true'] at h
   unfold callFunc
   have h1 : ¬ fn.name = "runtime.NumGoroutine" := by simpa using h.1
   simp [hf,h1,program,Sem.run,Option.isNone_iff_eq_none,Option.isSome_iff_ne_none.1 h.2]
 · cases h
theorem x_call {x:Operand} {g:FuncId} {args:Array Operand} {ts:Array TypeId} {first captured:Array Value} {vs:List Value} (ho:o.op=.call { callee:=.value x,args:=args,argTypes:=ts }) (hx:evo f x=some (.func (.func g) first captured)) (hv:evs f args.toList=some vs)
   (hg:callable P g=true):ExC P N f ds o w g (first.toList++vs++captured.toList) w:=fun a ha=>by
 unfold execOp
 have he:args.map a.eval=vs.toArray:=ha.evalsA hv
 simp only [ho,resolve,ha.eval hx,Deferred.ofValue,Sem.run_bind,Sem.run_pure,Result.andThen_ok,invoke,he,run_callFunc hg]
 congr 2
 apply Array.ext'
 simp
theorem x_call' {g:FuncId} {args:Array Operand} {ts:Array TypeId} {vs:List Value} (ho:o.op=.call { callee:=.value (.func g),args:=args,argTypes:=ts }) (hv:evs f args.toList=some vs) (hg:callable P g=true):ExC P N f ds o w g vs w:=fun a ha=>by
 have:=x_call (P:=P) (N:=N) (f:=f) (ds:=ds) (w:=w) (o:=o) (first:=#[]) (captured:=#[]) ho rfl hv hg a ha
 simpa using this
theorem x_builtin {b:Builtin} {args:Array Operand} {ts:Array TypeId} {vs:List Value} {v:Value} (ho:o.op=.call { callee:=.builtin b,args:=args,argTypes:=ts }) (hv:evs f args.toList=some vs)
   (h:∀ cs,(builtin b ts o.type cs vs.toArray).run P w=.ok (.value v) w'):Ex P N f ds o w v w':=fun a ha=>by
 unfold execOp
 have he:args.map a.eval=vs.toArray:=ha.evalsA hv
 simp only [ho,resolve,Sem.run_bind,Sem.run_pure,Result.andThen_ok,invoke,he]
 exact h _
theorem x_lens {x:Operand} {t:TypeId} {s:ByteArray} (ho:o.op=.call { callee:=.builtin .len,args:=#[x],argTypes:=#[t] }) (hx:evo f x=some (.string s)) (hu:P.underlying t=some .string):Ex P N f ds o w (.int .i64 s.size) w:=
 x_builtin (vs:=[.string s]) ho (by simp only [evs,hx]) (fun cs=>by simp [builtin,Builtin.len_,run_underlying hu,goInt])
theorem x_lenl {x:Operand} {t e:TypeId} {p:Option Addr} {n c:Nat} (ho:o.op=.call { callee:=.builtin .len,args:=#[x],argTypes:=#[t] }) (hx:evo f x=some (.slice p n c)) (hu:P.underlying t=some (.slice e)):Ex P N f ds o w (.int .i64 n) w:=
 x_builtin (vs:=[.slice p n c]) ho (by simp only [evs,hx]) (fun cs=>by simp [builtin,Builtin.len_,run_underlying hu,goInt])
theorem x_min {x y:Operand} {ts:Array TypeId} {k:IntKind} {a b:Int} (ho:o.op=.call { callee:=.builtin .min,args:=#[x,y],argTypes:=ts }) (hx:evo f x=some (.int k a)) (hy:evo f y=some (.int k b)):Ex P N f ds o w (.int k (min a b)) w:=
 x_builtin (vs:=[.int k a,.int k b]) ho (by simp only [evs,hx,hy]) (fun cs=>by
   have:(if b<a then b else a)=min a b:=by rw [Int.min_def]; split <;> split <;> omega
   simp [builtin,Builtin.min_,Builtin.min2,this])
theorem x_max {x y:Operand} {ts:Array TypeId} {k:IntKind} {a b:Int} (ho:o.op=.call { callee:=.builtin .max,args:=#[x,y],argTypes:=ts }) (hx:evo f x=some (.int k a)) (hy:evo f y=some (.int k b)):Ex P N f ds o w (.int k (max a b)) w:=
 x_builtin (vs:=[.int k a,.int k b]) ho (by simp only [evs,hx,hy]) (fun cs=>by
   have:(if a<b then b else a)=max a b:=by rw [Int.max_def]; split <;> split <;> omega
   simp [builtin,Builtin.max_,Builtin.max2,this])
def bt' (s:ByteArray) (i:Nat):Nat:=(s.data.toList[i]?.getD 0).toNat
theorem bt'_lt (s:ByteArray) (i:Nat):bt' s i<256:=UInt8.toNat_lt _
theorem x_index {t:TypeId} {x y:Operand} {s:ByteArray} {k:IntKind} {i:Int} (n:Nat) (ho:o.op=.index t x y) (hx:evo f x=some (.string s)) (hy:evo f y=some (.int k i)) (hu:P.underlying t=some .string) (hb:i=(n:Int)∧n<s.size):Ex P N f ds o w (.int .u8 (bt' s n)) w:=
 ex_of (x:=Instr.index t (.string s) (.int k i)) (fun a ha=>by unfold execOp; simp only [ho,ha.eval hx,ha.eval hy]) (by
   obtain ⟨rfl,hi⟩:=hb
   have e:s[n]?=some (s[n]'hi):=getElem?_pos s n hi
   have e2:bt' s n=(s[n]'hi).toNat:=by
     unfold bt'
     rw [List.getElem?_eq_getElem (by simpa using hi)]; rfl
   have h0:(0:Int)≤(n:Int):=by omega
   unfold Instr.index
   simp only [asIntOf,Sem.run_bind,Sem.run_pure,Result.andThen_ok,run_underlying hu,if_pos h0,Int.toNat_natCast,e,e2])
theorem run_bound {k:IntKind} {i:Int} {y:Nat} {c:BoundsCode} (h:0≤i∧i≤y):(Instr.sliceBound (.int k i) y c).run P w=.ok i.toNat w:=by
 simp [Instr.sliceBound,asIntOf,h]
theorem x_slices {t:TypeId} {x:Operand} {lo hi:Option Operand} {s:ByteArray} (l h:Nat) (ho:o.op=.slice t x lo hi none) (hx:evo f x=some (.string s)) (hu:P.underlying t=some .string)
   (hlo:(lo=none∧l=0)∨∃ y k i,lo=some y∧evo f y=some (.int k i)∧i=(l:Int)) (hhi:(hi=none∧h=s.size)∨∃ y k i,hi=some y∧evo f y=some (.int k i)∧i=(h:Int)) (hb:l≤h∧h≤s.size):Ex P N f ds o w (.string (s.extract l h)) w:=fun a ha=>by
 unfold execOp
 simp only [ho,ha.eval hx,Instr.sliceAt,Sem.run_bind,run_underlying hu,Result.andThen_ok,Instr.slice,Option.map_none,Option.isSome_none,Bool.false_eq_true,if_false,Sem.run_pure]
 have:(Instr.sliceBounds false s.size s.size (lo.map a.eval) (hi.map a.eval) none).run P w=.ok (l,h,s.size) w:=by
   unfold Instr.sliceBounds
   rcases hlo with ⟨rfl,rfl⟩ | ⟨y,k,i,rfl,e,rfl⟩ <;> rcases hhi with ⟨rfl,rfl⟩ | ⟨y',k',i',rfl,e',rfl⟩
   · simp
   · simp only [Option.map_some,ha.eval e',Option.map_none]
     simp [run_bound (P:=P) (w:=w) (k:=k') (i:=(h:Int)) (y:=s.size) (by omega)]
   · simp only [Option.map_some,ha.eval e,Option.map_none]
     simp [run_bound (P:=P) (w:=w) (k:=k) (i:=(l:Int)) (y:=s.size) (by omega)]
   · simp only [Option.map_some,ha.eval e,ha.eval e']
     simp [run_bound (P:=P) (w:=w) (k:=k') (i:=(h:Int)) (y:=s.size) (by omega),run_bound (P:=P) (w:=w) (k:=k) (i:=(l:Int)) (y:=h) (by omega)]
 simp [this]
end
/-! ## A region that draws its order, in general: what may be taken first is taken first; of what is left each order is walked.
  C: the class of worlds in which what is taken first yields its value; T: the operations behind which the class need not hold (they wait for all that hangs on it). -/
section
variable {P:Program} {N:Nat} {ops:Array Oper} {Q:Exit→Act→World→Prop} {md:Region.Mode} {C S':World→Prop} {T:List Nat} {f:Fr} {ds:List Deferred} {w:World} {listed:Array Bool} {fuel:Nat} {K:Act→World→Prop}
def wpAnyX (P:Program) (md:Region.Mode) (ops:Array Oper) (Q:Exit→Act→World→Prop) (C:World→Prop) (T:List Nat):Nat→Array Bool→Act→World→Prop
 | 0,listed,a,w=>Region.ready md ops listed=[]∧Q .normal a w
 | fuel+1,listed,a,w =>
   (Region.ready md ops listed=[]→Q .normal a w) ∧
   ∀ i∈Region.ready md ops listed,wpOp P ops Q i (fun a' w'=>(T.contains i=false→C w')∧wpAnyX P md ops Q C T fuel (listed.setIfInBounds i true) a' w') a w
theorem wpAny_of_X:∀ (fuel:Nat) (listed:Array Bool) (a:Act) (w:World),wpAnyX P md ops Q C T fuel listed a w→wpAny P md ops Q fuel listed a w
 | 0,_,_,_,h=>h
 | fuel+1,_,_,_,h=>⟨h.1,fun i hi=>wpOp_mono (fun a' w' h'=>wpAny_of_X fuel _ a' w' h'.2) (h.2 i hi)⟩
theorem wpAnyX_first {i:Nat} {oi:Oper} {v:Value} (hi:ops[i]?=some oi) (hsel:∀ (j:Nat) (o:Oper) cs b,ops[j]?=some o→o.op ≠ .select cs b)
   (hQ:∀ c a w,Q (.panic c) (a.put oi.dst v) w→Q (.panic c) a w) (hC:∀ w,C w→S' w) (hT:∀ j oj,ops[j]?=some oj→T.contains j=true→(∃ e∈oj.after,Region.binds md e=true∧e.on=i)∨∀ w,S' w)
   (hCi:T.contains i=false→∀ w,S' w→C w) :
   ∀ (fuel:Nat) (listed:Array Bool) (a:Act) (w:World),
     (∀ j oj,ops[j]?=some oj→j ≠ i→listed.getD j true=false→(∀ e∈oj.after,Region.binds md e=true→e.on ≠ i)→oi.apart ops oj=true) →
     i∈Region.ready md ops listed→YieldsIf P ops S' oi v a→S' w →
     wpAnyX P md ops Q C T fuel (listed.setIfInBounds i true) (a.put oi.dst v) w→wpAnyX P md ops Q C T (fuel+1) listed a w:=by
 intro fuel
 induction fuel with
 | zero =>
   intro listed a w _ hr hy hS H
   refine ⟨fun h=>(by rw [h] at hr; cases hr),fun j hj=>?_⟩
   by_cases hji:j=i
   · subst hji; exact hy.wpOp hi hS ⟨fun h=>hCi h _ hS,H⟩
   · have:=ready_mono hj hji
     rw [H.1] at this
     cases this
 | succ fuel ih =>
   intro listed a w hfree hr hy hS H
   refine ⟨fun h=>(by rw [h] at hr; cases hr),fun j hj=>?_⟩
   by_cases hji:j=i
   · subst hji; exact hy.wpOp hi hS ⟨fun h=>hCi h _ hS,H⟩
   · have h1:=H.2 j (ready_mono hj hji)
     obtain ⟨hjun,oj,hoj,hall⟩:=mem_ready.1 hj
     have hnot:∀ e∈oj.after,Region.binds md e=true→e.on ≠ i:=fun e he hb heq=>by
       have h1:=hall e he hb
       have h0:=(mem_ready.1 hr).1
       rw [heq] at h1
       rcases Nat.lt_or_ge i listed.size with h' | h'
       · simp [h'] at h0 h1; rw [h0] at h1; cases h1
       · simp [Array.getElem?_eq_none h'] at h1
     have h2:=wpOp_putIf hoj (hfree j oj hoj hji hjun hnot) (fun cs b=>hsel i oi cs b hi) (fun cs b=>hsel j oj cs b hoj) hQ hy h1
     have hfree':∀ k ok,ops[k]?=some ok→k ≠ i→(listed.setIfInBounds j true).getD k true=false →
         (∀ e∈ok.after,Region.binds md e=true→e.on ≠ i)→oi.apart ops ok=true:=fun k ok hk hki hun hno=>by
       refine hfree k ok hk hki ?_ hno
       by_cases hjk:j=k
       · subst hjk; exact hjun
       · rw [getD_set_ne true hjk] at hun; exact hun
     refine wpOp_mono (fun a' w' h3=>⟨h3.2.1,ih (listed.setIfInBounds j true) a' w' hfree' (ready_mono hr (Ne.symm hji)) h3.1 ?_ ?_⟩) h2
     · cases hTj:T.contains j with
       | false=>exact hC _ (h3.2.1 hTj)
       | true =>
         rcases hT j oj hoj hTj with ⟨e,he,hb,heq⟩ | h
         · exact absurd heq (hnot e he hb)
         · exact h _
     · rw [Array.setIfInBounds_comm _ _ hji]
       exact h3.2.2
def waits (md:Region.Mode) (ops:Array Oper) (T:List Nat) (i:Nat):Bool:=
 T.all fun j=>match ops[j]? with | some oj=>oj.after.any fun e=>Region.binds md e && Nat.beq e.on i | none=>true
theorem waits_spec {i:Nat} (h:waits md ops T i=true):∀ j oj,ops[j]?=some oj→T.contains j=true→∃ e∈oj.after,Region.binds md e=true∧e.on=i:=fun j oj hj hT=>by
 have:=List.all_eq_true.1 h j (by simpa using hT)
 simp only [hj] at this
 obtain ⟨e,he,hb⟩:=Array.any_eq_true'.1 this
 simp only [Bool.and_eq_true] at hb
 exact ⟨e,he,hb.1,Nat.eq_of_beq_eq_true hb.2⟩
theorem ex_yields {o:Oper} {v:Value} {a:Act} (ha:Rds N a f ds) (hw:Wt ops f o) (hx:∀ w,S' w→Ex P N f ds o w v w):YieldsIf P ops S' o v a:=.inl ⟨hw.wanted ha,fun w h=>hx w h a ha⟩
theorem wn_yields {o:Oper} {a:Act} (ha:Rds N a f ds) (hw:Wn ops f o):YieldsIf P ops S' o undef a:=.inr ⟨hw.unwanted ha,rfl⟩
def PanP (N:Nat) (f0:Fr) (ds:List Deferred) (Q:Exit→Act→World→Prop):Exit→Act→World→Prop
 | .panic c,a,w=>Rds N a f0 ds∧G N (Q (.panic c)) f0 ds w
 | e,a,w=>Q e a w
theorem pan_put {f0:Fr} {d:Nat} {v:Value} (hd:gt f0 d=none) {a:Act} (h:Rds N (a.put (some d) v) f0 ds):Rds N a f0 ds:=
 ⟨by have:=h.size; simpa [Act.put] using this,fun t u ht=>by
   have:=h.get t u ht
   have hne:d ≠ t:=fun e=>by subst e; rw [hd] at ht; cases ht
   simpa [Act.put,hne] using this,h.defers⟩
theorem g_any {id:Nat} {l:List Oper} {L:List Item} (f0:Fr) (C:World→Prop) (T:List Nat) (hm:P.follows .mixedOrders=true) (H:S w L) (h:∀ w,S w L→G N (wpAnyX P .any l.toArray (PanP N f0 ds Q) C T l.length (Array.replicate l.length false)) f ds w):G N ((Code.region id l.toArray true).wp P Q) f ds w:=fun a ha=>by
 refine wp_mono (Q:=PanP N f0 ds Q) (wp_region_any hm (wpAny_of_X (C:=C) (T:=T) _ _ _ _ ?_)) (fun e a w h=>by cases e <;> first | exact h | exact h.2 _ h.1)
 have:=h _ (H.drawn (w.drawn+1)) a ha
 simpa using this
theorem a_take {f0:Fr} {d:Nat} {o:Oper} {v:Value} (i:Nat) (hi:ops[i]?=some o) (hw:Wt ops f o) (hd:o.dst=some d) (hN:Nat.blt d N=true) (h0:gt f0 d=none) (hs:Region.noSelect ops=true) (hf:Region.free md ops listed i=true) (hr:(Region.ready md ops listed).contains i=true)
   (hT:waits md ops T i=true) (hC:C w) (hx:∀ w,C w→Ex P N f ds o w v w)
   (h:G N (wpAnyX P md ops (PanP N f0 ds Q) C T fuel (listed.setIfInBounds i true)) ((d,v) :: f) ds w):G N (wpAnyX P md ops (PanP N f0 ds Q) C T (fuel+1) listed) f ds w:=fun a ha =>
 wpAnyX_first (S':=C) hi (Region.noSelect_spec hs) (fun c a w h=>⟨pan_put h0 (by rw [← hd]; exact h.1),h.2⟩) (fun _ h=>h) (fun j oj hj hTj=>.inl (waits_spec hT j oj hj hTj)) (fun _ _ h=>h) fuel listed a w (Region.free_spec hi hf) (by simpa using hr) (ex_yields ha hw hx) hC
   (by rw [hd]; exact h _ (ha.put d hN v))
theorem a_not {f0:Fr} {d:Nat} {o:Oper} (i:Nat) (hi:ops[i]?=some o) (hw:Wn ops f o) (hd:o.dst=some d) (hN:Nat.blt d N=true) (h0:gt f0 d=none) (hs:Region.noSelect ops=true) (hf:Region.free md ops listed i=true) (hr:(Region.ready md ops listed).contains i=true)
   (hT:waits md ops T i=true) (hC:C w)
   (h:G N (wpAnyX P md ops (PanP N f0 ds Q) C T fuel (listed.setIfInBounds i true)) ((d,undef) :: f) ds w):G N (wpAnyX P md ops (PanP N f0 ds Q) C T (fuel+1) listed) f ds w:=fun a ha =>
 wpAnyX_first (S':=C) hi (Region.noSelect_spec hs) (fun c a w h=>⟨pan_put h0 (by rw [← hd]; exact h.1),h.2⟩) (fun _ h=>h) (fun j oj hj hTj=>.inl (waits_spec hT j oj hj hTj)) (fun _ _ h=>h) fuel listed a w (Region.free_spec hi hf) (by simpa using hr) (wn_yields ha hw) hC
   (by rw [hd]; exact h _ (ha.put d hN _))
def AK (P:Program) (md:Region.Mode) (ops:Array Oper) (Q:Exit→Act→World→Prop) (C:World→Prop) (T:List Nat) (fuel:Nat) (listed:Array Bool) (i:Nat):Act→World→Prop:=
 fun a' w'=>(T.contains i=false→C w')∧wpAnyX P md ops Q C T fuel (listed.setIfInBounds i true) a' w'
theorem a_k {i:Nat} (hC:C w) (h:G N (wpAnyX P md ops Q C T fuel (listed.setIfInBounds i true)) f ds w):G N (AK P md ops Q C T fuel listed i) f ds w:=fun a ha=>⟨fun _=>hC,h a ha⟩
theorem a_kt {i:Nat} (hT:T.contains i=true) (h:G N (wpAnyX P md ops Q C T fuel (listed.setIfInBounds i true)) f ds w):G N (AK P md ops Q C T fuel listed i) f ds w:=fun a ha=>⟨fun h0=>absurd (hT.symm.trans h0) (by decide),h a ha⟩
theorem a_one {i:Nat} {o:Oper} (hr:Region.ready md ops listed=[i]) (hi:ops[i]?=some o) (h:G N (StepK P ops Q o (AK P md ops Q C T fuel listed i)) f ds w):G N (wpAnyX P md ops Q C T (fuel+1) listed) f ds w:=fun a ha =>
 ⟨fun h0=>absurd (hr.symm.trans h0) (by simp),fun j hj=>by
   rw [hr,List.mem_singleton] at hj
   subst hj
   exact o_of hi h a ha⟩
theorem a_two {i j:Nat} {o o':Oper} (hr:Region.ready md ops listed=[i,j]) (hi:ops[i]?=some o) (hj:ops[j]?=some o') (h:G N (StepK P ops Q o (AK P md ops Q C T fuel listed i)) f ds w) (h':G N (StepK P ops Q o' (AK P md ops Q C T fuel listed j)) f ds w):G N (wpAnyX P md ops Q C T (fuel+1) listed) f ds w:=fun a ha =>
 ⟨fun h0=>absurd (hr.symm.trans h0) (by simp),fun k hk=>by
   rw [hr] at hk
   simp only [List.mem_cons,List.not_mem_nil,or_false] at hk
   rcases hk with rfl | rfl
   · exact o_of hi h a ha
   · exact o_of hj h' a ha⟩
theorem a_done {f0:Fr} (hr:Region.ready md ops listed=[]) (h:G N (Q .normal) f ds w):G N (wpAnyX P md ops (PanP N f0 ds Q) C T fuel listed) f ds w:=fun a ha=>by
 cases fuel with
 | zero=>exact ⟨hr,h a ha⟩
 | succ n=>exact ⟨fun _=>h a ha,by rw [hr]; simp⟩
end
theorem own_local {w w':World} {e:TypeId} {size n:Nat} {v:Value} {xs:List Value} (h:Same (fun g=>v.ownBlock=some g) w w') (k:w.ownsRow 0 e size v n xs):w'.ownsRow 0 e size v n xs:=by
 refine ⟨k.1,?_⟩
 rcases k.2 with h2 | ⟨g,cap,cur,rfl,h0,h3,r⟩
 · exact .inl h2
 · exact .inr ⟨g,cap,cur,rfl,h0,(h.block g rfl).trans h3,r⟩
def Row (v:Value) (e:TypeId) (size n:Nat) (xs:List Value):Item:=⟨fun g=>v.ownBlock=some g,fun w=>w.ownsRow 0 e size v n xs,own_local⟩
section
variable {P:Program} {N:Nat} {Q:Exit→Act→World→Prop} {f:Fr} {ds:List Deferred} {w w':World} {o:Oper} {ops:Array Oper} {L:List Item} {K:Act→World→Prop}
theorem S.row {k:Nat} {v:Value} {e size n:Nat} {xs:List Value} (h:S w L) (hk:L[k]?=some (Row v e size n xs)):w.ownsRow 0 e size v n xs:=h.at hk
def infO (P:Program) (t:TypeId):Option (Option Value × Nat × Nat):=(P.info? t).map fun i=>(i.zero,i.size,i.bytes)
theorem inf_of {t size bytes:Nat} {z:Option Value} (h:infO P t=some (z,size,bytes)):∃ i,P.info? t=some i∧i.zero=z∧i.size=size∧i.bytes=bytes:=by
 unfold infO at h
 cases hi:P.info? t with
 | none=>simp [hi] at h
 | some i=>simp [hi] at h; exact ⟨i,rfl,h.1,h.2.1,h.2.2⟩
theorem news_ob {g j0:Nat} {cs:Array Value} {e:TypeId} {fr:Nat × Nat} (H:S w L) (hk:L[j0]?=some (Ob g (.cells cs e fr))):∀ j u,cs.toList[j]?=some u→w.cell? ((⟨g,0,none⟩:Addr).add j)=some u:=fun j u hu=>by
 rw [add_lit',Nat.zero_add]; exact H.cell hk (by simpa using hu)
theorem x_indexAddr {t e size n c g off:Nat} {x y:Operand} {k:IntKind} {i:Int} (j:Nat) (ho:o.op=.indexAddr t x y) (hx:evo f x=some (.slice (some ⟨g,off,none⟩) n c)) (hy:evo f y=some (.int k i)) (hu:P.underlying t=some (.slice e)) (hz:szO P e=some size) (hb:i=(j:Int)∧j<n) {off':Nat} (he:off+j * size=off') :
   Ex P N f ds o w (.pointer (some ⟨g,off',none⟩)) w:=
 ex_of (x:=Instr.indexAt t (.slice (some ⟨g,off,none⟩) n c) (.int k i)) (fun a ha=>by unfold execOp; simp only [ho,ha.eval hx,ha.eval hy]) (by
   obtain ⟨rfl,hj⟩:=hb
   subst he
   unfold Instr.indexAt
   have h1:(0:Int)≤(j:Int)∧(j:Int)<(n:Int):=by omega
   simp only [asIntOf,Sem.run_bind,Sem.run_pure,Result.andThen_ok,run_underlying hu,if_pos h1,Int.toNat_natCast,run_sz hz,add_lit'])
theorem x_indexAddrA {t e size n g off:Nat} {x y:Operand} {k:IntKind} {i:Int} (j:Nat) (ho:o.op=.indexAddr t x y) (hx:evo f x=some (.pointer (some ⟨g,off,none⟩))) (hy:evo f y=some (.int k i)) (hu:P.underlying t=some (.array n e)) (hz:szO P e=some size) (hb:i=(j:Int)∧j<n) {off':Nat} (he:off+j * size=off') :
   Ex P N f ds o w (.pointer (some ⟨g,off',none⟩)) w:=
 ex_of (x:=Instr.indexAt t (.pointer (some ⟨g,off,none⟩)) (.int k i)) (fun a ha=>by unfold execOp; simp only [ho,ha.eval hx,ha.eval hy]) (by
   obtain ⟨rfl,hj⟩:=hb
   subst he
   unfold Instr.indexAt
   have h1:(0:Int)≤(j:Int)∧(j:Int)<(n:Int):=by omega
   simp only [asIntOf,Sem.run_bind,Sem.run_pure,Result.andThen_ok,run_underlying hu,Instr.sureAddr,if_pos h1,Int.toNat_natCast,run_sz hz,add_lit'])
theorem run_loadF {t:TypeId} {d:TypeDesc} {p:Addr} {n:Nat} {vs:List Value} (hu:P.underlying t=some d) (hd:aggB d=true) (hn:szO P t=some n) (hl:vs.length=n) (hc:∀ j v,vs[j]?=some v→w.cell? (p.add j)=some v):(loadVar t p).run P w=.ok (.agg vs.toArray) w:=by
 have h:=run_loadCells_list (P:=P) w p vs hc
 rw [hl] at h
 unfold loadVar isAgg
 simp only [Sem.run_bind,run_underlying hu,Result.andThen_ok]
 cases d <;> simp [aggB] at hd <;> simp only [Sem.run_bind,Sem.run_pure,Result.andThen_ok,if_true,run_sz hn,h]
def bytesV (l:List UInt8):List Value:=l.map fun b=>Value.int .u8 b.toNat
theorem fold_bytes (l:List UInt8) (r:ByteArray):(l.map fun b=>((b.toNat:Nat):Int)).foldl (fun r n=>r.push (UInt8.ofNat n.toNat)) r=⟨r.data++l.toArray⟩:=by
 induction l generalizing r with
 | nil=>simp
 | cons b l ih =>
   simp only [List.map_cons,List.foldl_cons,ih]
   apply ByteArray.ext
   apply Array.ext'
   simp [ByteArray.push]
theorem x_bytes {s d e n c:Nat} {x:Operand} {ad:Addr} {l:List UInt8} (ho:o.op=.convert s d x) (hx:evo f x=some (.slice (some ad) n c)) (hs:P.underlying s=some (.slice e)) (hd:P.underlying d=some .string) (he:P.underlying e=some (.int .u8)) (hl:l.length=n)
   (hc:∀ j u,(bytesV l)[j]?=some u→w.cell? (ad.add j)=some u):Ex P N f ds o w (.string ⟨l.toArray⟩) w:=
 ex_of (x:=convert s d (.slice (some ad) n c)) (fun a ha=>by unfold execOp; simp only [ho,ha.eval hx]) (by
   have h1:=run_loadCells_list (P:=P) w ad (bytesV l) hc
   have h2:bytesV l=(l.map fun b=>((b.toNat:Nat):Int)).map (Value.int .u8):=by simp [bytesV]
   have h3:(bytesV l).length=n:=by simp [bytesV,hl]
   rw [h3,h2] at h1
   have h4:=run_bytesToString w ad n c _ h1
   rw [fold_bytes] at h4
   unfold convert
   simp only [Sem.run_bind,run_underlying hs,run_underlying hd,Result.andThen_ok]
   simp only [run_underlying he,Sem.run_bind,Result.andThen_ok,h4]
   simp)
theorem x_bytes0 {s d e:Nat} {x:Operand} {n c:Nat} (ho:o.op=.convert s d x) (hx:evo f x=some (.slice none n c)) (hs:P.underlying s=some (.slice e)) (hd:P.underlying d=some .string) (he:P.underlying e=some (.int .u8)):Ex P N f ds o w (.string ⟨#[]⟩) w:=
 ex_of (x:=convert s d (.slice none n c)) (fun a ha=>by unfold execOp; simp only [ho,ha.eval hx]) (by
   unfold convert
   simp only [Sem.run_bind,run_underlying hs,run_underlying hd,Result.andThen_ok]
   simp only [run_underlying he,Sem.run_bind,Result.andThen_ok,Conv.bytesToString]
   rfl)
theorem hc_ob {g k:Nat} {cs:Array Value} {e:TypeId} {fr:Nat × Nat} {l:List UInt8} (H:S w L) (hk:L[k]?=some (Ob g (.cells cs e fr))) (hl:cs.toList=bytesV l):∀ j u,(bytesV l)[j]?=some u→w.cell? ((⟨g,0,none⟩:Addr).add j)=some u:=by
 rw [← hl]; exact news_ob H hk
theorem s_buildSlice {d t e size len:Nat} {ps:Array (Nat × Operand)} {vs:List Value} {z:Value} {cells:Array Value} (H:S w L) (hw:Wt ops f o) (hd:o.dst=some d) (hN:Nat.blt d N=true) (ho:o.op=.buildSlice t len ps) (hx:evs f (ps.toList.map (·.2))=some vs)
   (hu:P.underlying t=some (.slice e)) (hz:szO P e=some size) (hze:zeO P e=some z) (hlen:Nat.ble (len * size) 16777216=true) (hpos:Nat.beq (len * size) 0=false)
   (hb:Instr.fill (fun i=>some (i * size,size)) ((Array.range (len * size)).map (z.cells[· % z.cells.size]!)) ((ps.toList.map (·.1)).zip vs)=some cells)
   (h:∀ g w',S w' (Ob g (.cells cells e (0,0)) :: L)→G N K ((d,.slice (some ⟨g,0,none⟩) len len) :: f) ds w'):G N (StepK P ops Q o K) f ds w:=
 s_new (v:=fun g=>.slice (some ⟨g,0,none⟩) len len) H hw hd hN (fun a ha=>by
   unfold execOp
   have h1:(ps.map fun (i,x)=>(i,a.eval x)).toList=(ps.toList.map (·.1)).zip vs:=by rw [Array.toList_map]; exact evparts ha hx
   have h2:¬ (len * size > 2 ^ 24):=by have:=Nat.le_of_ble_eq_true hlen; omega
   have h3:¬ (len * size=0):=fun e=>by rw [e] at hpos; cases hpos
   simp only [ho,Instr.buildSlice,Sem.run_bind,run_underlying hu,Result.andThen_ok,run_sz hz,if_neg h2,if_neg h3,run_ze hze,Sem.run_pure,h1,hb]
   rfl) h
theorem made_replicate (z:Value) (n:Nat):madeCells #[z] n=Array.replicate n z:=by
 unfold madeCells
 apply Array.ext
 · simp
 · intro i h1 h2
   simp [Nat.mod_one]
theorem s_make1 {d t e bytes:Nat} {x y:Operand} {kx ky:IntKind} {i j:Int} {z:Value} (n:Nat) (H:S w L) (hw:Wt ops f o) (hd:o.dst=some d) (hN:Nat.blt d N=true) (ho:o.op=.makeSlice t x y) (hx:evo f x=some (.int kx i)) (hy:evo f y=some (.int ky j))
   (hu:P.underlying t=some (.slice e)) (hi:infO P e=some (some z,1,bytes)) (hz:z.cells=#[z]) (hn:i=(n:Int)∧j=(n:Int)∧bytes * n≤281474976710656∧n≤9223372036854775807)
   (h:∀ g w',S w' (Ob g (.cells (Array.replicate n z) e (0,0)) :: L)→G N K ((d,.slice (some ⟨g,0,none⟩) n n) :: f) ds w'):G N (StepK P ops Q o K) f ds w:=
 s_new (v:=fun g=>.slice (some ⟨g,0,none⟩) n n) H hw hd hN (fun a ha=>by
   obtain ⟨rfl,rfl,h1,h2⟩:=hn
   have:=Go.run_make_row' (P:=P) t e z bytes hu hi hz kx ky n h1 h2 w
   unfold execOp
   simp only [ho,ha.eval hx,ha.eval hy,Sem.run_bind,this,Result.andThen_ok,made_replicate]
   rfl) h
def eqNow:TypeDesc→Value→Value→Option Bool
 | .bool,.bool a,.bool b=>some (a == b)
 | .pointer _,.pointer none,.pointer b=>some b.isNone
 | .pointer _,.pointer (some _),.pointer none=>some false
 | .slice _,.slice none _ _,.slice b _ _=>some b.isNone
 | .slice _,.slice (some _) _ _,.slice none _ _=>some false
 | .map _ _,.map none,.map b=>some b.isNone
 | .map _ _,.map (some _),.map none=>some false
 | .func _ _ _,.nilFunc,.nilFunc=>some true
 | .func _ _ _,.nilFunc,.func _ _ _=>some false
 | .func _ _ _,.func _ _ _,.nilFunc=>some false
 | _,_,_=>none
theorem run_eqNow {t:TypeId} {d:TypeDesc} {x y:Value} {r:Bool} (hu:P.underlying t=some d) (h:eqNow d x y=some r):(Op.equal t x y).run P w=.ok r w:=by
 show (Op.equalIn (9999+1) t x y).run P w=_
 unfold Op.equalIn
 simp only [Sem.run_bind,run_underlying hu,Result.andThen_ok]
 unfold eqNow at h
 split at h <;> simp at h <;> subst h <;> simp
theorem b_eqN {t:TypeId} {d:TypeDesc} {xo yo:Operand} {x y:Value} {r:Bool} (hu:P.underlying t=some d) (h:eqNow d x y=some r):Bin P .eql t xo yo x y w (.bool r):=by
 have e:=run_eqNow (w:=w) hu h
 unfold Bin
 unfold eqNow at h
 split at h <;> simp at h <;> (rw [Sem.run_bind]; (show ((Result.ok () w).andThen _:Result Value)=_); simp only [Result.andThen_ok]; (show ((Op.equal t _ _ >>= fun b=>pure (Value.bool b):Sem Value)).run P w=_); rw [Sem.run_bind,e]; rfl)
theorem b_neN {t:TypeId} {d:TypeDesc} {xo yo:Operand} {x y:Value} {r:Bool} (hu:P.underlying t=some d) (h:eqNow d x y=some r):Bin P .neq t xo yo x y w (.bool (!r)):=by
 have e:=run_eqNow (w:=w) hu h
 unfold Bin
 unfold eqNow at h
 split at h <;> simp at h <;> (rw [Sem.run_bind]; (show ((Result.ok () w).andThen _:Result Value)=_); simp only [Result.andThen_ok]; (show ((Op.equal t _ _ >>= fun b=>pure (Value.bool (!b)):Sem Value)).run P w=_); rw [Sem.run_bind,e]; rfl)
end
def drops (ks:List Nat):Nat→List Item→List Item
 | _,[]=>[]
 | i,it :: L=>if ks.contains i then drops ks (i+1) L else it :: drops ks (i+1) L
theorem drops_sub (ks:List Nat):∀ (L:List Item) (i:Nat),(drops ks i L).Sublist L
 | [],_=>List.Sublist.refl _
 | it :: L,i=>by
   unfold drops
   split
   · exact (drops_sub ks L (i+1)).cons it
   · exact (drops_sub ks L (i+1)).cons_cons it
theorem mem_drops (ks:List Nat):∀ (L:List Item) (i:Nat) (x:Item),x∈drops ks i L→∃ j,ks.contains (i+j)=false∧L[j]?=some x
 | [],_,x,h=>by unfold drops at h; cases h
 | it :: L,i,x,h=>by
   unfold drops at h
   split at h
   · obtain ⟨j,h1,h2⟩:=mem_drops ks L (i+1) x h
     exact ⟨j+1,by rw [show i+(j+1)=i+1+j from by omega]; exact h1,h2⟩
   · rename_i hc
     rcases List.mem_cons.1 h with rfl | h
     · exact ⟨0,by simpa using hc,rfl⟩
     · obtain ⟨j,h1,h2⟩:=mem_drops ks L (i+1) x h
       exact ⟨j+1,by rw [show i+(j+1)=i+1+j from by omega]; exact h1,h2⟩
theorem S.absorbK {w w1:World} {L new:List Item} {X:Nat→Prop} (h:S w L) (ks:List Nat) (hX:∀ g,X g→∃ k,ks.contains k=true∧∃ it,L[k]?=some it∧it.fp g) (h1:S w1 (new++[Old w X])):S w1 (new++drops ks 0 L):=by
 refine h.absorbX (drops_sub ks L 0) (fun it hit g hg hx=>?_) h1
 obtain ⟨j,hj,hL⟩:=mem_drops ks L 0 it hit
 obtain ⟨k,hk,it',hk',hf⟩:=hX g hx
 exact pair_of h.2 hL hk' (fun e=>by subst e; rw [Nat.zero_add] at hj; rw [hj] at hk; cases hk) g hg hf
def RO (p:Option Addr) (n c size:Nat) (xs:List Value):Item:=
 ⟨fun g=>0<n∧∃ o,p=some ⟨g,o,none⟩,fun w=>xs.length=n * size∧n≤c∧(0<n→∃ g o,p=some ⟨g,o,none⟩∧∀ j u,xs[j]?=some u→w.cell? ⟨g,o+j,none⟩=some u),fun h ⟨k1,k2,k3⟩=>⟨k1,k2,fun hn=>by
   obtain ⟨g,o,e,hc⟩:=k3 hn
   exact ⟨g,o,e,fun j u hu=>(World.cell?_of_block (h.block g ⟨hn,o,e⟩)).trans (hc j u hu)⟩⟩⟩
section
variable {P:Program} {N:Nat} {Q:Exit→Act→World→Prop} {f:Fr} {ds:List Deferred} {w w':World} {o:Oper} {ops:Array Oper} {L:List Item} {K:Act→World→Prop}
theorem s_store1 {t:TypeId} {x y:Operand} {g i:Nat} {cs:Array Value} {e:TypeId} {v:Value} (H:S w L) (k:Nat) (hw:Wt ops f o) (hd:o.dst=none) (ho:o.op=.store t x y) (hx:evo f x=some (.pointer (some ⟨g,i,none⟩)))
   (hy:evo f y=some v) (hk:L[k]?=some (Ob g (.cells cs e (0,0)))) (hn:szO P t=some 1) (hv:v.cells=#[v]) (h1:v.oneCell'=true) (hi:i<cs.size)
   (h:∀ w',S w' (L.set k (Ob g (.cells (cs.setIfInBounds i v) e (0,0))))→G N K f ds w'):G N (StepK P ops Q o K) f ds w:=by
 have hr:=run_storeR (P:=P) (t:=t) (g:=g) (i:=i) (v:=v) (H.ob hk) (by rw [hv]; exact hn) (by rw [hv]; exact hi) (by rw [hv]; simpa using h1)
 rw [hv] at hr
 have hc:(cs.toList.take i++(#[v]:Array Value).toList++cs.toList.drop (i+(#[v]:Array Value).size)).toArray=cs.setIfInBounds i v:=by
   apply Array.ext'
   simp only [Array.toList_setIfInBounds,List.size_toArray,List.length_cons,List.length_nil]
   rw [List.set_eq_take_append_cons_drop,if_pos (by simpa using hi)]
   simp
 rw [hc] at hr
 exact s_unit hw hd (exu_store ho hx hy hr) (h _ (H.setRow hk _))
end
section
variable {P:Program} {N:Nat} {f:Fr} {ds:List Deferred} {w:World}
def recV:FrameMode→Value × FrameMode
 | .panicking ({ v,recovered:=false,goexit:=false } :: older)=>(v,.panicking ({ v,recovered:=true } :: older))
 | u=>(.nilIface,u)
theorem CallsD.mono {g:FuncId} {args:Array Value} {u:FrameMode} {R R':Ending→FrameMode→World→Prop} (h:CallsD P g args u w R) (hr:∀ e u' w',R e u' w'→R' e u' w'):CallsD P g args u w R':=
 fun c cs hu=>let ⟨e,u',w',fr,r,rest⟩:=h c cs hu; ⟨e,u',w',fr,hr _ _ _ r,rest⟩
def GL (N:Nat) (P:Program) (fn:Func) (R:Ending→World→Prop) (f:Fr) (ds:List Deferred) (u:FrameMode) (w:World):Prop:=∀ a,Rds N a f a.defers→Leaves P fn a.tmps R ds u w
end
section
variable {P:Program} {N:Nat} {f:Fr} {ds:List Deferred} {w:World} {o:Oper}
theorem x_makeInterface {t:TypeId} {x:Operand} {v:Value} {d:TypeDesc} (ho:o.op=.makeInterface t x) (hx:evo f x=some v) (hu:P.underlying t=some d) (hd:(match d with | .interface _=>true | _=>false)=false):Ex P N f ds o w (.iface t v) w:=
 ex_of (x:=Instr.makeInterface t v) (fun a ha=>by unfold execOp; simp only [ho,ha.eval hx]) (by
   unfold Instr.makeInterface
   simp only [Sem.run_bind,run_underlying hu,Result.andThen_ok]
   cases d <;> simp at hd <;> rfl)
section
variable {t tt:TypeId} {v:Value} {xo yo:Operand} {c:Value}
end
end
def Reads (w:World) (p:Option Addr) (n c size:Nat) (xs:List Value):Prop:=xs.length=n * size∧n≤c∧(0<n→∃ a,p=some a∧∀ j u,xs[j]?=some u→w.cell? (a.add j)=some u)
theorem addr_add (a:Addr) (m i:Nat):(a.add m).add i=a.add (m+i):=by
 unfold Addr.add
 by_cases hm:m=0
 · subst hm; simp
 · by_cases hi:i=0
   · subst hi; simp
   · rw [if_neg hi,if_neg hm,if_neg (by omega)]
     simp [Nat.add_assoc]
theorem flat_length {α:Type} {f:α→List Value} {size:Nat}:∀ {l:List α},(∀ a∈l,(f a).length=size)→(l.flatMap f).length=l.length * size
 | [],_=>by simp
 | a :: l,h=>by
   rw [List.flatMap_cons,List.length_append,h a (List.mem_cons_self ..),flat_length (fun b hb=>h b (List.mem_cons_of_mem _ hb)),List.length_cons,Nat.add_mul]; omega
theorem flat_at {α:Type} {f:α→List Value} {size:Nat}:∀ {l:List α} {j:Nat} {x:α},(∀ a∈l,(f a).length=size)→l[j]?=some x→∀ i u,(f x)[i]?=some u→(l.flatMap f)[j * size+i]?=some u
 | [],j,x,_,h,_,_,_=>by simp at h
 | a :: l,0,x,hs,h,i,u,hu=>by
   simp only [List.getElem?_cons_zero,Option.some.injEq] at h; subst h
   rw [List.flatMap_cons,Nat.zero_mul,Nat.zero_add,List.getElem?_append_left (List.getElem?_eq_some_iff.1 hu).1]; exact hu
 | a :: l,j+1,x,hs,h,i,u,hu=>by
   rw [List.getElem?_cons_succ] at h
   rw [List.flatMap_cons,List.getElem?_append_right (by rw [hs a (List.mem_cons_self ..),Nat.add_mul]; omega),hs a (List.mem_cons_self ..)]
   have:(j+1) * size+i - size=j * size+i:=by rw [Nat.add_mul]; omega
   rw [this]
   exact flat_at (fun b hb=>hs b (List.mem_cons_of_mem _ hb)) h i u hu
theorem heap_setCells (b:Nat) {e:TypeId} {fr:Nat × Nat}:∀ (vs:List Value) (o:Nat) (w:World) (cur:Array Value),w.heap[b]?=some (.cells cur e fr)→o+vs.length≤cur.size →
   ∃ cur':Array Value,(w.setCells b o vs).heap[b]?=some (.cells cur' e fr)∧cur'.size=cur.size∧(∀ j,j<o→cur'[j]?=cur[j]?)∧(∀ j,j<vs.length→cur'[o+j]?=vs[j]?)
 | [],o,w,cur,h,_=>⟨cur,h,rfl,fun _ _=>rfl,fun j hj=>absurd hj (Nat.not_lt_zero _)⟩
 | v :: vs,o,w,cur,h,hl=>by
   simp only [List.length_cons] at hl
   have h1:(w.setCell ⟨b,o,none⟩ v).heap[b]?=some (.cells (cur.setIfInBounds o v) e fr):=by
     simp [World.setCell,Array.getElem?_modify,h]
   obtain ⟨cur',k1,k2,k3,k4⟩:=heap_setCells b vs (o+1) _ _ h1 (by rw [Array.size_setIfInBounds]; omega)
   refine ⟨cur',k1,by rw [k2,Array.size_setIfInBounds],fun j hj=>?_,fun j hj=>?_⟩
   · rw [k3 j (by omega),Array.getElem?_setIfInBounds_ne (by omega)]
   · cases j with
     | zero=>rw [Nat.add_zero,k3 o (by omega),Array.getElem?_setIfInBounds_self_of_lt (by omega)]; rfl
     | succ j=>rw [show o+(j+1)=o+1+j from by omega,k4 j (by simp at hj; omega)]; rfl
theorem same_setCells (b:Nat):∀ (vs:List Value) (o:Nat) (w:World),Same (fun k=>k ≠ b) w (w.setCells b o vs)
 | [],_,_=>Same.rfl'
 | v :: vs,o,w=>(same_setCell w b o v).trans (same_setCells b vs (o+1) _)
def Rw (e size:Nat) (p:Option Addr) (n c:Nat) (xs:List Value):Item:=
 ⟨fun g=>∃ o,p=some ⟨g,o,none⟩,
  fun w=>xs.length=n * size∧n≤c∧c≤maxLen∧((p=none∧n=0∧c=0)∨∃ g o cur,p=some ⟨g,o,none⟩∧w.heap[g]?=some (.cells cur e (0,0))∧o+c * size≤cur.size∧∀ j u,xs[j]?=some u→cur[o+j]?=some u),
  fun h ⟨k1,k2,k3,k4⟩=>⟨k1,k2,k3,by
    rcases k4 with k | ⟨g,o,cur,e1,e2,e3⟩
    · exact .inl k
    · exact .inr ⟨g,o,cur,e1,(h.block g ⟨o,e1⟩).trans e2,e3⟩⟩⟩
section
variable {P:Program} {N:Nat} {Q:Exit→Act→World→Prop} {f:Fr} {ds:List Deferred} {w w':World} {o:Oper} {ops:Array Oper} {L:List Item} {K:Act→World→Prop}
theorem S.rw {k e size n c:Nat} {p:Option Addr} {xs:List Value} (h:S w L) (hk:L[k]?=some (Rw e size p n c xs)):xs.length=n * size∧n≤c∧c≤maxLen∧((p=none∧n=0∧c=0)∨∃ g o cur,p=some ⟨g,o,none⟩∧w.heap[g]?=some (.cells cur e (0,0))∧o+c * size≤cur.size∧∀ j u,xs[j]?=some u→cur[o+j]?=some u):=h.at hk
theorem S.nilRw (h:S w L) (e size:Nat):S w (Rw e size none 0 0 [] :: L):=
 h.cons ⟨by simp,Nat.le_refl _,Nat.zero_le _,.inl ⟨rfl,rfl,rfl⟩⟩ (fun g hg=>by obtain ⟨o,ho⟩:=hg; cases ho) (fun x hx g hg=>by obtain ⟨o,ho⟩:=hg; cases ho)
theorem S.rwReads {k e size n c:Nat} {p:Option Addr} {xs:List Value} (h:S w L) (hk:L[k]?=some (Rw e size p n c xs)):Reads w p n c size xs:=by
 obtain ⟨k1,k2,k3,k4⟩:=h.rw hk
 refine ⟨k1,k2,fun hn=>?_⟩
 rcases k4 with ⟨_,h0,_⟩ | ⟨g,o,cur,rfl,hg,hs,hc⟩
 · omega
 · exact ⟨_,rfl,fun j u hu=>by rw [add_lit',cell_of_row w g _ cur e (0,0) hg]; exact hc j u hu⟩
theorem S.oldReads {w0:World} {k size n c:Nat} {p:Option Addr} {xs:List Value} (h:S w L) (hk:L[k]?=some (Old w0 no)) (hr:Reads w0 p n c size xs):Reads w p n c size xs:=by
 obtain ⟨k1,k2,k3⟩:=hr
 refine ⟨k1,k2,fun hn=>?_⟩
 obtain ⟨a,rfl,hc⟩:=k3 hn
 exact ⟨a,rfl,fun j u hu=>h.oldCell hk (hc j u hu) id⟩
theorem x_idxP {t e size n c:Nat} {x y:Operand} {k:IntKind} {i:Int} {p:Option Addr} (j:Nat) (hp:∃ a,p=some a) (ho:o.op=.indexAddr t x y) (hx:evo f x=some (.slice p n c)) (hy:evo f y=some (.int k i)) (hu:P.underlying t=some (.slice e)) (hz:szO P e=some size) (hb:i=(j:Int)∧j<n) :
   Ex P N f ds o w (.pointer (p.map fun a=>a.add (j * size))) w:=
 ex_of (x:=Instr.indexAt t (.slice p n c) (.int k i)) (fun a ha=>by unfold execOp; simp only [ho,ha.eval hx,ha.eval hy]) (by
   obtain ⟨rfl,hj⟩:=hb
   obtain ⟨a,rfl⟩:=hp
   unfold Instr.indexAt
   have h1:(0:Int)≤(j:Int)∧(j:Int)<(n:Int):=by omega
   simp only [asIntOf,Sem.run_bind,Sem.run_pure,Result.andThen_ok,run_underlying hu,if_pos h1,Int.toNat_natCast,run_sz hz,Option.map_some])
theorem x_idxR {t e size n c:Nat} {x y:Operand} {k:IntKind} {i:Int} {p:Option Addr} {xs:List Value} (j:Nat) (hr:Reads w p n c size xs) (ho:o.op=.indexAddr t x y) (hx:evo f x=some (.slice p n c)) (hy:evo f y=some (.int k i)) (hu:P.underlying t=some (.slice e)) (hz:szO P e=some size) (hb:i=(j:Int)∧j<n) :
   Ex P N f ds o w (.pointer (p.map fun a=>a.add (j * size))) w:=
 x_idxP j (by obtain ⟨a,h,_⟩:=hr.2.2 (by omega); exact ⟨a,h⟩) ho hx hy hu hz hb
theorem x_loadRA {t size n c:Nat} {d:TypeDesc} {x:Operand} {p:Option Addr} {xs vs:List Value} (j:Nat) (hr:Reads w p n c size xs) (hj:j<n) (ho:o.op=.load t x) (hx:evo f x=some (.pointer (p.map fun a=>a.add (j * size)))) (hu:P.underlying t=some d) (hd:aggB d=true) (hn:szO P t=some size) (hl:vs.length=size) (hv:∀ i u,vs[i]?=some u→xs[j * size+i]?=some u) :
   Ex P N f ds o w (.agg vs.toArray) w:=by
 obtain ⟨a,rfl,hc⟩:=hr.2.2 (by omega)
 exact x_load (p:=a.add (j * size)) ho hx (run_loadF hu hd hn hl (fun i u hu=>by rw [addr_add]; exact hc _ u (hv i u hu)))
theorem x_loadR1 {t size n c:Nat} {d:TypeDesc} {x:Operand} {p:Option Addr} {xs:List Value} {v:Value} (j:Nat) (hr:Reads w p n c size xs) (hj:j<n) (ho:o.op=.load t x) (hx:evo f x=some (.pointer (p.map fun a=>a.add (j * size)))) (hu:P.underlying t=some d) (hd:aggB d=false) (hv:xs[j * size]?=some v) :
   Ex P N f ds o w v w:=by
 obtain ⟨a,rfl,hc⟩:=hr.2.2 (by omega)
 exact x_load (p:=a.add (j * size)) ho hx (run_load1 hu hd (hc _ v hv))
def cutP (p:Option Addr) (l c size:Nat):Option Addr:=if c=l then p else p.map (·.add (l * size))
theorem x_cut {t e size n c:Nat} {x y:Operand} {k:IntKind} {i:Int} {p:Option Addr} (l:Nat) (ho:o.op=.slice t x (some y) none none) (hx:evo f x=some (.slice p n c)) (hy:evo f y=some (.int k i)) (hu:P.underlying t=some (.slice e)) (hz:szO P e=some size) (hb:i=(l:Int)∧l≤n) :
   Ex P N f ds o w (.slice (cutP p l c size) (n - l) (c - l)) w:=
 ex_of (x:=Instr.sliceAt t (.slice p n c) (some (.int k i)) none none) (fun a ha=>by unfold execOp; simp only [ho,ha.eval hx,ha.eval hy,Option.map_some,Option.map_none]) (by
   obtain ⟨rfl,hl⟩:=hb
   have he:P.elem t=e:=by unfold Program.elem; rw [hu]
   have hu':P.underlying t=some (.slice (P.elem t)):=by rw [he]; exact hu
   rw [run_sliceAt_slice (P:=P) w t _ _ _ _ hu',run_slice_l (P:=P) w t p n c hu' k (l:Int) (by omega) (by omega),he,run_sz hz]
   simp only [Result.andThen_ok,sliced,cutP,Int.toNat_natCast])
theorem s_appendR {d t e size bytes n m c sc:Nat} {s x:Operand} {z:Value} {xs news:List Value} {p:Option Addr} {ad:Addr} (H:S w L) (k:Nat) (hw:Wt ops f o) (hd:o.dst=some d) (hN:Nat.blt d N=true)
   (ho:o.op=.call { callee:=.builtin .append,args:=#[s,x],argTypes:=#[t,t] }) (hs:evo f s=some (.slice p n sc)) (hx:evo f x=some (.slice (some ad) m c)) (hk:L[k]?=some (Rw e size p n sc xs))
   (ht:P.underlying t=some (.slice e)) (hi:infO P e=some (some z,size,bytes)) (hz:z.cells.size=size) (hsz:0<size) (hb0:0<bytes) (hl:news.length=m * size) (hm:0<m) (hnews:∀ j u,news[j]?=some u→w.cell? (ad.add j)=some u) (h1:news.all (·.oneCell')=true)
   (hb:(n+m) * bytes≤140737488355328)
   (h:∀ p' c' w',S w' (L.set k (Rw e size p' (n+m) c' (xs++news)))→G N K ((d,.slice p' (n+m) c') :: f) ds w'):G N (StepK P ops Q o K) f ds w:=by
 obtain ⟨i,hi1,hi2,hi3,hi4⟩:=inf_of hi
 have h63:n+m≤maxLen:=by
   have:n+m≤(n+m) * bytes:=Nat.le_mul_of_pos_right _ hb0
   unfold maxLen; omega
 obtain ⟨k1,k2,k3,k4⟩:=H.rw hk
 have hlen:(xs++news).length=(n+m) * size:=by rw [List.length_append,k1,hl,Nat.add_mul]
 have fin:∀ v' w',(Builtin.append_ #[t,t] o.type #[.slice p n sc,.slice (some ad) m c]).run P w=.ok v' w'→w'.ownsRow w.heap.size e size v' (n+m) (xs++news)→w.grownBy w' none→G N (StepK P ops Q o K) f ds w:=fun v' w' hr hown hg=>by
   rcases hown.2 with ⟨_,h0⟩ | ⟨g,cap,cur,rfl,hge,hgg,hle,hmx,hcs,htk⟩
   · omega
   · have hS:S w' (L.set k (Rw e size (some ⟨g,0,none⟩) (n+m) cap (xs++news))):=by
       refine H.turn hk ⟨hg.os,hg.tape,hg.output,hg.size,fun b hb=>hg.block b hb.1 (by simp)⟩ ⟨hlen,hle,hmx,.inr ⟨g,0,cur,rfl,hgg,by omega,fun j u hu=>?_⟩⟩ (fun b hb=>?_)
       · rw [Nat.zero_add,← Array.getElem?_toList]
         rw [← htk,List.getElem?_take] at hu
         split at hu
         · exact hu
         · cases hu
       · obtain ⟨q,hq⟩:=hb; cases hq
         exact ⟨.inr hge,(Array.getElem?_eq_some_iff.1 hgg).1⟩
     exact s_val hw hd hN (x_builtin (vs:=[.slice p n sc,.slice (some ad) m c]) ho (by simp only [Array.toList,evs,hs,hx]) (fun cs=>by
       simp only [builtin,Sem.run_bind,hr,Result.andThen_ok,Sem.run_pure])) (h _ _ w' hS)
 rcases k4 with ⟨rfl,rfl,rfl⟩ | ⟨g,off,cur,rfl,hg,hcs,hc⟩
 · have hx0:xs=[]:=List.eq_nil_of_length_eq_zero (by rw [k1,Nat.zero_mul])
   subst hx0
   obtain ⟨v',w',hr,hown,hgw,_,hv⟩:=run_append_own_at (P:=P) w w.heap.size t o.type e i z size bytes ht hi1 hi2 hi3 hi4 hz hsz _ 0 [] (World.ownsRow_nil w w.heap.size e size) ad m c news hl hnews (List.all_eq_true.1 h1) h63 hb (Nat.le_refl _)
   exact fin v' w' hr hown hgw
 · by_cases hroom:n+m≤sc
   · have hfit:off+n * size+news.length≤cur.size:=by
       have:n * size+m * size≤sc * size:=by rw [← Nat.add_mul]; exact Nat.mul_le_mul_right _ hroom
       rw [hl]; omega
     have hcell:∀ j,j<news.length→(w.cell? ⟨g,off+n * i.size+j,none⟩).isSome=true:=fun j hj=>by
       rw [hi3,cell_of_row w g _ cur e (0,0) hg,Array.getElem?_eq_getElem (by omega)]; rfl
     have hfz:∀ j,j<news.length→w.frozen? ⟨g,off+n * i.size+j,none⟩=false:=fun j hj=>by
       simp [World.frozen?,hg]
     have hr:=run_append_room_cells (P:=P) w t o.type e i ht hi1 g off n sc ad m c news (by rw [hi3]; exact hl) hnews (List.all_eq_true.1 h1) hroom hcell hfz
     rw [hi3] at hr
     obtain ⟨cur',q1,q2,q3,q4⟩:=heap_setCells g news (off+n * size) w cur hg hfit
     have hsame:=same_setCells g news (off+n * size) w
     have hS:S (w.setCells g (off+n * size) news) (L.set k (Rw e size (some ⟨g,off,none⟩) (n+m) sc (xs++news))):=by
       refine H.turn hk (hsame.less fun b hb he=>hb.2 ⟨off,by rw [he]⟩) ⟨hlen,hroom,k3,.inr ⟨g,off,cur',rfl,q1,by rw [q2]; exact hcs,fun j u hu=>?_⟩⟩ (fun b hb=>⟨.inl hb,?_⟩)
       · rw [List.getElem?_append] at hu
         split at hu
         · rename_i hj
           rw [q3 _ (by rw [k1] at hj; omega)]; exact hc j u hu
         · rename_i hj
           have hj2:=(List.getElem?_eq_some_iff.1 hu).1
           have:=q4 (j - xs.length) hj2
           rw [show off+n * size+(j - xs.length)=off+j from by rw [k1] at hj ⊢; omega] at this
           rw [this]; exact hu
       · exact Nat.lt_of_lt_of_le (H.lt hk hb) hsame.size
     exact s_val hw hd hN (x_builtin (vs:=[.slice (some ⟨g,off,none⟩) n sc,.slice (some ad) m c]) ho (by simp only [Array.toList,evs,hs,hx]) (fun cs=>by
       simp only [builtin,Sem.run_bind,hr,Result.andThen_ok,Sem.run_pure])) (h _ _ _ hS)
   · have hold:∀ j u,xs[j]?=some u→w.cell? ((⟨g,off,none⟩:Addr).add j)=some u:=fun j u hu=>by rw [add_lit',cell_of_row w g _ cur e (0,0) hg]; exact hc j u hu
     obtain ⟨v',w',hr,hown,hgw⟩:=run_append_arg_grows (P:=P) w t o.type e i z size bytes ht hi1 hi2 hi3 hi4 hz hsz ⟨g,off,none⟩ n sc xs k1 hold ad m c news hl hnews (by omega) h63 hb
     exact fin v' w' hr hown hgw
end
def fps (L:List Item):Nat→Prop:=fun g=>∃ it∈L,it.fp g
def pks (ks:List Nat) (L:List Item):List Item:=ks.filterMap (fun k=>L[k]?)
theorem S.beginI {w:World} {L:List Item} (h:S w L):S w (L++[Old w (fps L)]):=by
 refine ⟨fun it hit=>?_,List.pairwise_append.2 ⟨h.2,List.pairwise_singleton _ _,fun a ha b hb g hg hg'=>?_⟩⟩
 · rcases List.mem_append.1 hit with hit | hit
   · exact h.1 it hit
   · rw [List.mem_singleton] at hit; subst hit
     exact ⟨Same.rfl',fun g hg=>hg.1⟩
 · rw [List.mem_singleton] at hb; subst hb
   exact hg'.2 ⟨a,ha,hg⟩
theorem S.takes {w:World} {L:List Item} (h:S w L) (ks:List Nat) (hn:ks.Nodup):S w (pks ks L):=by
 refine ⟨fun it hit=>?_,?_⟩
 · obtain ⟨k,_,hk⟩:=List.mem_filterMap.1 hit
   exact h.1 it (List.mem_of_getElem? hk)
 · unfold pks
   rw [List.pairwise_filterMap]
   refine hn.imp fun {i j} hij a ha b hb g hg=>pair_of h.2 ha hb hij g hg
theorem S.absorbI {w w1:World} {L new:List Item} (h:S w L) (ks:List Nat) (h1:S w1 (new++[Old w (fps (pks ks L))])):S w1 (new++drops ks 0 L):=
 h.absorbK ks (fun g hg=>by
   obtain ⟨it,hit,hf⟩:=hg
   obtain ⟨k,hk,hL⟩:=List.mem_filterMap.1 hit
   exact ⟨k,List.contains_iff_mem.2 hk,it,hL,hf⟩) h1
section
variable {P:Program} {N:Nat} {ops:Array Oper} {Q:Exit→Act→World→Prop} {md:Region.Mode} {C S':World→Prop} {T:List Nat} {f:Fr} {ds:List Deferred} {w:World} {listed:Array Bool} {fuel:Nat} {K:Act→World→Prop}
def depsF (md:Region.Mode) (i:Nat):List Oper→List Bool→List Bool
 | [],acc=>acc
 | o :: r,acc=>depsF md i r (acc++[o.after.any fun e=>Region.binds md e && (Nat.beq e.on i || acc.getD e.on false)])
def Closed (md:Region.Mode) (ops:Array Oper) (listed:Array Bool):Prop:=∀ j oj,ops[j]?=some oj→listed.getD j true=true→∀ e∈oj.after,Region.binds md e=true→listed.getD e.on false=true
def closedB (md:Region.Mode) (ops:Array Oper) (listed:Array Bool):Bool:=
 (List.range ops.size).all fun j=>match ops[j]? with | some oj=>!listed.getD j true || oj.after.all (fun e=>!Region.binds md e || listed.getD e.on false) | none=>true
theorem closedB_spec (h:closedB md ops listed=true):Closed md ops listed:=fun j oj hj hl e he hb=>by
 have h1:=List.all_eq_true.1 h j (List.mem_range.2 (Array.getElem?_eq_some_iff.1 hj).1)
 simp only [hj,hl,Bool.not_true,Bool.false_or] at h1
 have h2:=Array.all_eq_true'.1 h1 e he
 simpa [hb] using h2
theorem getD_set_self_true (listed:Array Bool) (j:Nat):(listed.setIfInBounds j true).getD j true=true:=by
 by_cases h:j<listed.size
 · simp [h]
 · simp [h]
theorem Closed.set {j:Nat} (h:Closed md ops listed) (hj:j∈Region.ready md ops listed):Closed md ops (listed.setIfInBounds j true):=fun k ok hk hl e he hb=>by
 refine getD_set_true ?_
 by_cases hkj:j=k
 · subst hkj
   obtain ⟨_,oj,hoj,hall⟩:=mem_ready.1 hj
   rw [hoj] at hk; cases hk
   exact hall e he hb
 · rw [getD_set_ne true hkj] at hl
   exact h k ok hk hl e he hb
theorem depsF_spec {i:Nat} (hcl:Closed md ops listed) (hi:listed.getD i false=false):∀ (l:List Oper) (acc:List Bool),(∀ j,l[j]?=ops[acc.length+j]?)→(∀ j,acc.getD j false=true→listed.getD j true=false) →
   ∀ j,(depsF md i l acc).getD j false=true→listed.getD j true=false
 | [],acc,_,ha=>ha
 | o :: r,acc,hl,ha=>by
   unfold depsF
   refine depsF_spec hcl hi r _ (fun j=>?_) (fun j hj=>?_)
   · have:=hl (j+1)
     rw [List.getElem?_cons_succ] at this
     rw [this,List.length_append,List.length_singleton]
     congr 1; omega
   · by_cases h1:j<acc.length
     · refine ha j ?_
       rw [List.getD_eq_getElem?_getD,List.getElem?_append_left h1] at hj
       rw [List.getD_eq_getElem?_getD]; exact hj
     · by_cases h2:j=acc.length
       · subst h2
         have h0:ops[acc.length]?=some o:=by have:=hl 0; simpa using this.symm
         rw [List.getD_eq_getElem?_getD,List.getElem?_append_right (Nat.le_refl _),Nat.sub_self] at hj
         simp only [List.getElem?_cons_zero,Option.getD_some] at hj
         cases hq:listed.getD acc.length true with
         | false=>rfl
         | true =>
           obtain ⟨e,he,hb⟩:=Array.any_eq_true'.1 hj
           simp only [Bool.and_eq_true,Bool.or_eq_true] at hb
           have h3:=hcl _ o h0 hq e he hb.1
           rcases hb.2 with h4 | h4
           · rw [Nat.eq_of_beq_eq_true h4] at h3
             rw [h3] at hi; cases hi
           · have h5:=ha _ h4
             have h6:listed.getD e.on true=true:=by
               rw [Array.getD_eq_getD_getElem?] at h3 ⊢
               cases hx:listed[e.on]? with
               | none=>rw [hx] at h3; cases h3
               | some b=>rw [hx] at h3; exact h3
             rw [h6] at h5; cases h5
       · rw [List.getD_eq_getElem?_getD,List.getElem?_eq_none (by simp; omega)] at hj
         cases hj
def waitsC (md:Region.Mode) (ops:Array Oper) (T:List Nat) (i:Nat):Bool:=let d:=depsF md i ops.toList []; T.all fun j=>d.getD j false
def wpAnyY (P:Program) (md:Region.Mode) (ops:Array Oper) (Q:Exit→Act→World→Prop) (C C0:World→Prop) (T:List Nat):Nat→Array Bool→Act→World→Prop
 | 0,listed,a,w=>Region.ready md ops listed=[]∧Q .normal a w
 | fuel+1,listed,a,w =>
   (Region.ready md ops listed=[]→Q .normal a w) ∧
   ∀ i∈Region.ready md ops listed,wpOp P ops Q i (fun a' w'=>((T.contains i=false→C w→C w')∧(C0 w→C0 w'))∧wpAnyY P md ops Q C C0 T fuel (listed.setIfInBounds i true) a' w') a w
theorem wpAny_of_Y {C0:World→Prop}:∀ (fuel:Nat) (listed:Array Bool) (a:Act) (w:World),wpAnyY P md ops Q C C0 T fuel listed a w→wpAny P md ops Q fuel listed a w
 | 0,_,_,_,h=>h
 | fuel+1,_,_,_,h=>⟨h.1,fun i hi=>wpOp_mono (fun a' w' h'=>wpAny_of_Y fuel _ a' w' h'.2) (h.2 i hi)⟩
theorem wpAnyY_first {C0:World→Prop} {i:Nat} {oi:Oper} {v:Value} (hi:ops[i]?=some oi) (hsel:∀ (j:Nat) (o:Oper) cs b,ops[j]?=some o→o.op ≠ .select cs b)
   (hQ:∀ c a w,Q (.panic c) (a.put oi.dst v) w→Q (.panic c) a w) (hT:(S'=C∧waitsC md ops T i=true)∨S'=C0∨∀ w,S' w) :
   ∀ (fuel:Nat) (listed:Array Bool) (a:Act) (w:World),Closed md ops listed →
     (∀ j oj,ops[j]?=some oj→j ≠ i→listed.getD j true=false→(∀ e∈oj.after,Region.binds md e=true→e.on ≠ i)→oi.apart ops oj=true) →
     i∈Region.ready md ops listed→YieldsIf P ops S' oi v a→S' w →
     wpAnyY P md ops Q C C0 T fuel (listed.setIfInBounds i true) (a.put oi.dst v) w→wpAnyY P md ops Q C C0 T (fuel+1) listed a w:=by
 intro fuel
 induction fuel with
 | zero =>
   intro listed a w hcl _ hr hy hS H
   refine ⟨fun h=>(by rw [h] at hr; cases hr),fun j hj=>?_⟩
   by_cases hji:j=i
   · subst hji; exact hy.wpOp hi hS ⟨⟨fun _ h=>h,fun h=>h⟩,H⟩
   · have:=ready_mono hj hji
     rw [H.1] at this
     cases this
 | succ fuel ih =>
   intro listed a w hcl hfree hr hy hS H
   refine ⟨fun h=>(by rw [h] at hr; cases hr),fun j hj=>?_⟩
   by_cases hji:j=i
   · subst hji; exact hy.wpOp hi hS ⟨⟨fun _ h=>h,fun h=>h⟩,H⟩
   · have h1:=H.2 j (ready_mono hj hji)
     obtain ⟨hjun,oj,hoj,hall⟩:=mem_ready.1 hj
     have hi0:listed.getD i false=false:=by
       have h0:=(mem_ready.1 hr).1
       rw [Array.getD_eq_getD_getElem?] at h0 ⊢
       cases hx:listed[i]? with
       | none=>rfl
       | some b=>rw [hx] at h0; exact h0
     have hnot:∀ e∈oj.after,Region.binds md e=true→e.on ≠ i:=fun e he hb heq=>by
       have h1:=hall e he hb
       rw [heq,hi0] at h1; cases h1
     have hTj:waitsC md ops T i=true→T.contains j=false:=fun hT=>by
       cases hc:T.contains j with
       | false=>rfl
       | true =>
         have hd:=List.all_eq_true.1 hT j (by simpa using hc)
         have hcl2:Closed md ops (listed.setIfInBounds j true):=hcl.set hj
         have hi2:(listed.setIfInBounds j true).getD i false=false:=by rw [getD_set_ne false hji]; exact hi0
         have:=depsF_spec hcl2 hi2 ops.toList [] (fun k=>by simp) (fun k hk=>by simp at hk) j hd
         rw [getD_set_self_true] at this; cases this
     have h2:=wpOp_putIf hoj (hfree j oj hoj hji hjun hnot) (fun cs b=>hsel i oi cs b hi) (fun cs b=>hsel j oj cs b hoj) hQ hy h1
     have hfree':∀ k ok,ops[k]?=some ok→k ≠ i→(listed.setIfInBounds j true).getD k true=false →
         (∀ e∈ok.after,Region.binds md e=true→e.on ≠ i)→oi.apart ops ok=true:=fun k ok hk hki hun hno=>by
       refine hfree k ok hk hki ?_ hno
       by_cases hjk:j=k
       · subst hjk; exact hjun
       · rw [getD_set_ne true hjk] at hun; exact hun
     refine wpOp_mono (fun a' w' h3=>⟨h3.2.1,ih (listed.setIfInBounds j true) a' w' (hcl.set hj) hfree' (ready_mono hr (Ne.symm hji)) h3.1 ?_ ?_⟩) h2
     · rcases hT with ⟨rfl,hT⟩ | rfl | hT
       · exact h3.2.1.1 (hTj hT) hS
       · exact h3.2.1.2 hS
       · exact hT w'
     · rw [Array.setIfInBounds_comm _ _ hji]
       exact h3.2.2
theorem y_take {C0:World→Prop} {f0:Fr} {d:Nat} {o:Oper} {v:Value} (i:Nat) (hi:ops[i]?=some o) (hw:Wt ops f o) (hd:o.dst=some d) (hN:Nat.blt d N=true) (h0:gt f0 d=none) (hs:Region.noSelect ops=true) (hf:Region.free md ops listed i=true) (hr:(Region.ready md ops listed).contains i=true)
   (hT:waitsC md ops T i=true) (hcl:closedB md ops listed=true) (hC:C w) (hx:∀ w,C w→Ex P N f ds o w v w)
   (h:G N (wpAnyY P md ops (PanP N f0 ds Q) C C0 T fuel (listed.setIfInBounds i true)) ((d,v) :: f) ds w):G N (wpAnyY P md ops (PanP N f0 ds Q) C C0 T (fuel+1) listed) f ds w:=fun a ha =>
 wpAnyY_first hi (Region.noSelect_spec hs) (fun c a w h=>⟨pan_put h0 (by rw [← hd]; exact h.1),h.2⟩) (.inl ⟨rfl,hT⟩) fuel listed a w (closedB_spec hcl) (Region.free_spec hi hf) (by simpa using hr) (ex_yields ha hw hx) hC
   (by rw [hd]; exact h _ (ha.put d hN v))
theorem y_pure {C0:World→Prop} {f0:Fr} {d:Nat} {o:Oper} {v:Value} (i:Nat) (hi:ops[i]?=some o) (hw:Wt ops f o) (hd:o.dst=some d) (hN:Nat.blt d N=true) (h0:gt f0 d=none) (hs:Region.noSelect ops=true) (hf:Region.free md ops listed i=true) (hr:(Region.ready md ops listed).contains i=true)
   (hcl:closedB md ops listed=true) (hx:∀ w,Ex P N f ds o w v w)
   (h:G N (wpAnyY P md ops (PanP N f0 ds Q) C C0 T fuel (listed.setIfInBounds i true)) ((d,v) :: f) ds w):G N (wpAnyY P md ops (PanP N f0 ds Q) C C0 T (fuel+1) listed) f ds w:=fun a ha =>
 wpAnyY_first (S':=fun _=>True) hi (Region.noSelect_spec hs) (fun c a w h=>⟨pan_put h0 (by rw [← hd]; exact h.1),h.2⟩) (.inr (.inr fun _=>trivial)) fuel listed a w (closedB_spec hcl) (Region.free_spec hi hf) (by simpa using hr) (ex_yields ha hw fun w _=>hx w) trivial
   (by rw [hd]; exact h _ (ha.put d hN v))
theorem y_not {C0:World→Prop} {f0:Fr} {d:Nat} {o:Oper} (i:Nat) (hi:ops[i]?=some o) (hw:Wn ops f o) (hd:o.dst=some d) (hN:Nat.blt d N=true) (h0:gt f0 d=none) (hs:Region.noSelect ops=true) (hf:Region.free md ops listed i=true) (hr:(Region.ready md ops listed).contains i=true)
   (hcl:closedB md ops listed=true)
   (h:G N (wpAnyY P md ops (PanP N f0 ds Q) C C0 T fuel (listed.setIfInBounds i true)) ((d,undef) :: f) ds w):G N (wpAnyY P md ops (PanP N f0 ds Q) C C0 T (fuel+1) listed) f ds w:=fun a ha =>
 wpAnyY_first (S':=fun _=>True) hi (Region.noSelect_spec hs) (fun c a w h=>⟨pan_put h0 (by rw [← hd]; exact h.1),h.2⟩) (.inr (.inr fun _=>trivial)) fuel listed a w (closedB_spec hcl) (Region.free_spec hi hf) (by simpa using hr) (wn_yields ha hw) trivial
   (by rw [hd]; exact h _ (ha.put d hN _))
def YK (P:Program) (md:Region.Mode) (ops:Array Oper) (Q:Exit→Act→World→Prop) (C C0:World→Prop) (T:List Nat) (fuel:Nat) (listed:Array Bool) (i:Nat) (w0:World):Act→World→Prop:=
 fun a' w'=>((T.contains i=false→C w0→C w')∧(C0 w0→C0 w'))∧wpAnyY P md ops Q C C0 T fuel (listed.setIfInBounds i true) a' w'
theorem y_k {C0:World→Prop} {i:Nat} {w0:World} (hC:C w) (hC0:C0 w) (h:G N (wpAnyY P md ops Q C C0 T fuel (listed.setIfInBounds i true)) f ds w):G N (YK P md ops Q C C0 T fuel listed i w0) f ds w:=fun a ha=>⟨⟨fun _ _=>hC,fun _=>hC0⟩,h a ha⟩
theorem y_kt {C0:World→Prop} {i:Nat} {w0:World} (hT:T.contains i=true) (hC0:C0 w) (h:G N (wpAnyY P md ops Q C C0 T fuel (listed.setIfInBounds i true)) f ds w):G N (YK P md ops Q C C0 T fuel listed i w0) f ds w:=fun a ha=>⟨⟨fun h0=>absurd (hT.symm.trans h0) (by decide),fun _=>hC0⟩,h a ha⟩
theorem y_one {C0:World→Prop} {i:Nat} {o:Oper} (hr:Region.ready md ops listed=[i]) (hi:ops[i]?=some o) (h:G N (StepK P ops Q o (YK P md ops Q C C0 T fuel listed i w)) f ds w):G N (wpAnyY P md ops Q C C0 T (fuel+1) listed) f ds w:=fun a ha =>
 ⟨fun h0=>absurd (hr.symm.trans h0) (by simp),fun j hj=>by
   rw [hr,List.mem_singleton] at hj
   subst hj
   exact o_of hi h a ha⟩
theorem y_two {C0:World→Prop} {i j:Nat} {o o':Oper} (hr:Region.ready md ops listed=[i,j]) (hi:ops[i]?=some o) (hj:ops[j]?=some o') (h:G N (StepK P ops Q o (YK P md ops Q C C0 T fuel listed i w)) f ds w) (h':G N (StepK P ops Q o' (YK P md ops Q C C0 T fuel listed j w)) f ds w):G N (wpAnyY P md ops Q C C0 T (fuel+1) listed) f ds w:=fun a ha =>
 ⟨fun h0=>absurd (hr.symm.trans h0) (by simp),fun k hk=>by
   rw [hr] at hk
   simp only [List.mem_cons,List.not_mem_nil,or_false] at hk
   rcases hk with rfl | rfl
   · exact o_of hi h a ha
   · exact o_of hj h' a ha⟩
theorem y_three {C0:World→Prop} {i j k:Nat} {o o' o'':Oper} (hr:Region.ready md ops listed=[i,j,k]) (hi:ops[i]?=some o) (hj:ops[j]?=some o') (hk:ops[k]?=some o'') (h:G N (StepK P ops Q o (YK P md ops Q C C0 T fuel listed i w)) f ds w) (h':G N (StepK P ops Q o' (YK P md ops Q C C0 T fuel listed j w)) f ds w) (h'':G N (StepK P ops Q o'' (YK P md ops Q C C0 T fuel listed k w)) f ds w):G N (wpAnyY P md ops Q C C0 T (fuel+1) listed) f ds w:=fun a ha =>
 ⟨fun h0=>absurd (hr.symm.trans h0) (by simp),fun m hm=>by
   rw [hr] at hm
   simp only [List.mem_cons,List.not_mem_nil,or_false] at hm
   rcases hm with rfl | rfl | rfl
   · exact o_of hi h a ha
   · exact o_of hj h' a ha
   · exact o_of hk h'' a ha⟩
theorem y_done {C0:World→Prop} {f0:Fr} (hr:Region.ready md ops listed=[]) (h:G N (Q .normal) f ds w):G N (wpAnyY P md ops (PanP N f0 ds Q) C C0 T fuel listed) f ds w:=fun a ha=>by
 cases fuel with
 | zero=>exact ⟨hr,h a ha⟩
 | succ n=>exact ⟨fun _=>h a ha,by rw [hr]; simp⟩
theorem g_anyY {id:Nat} {l:List Oper} {L:List Item} (f0:Fr) (C C0:World→Prop) (T:List Nat) (hm:P.follows .mixedOrders=true) (H:S w L) (h:∀ w,S w L→G N (wpAnyY P .any l.toArray (PanP N f0 ds Q) C C0 T l.length (Array.replicate l.length false)) f ds w):G N ((Code.region id l.toArray true).wp P Q) f ds w:=fun a ha=>by
 refine wp_mono (Q:=PanP N f0 ds Q) (wp_region_any hm (wpAny_of_Y (C:=C) (C0:=C0) (T:=T) _ _ _ _ ?_)) (fun e a w h=>by cases e <;> first | exact h | exact h.2 _ h.1)
 have:=h _ (H.drawn (w.drawn+1)) a ha
 simpa using this
end
abbrev WF (r:Option Nat):Fence:={ Fence.wide with round:=r }
theorem ci_of {r:Option Nat} {n:Nat} {P:Program} {g:FuncId} {args:Array Value} {w:World} {R:Ending→World→Prop} (h:Calls P g args w R):CallsIn (WF r) n P g args w R:=(callsIn_wide (n:=n)).2 h
theorem of_ci {r:Option Nat} {n:Nat} {P:Program} {g:FuncId} {args:Array Value} {w:World} {R:Ending→World→Prop} (h:CallsIn (WF r) n P g args w R):Calls P g args w R:=(callsIn_wide (n:=n)).1 h
theorem ri_of {r:Option Nat} {n:Nat} {P:Program} {row:String} {args:Array Value} {w:World} {R:Value→World→Prop} (h:Rows P row args w R):RowsIn (WF r) n P row args w R:=fun c cs _=>by
 obtain ⟨v,w',h1,h2⟩:=h c cs
 exact ⟨v,w',h1,stepsIn_wide.2 h2⟩
def isDefer (o:Oper):Bool:=match o.op with | .defer _=>true | _=>false
theorem isDefer_spec {o:Oper} (h:isDefer o=false):∀ c,o.op ≠ .defer c:=fun c e=>by
 unfold isDefer at h; rw [e] at h; cases h
theorem wpIn_of {r:Option Nat} {n:Nat} {P:Program} {o:Oper} {a:Act} {w:World} {K:Act→World→Prop} {Q:Exit→Act→World→Prop} (hd:isDefer o=false) (h:o.wp P a w K Q):o.wpIn (WF r) n P a w K Q:=by
 refine ⟨fun _ _=>trivial,?_⟩
 rw [Oper.semAt_eq _ _ _ (isDefer_spec hd)]
 unfold Oper.wp at h
 generalize (execOp a.eval o).run P w=res at h ⊢
 cases res with
 | ok x w' =>
   cases x with
   | value v=>exact h
   | skip=>exact h
   | defer d=>exact h
   | enter f args=>exact ⟨(fun h0=>by cases h0),ci_of h⟩
   | row s args=>exact ⟨(fun h0=>by cases h0),ri_of h⟩
   | _=>exact h.elim
 | halt x w' =>
   cases x with
   | panic v=>exact h
   | _=>exact h.elim
section
variable {P:Program} {N:Nat} {Q:Exit→Act→World→Prop} {f:Fr} {ds:List Deferred} {w:World} {r:Option Nat} {n:Nat} {ops:Array Oper} {rest:List Oper} {o:Oper} {L:List Item}
namespace R
theorem g_seq {x y:Code} (h:G N (x.wpIn (WF r) n P (Exit.then (y.wpIn (WF r) n P Q) Q)) f ds w):G N ((Code.seq x y).wpIn (WF r) n P Q) f ds w:=fun a ha=>wpIn_seq (h a ha)
theorem g_skip (h:G N (Q .normal) f ds w):G N (Code.skip.wpIn (WF r) n P Q) f ds w:=fun a ha=>wpIn_skip (h a ha)
theorem g_block {i:Nat} {c:Code} (h:G N (c.wpIn (WF r) n P (Exit.inBlock i Q)) f ds w):G N ((Code.block i c).wpIn (WF r) n P Q) f ds w:=fun a ha=>wpIn_block (h a ha)
theorem g_exit {i:Nat} (h:G N (Q (.exit i)) f ds w):G N ((Code.exit i).wpIn (WF r) n P Q) f ds w:=fun a ha=>wpIn_exit (h a ha)
theorem g_ret (h:G N (Q .ret) f ds w):G N (Code.ret.wpIn (WF r) n P Q) f ds w:=fun a ha=>wpIn_ret (h a ha)
theorem g_label {l:Nat} (h:G N (Q .normal) f ds w):G N ((Code.label l).wpIn (WF r) n P Q) f ds w:=fun a ha=>wpIn_label (h a ha)
theorem g_cond_t {c:Operand} {x y:Code} {b:Bool} (hc:evo f c=some (.bool b)) (hb:b=true) (ht:G N (x.wpIn (WF r) n P Q) f ds w):G N ((Code.cond c x y).wpIn (WF r) n P Q) f ds w:=
 fun a ha=>wpIn_cond_true (by rw [ha.eval hc,hb]) (ht a ha)
theorem g_cond_f {c:Operand} {x y:Code} {b:Bool} (hc:evo f c=some (.bool b)) (hb:b=false) (ht:G N (y.wpIn (WF r) n P Q) f ds w):G N ((Code.cond c x y).wpIn (WF r) n P Q) f ds w:=
 fun a ha=>wpIn_cond_false (by rw [ha.eval hc,hb]) (ht a ha)
theorem loop_ix {ι:Type} {c:Code} {a:Act} (I:ι→Act→World→Prop) (μ:ι→Nat) (i0:ι) (h0:I i0 a w)
   (round:∀ i a w,I i a w→c.wpIn (WF r) n P (Exit.then (fun a' w'=>∃ j,I j a' w'∧μ j<μ i) Q) a w):(Code.loop c).wpIn (WF r) n P Q a w:=by
 intro b k cs hro hb hr
 have key:∀ m i a w,μ i=m→I i a w →
     ∃ e a' w',Q e a' w'∧ArrivesIn (Machine.fenced P (WF r)) P (lone (b.atR a (.code c :: .inLoop c :: k)) cs w) b k cs e a' w':=by
   intro m
   induction m using Nat.strongRecOn with
   | _ m ih =>
     intro i a w hn hI
     obtain ⟨e,a₁,w₁,hq,harr⟩:=round i a w hI b (.inLoop c :: k) cs hro hb hr
     cases e with
     | normal =>
       obtain ⟨j,hI₁,hlt⟩:=hq
       obtain ⟨e₂,a₂,w₂,hq₂,harr₂⟩:=ih (μ j) (hn ▸ hlt) j a₁ w₁ rfl hI₁
       exact ⟨e₂,a₂,w₂,hq₂,.of_steps (StepsIn.trans harr (.one (fenced_calm hb hr rfl) stepR_inLoop)) harr₂⟩
     | exit id=>exact ⟨_,a₁,w₁,hq,.pass (x:=.inLoop c) rfl (fun _ _=>.inl (by simp)) harr⟩
     | goto l=>exact ⟨_,a₁,w₁,hq,.pass (x:=.inLoop c) rfl (fun _ _=>.inl (by simp)) harr⟩
     | ret=>exact ⟨_,a₁,w₁,hq,.pass (x:=.inLoop c) rfl (fun _ _=>.inl (by simp)) harr⟩
     | panic ch=>exact ⟨_,a₁,w₁,hq,.pass (x:=.inLoop c) rfl (fun _ _=>.inl (by simp)) harr⟩
     | outgrown=>exact ⟨_,a₁,w₁,hq,.pass (x:=.inLoop c) rfl (fun _ _=>.inl (by simp)) harr⟩
 obtain ⟨e,a',w',hq,harr⟩:=key _ i0 a w rfl h0
 exact ⟨e,a',w',hq,.of_steps (.one (fenced_calm hb hr rfl) stepR_loop) harr⟩
theorem g_loop {ι:Type} {c:Code} (F:ι→Fr) (I:ι→World→Prop) (μ:ι→Nat) (i0:ι) (hs:sub (F i0) f) (h0:I i0 w)
   (round:∀ i w,I i w→G N (c.wpIn (WF r) n P (Exit.then (fun a' w'=>∃ j,(Rds N a' (F j) ds∧I j w')∧μ j<μ i) Q)) (F i) ds w):G N ((Code.loop c).wpIn (WF r) n P Q) f ds w:=fun a ha =>
 loop_ix (fun i a w=>Rds N a (F i) ds∧I i w) μ i0 ⟨ha.weak hs,h0⟩ (fun i a w ⟨h1,h2⟩=>round i w h2 a h1)
theorem g_cut {ι:Type} {c:Code} {K:Act→World→Prop} (F:ι→Fr) (I:ι→World→Prop)
   (hc:G N (c.wpIn (WF r) n P (Exit.then (fun a' w'=>∃ j,Rds N a' (F j) ds∧I j w') Q)) f ds w) (hk:∀ i w,I i w→G N K (F i) ds w):G N (c.wpIn (WF r) n P (Exit.then K Q)) f ds w:=fun a ha =>
 wpIn_mono (hc a ha) fun e a' w' h=>by
   cases e with
   | normal=>obtain ⟨j,h1,h2⟩:=h; exact hk j w' h2 a' h1
   | _=>exact h
theorem g_region {id:Nat} {l:List Oper} (h:G N (wpListIn (WF r) n P l.toArray Q l) f ds w):G N ((Code.region id l.toArray false).wpIn (WF r) n P Q) f ds w:=fun a ha=>wpIn_region_lit (h a ha)
theorem g_nil (h:G N (Q .normal) f ds w):G N (wpListIn (WF r) n P ops Q []) f ds w:=fun a ha=>h a ha
theorem l_of (hd:isDefer o=false) (hL:¬ LetsOut Q) (h:G N (StepK P ops Q o (wpListIn (WF r) n P ops Q rest)) f ds w):G N (wpListIn (WF r) n P ops Q (o :: rest)) f ds w:=fun a ha=>by
 have h1:=h a ha
 unfold StepK at h1
 unfold wpListIn
 split
 · rename_i hw
   rw [if_pos hw] at h1
   rcases h1 with h1 | ⟨_,h1⟩
   · exact wpIn_of hd h1
   · exact absurd h1 hL
 · rename_i hw
   rw [if_neg hw] at h1
   exact ⟨fun _ _=>trivial,h1⟩
theorem any_in {md:Region.Mode} (hd:∀ o∈ops,isDefer o=false) (hL:¬ LetsOut Q):∀ (fuel:Nat) (listed:Array Bool) (a:Act) (w:World),wpAny P md ops Q fuel listed a w→wpAnyIn (WF r) n P md ops Q fuel listed a w
 | 0,_,_,_,h=>h
 | fuel+1,listed,a,w,h=>by
   refine ⟨h.1,fun i hi=>?_⟩
   have h1:=h.2 i hi
   unfold wpOp at h1
   unfold wpOpIn
   cases ho:ops[i]? with
   | none=>rw [ho] at h1; exact any_in hd hL fuel _ _ _ h1
   | some o =>
     rw [ho] at h1
     simp only at h1 ⊢
     have hm:isDefer o=false:=hd o (Array.mem_of_getElem? ho)
     split
     · rename_i hw
       rw [if_pos hw] at h1
       rcases h1 with h1 | ⟨_,h1⟩
       · exact Oper.wpIn_mono (fun a w=>any_in hd hL fuel _ a w) (wpIn_of hm h1)
       · exact absurd h1 hL
     · rename_i hw
       rw [if_neg hw] at h1
       exact ⟨fun _ _=>trivial,any_in hd hL fuel _ _ _ h1⟩
def noDefer (l:List Oper):Bool:=l.all fun o=>!isDefer o
theorem g_anyY {id:Nat} {l:List Oper} {L:List Item} (f0:Fr) (C C0:World→Prop) (T:List Nat) (hm:P.follows .mixedOrders=true) (hd:noDefer l=true) (hL:¬ LetsOut Q) (H:S w L) (h:∀ w,S w L→G N (wpAnyY P .any l.toArray (PanP N f0 ds Q) C C0 T l.length (Array.replicate l.length false)) f ds w):G N ((Code.region id l.toArray true).wpIn (WF r) n P Q) f ds w:=fun a ha=>by
 refine wpIn_mono (Q:=PanP N f0 ds Q) (wpIn_region_any hm (any_in (Q:=PanP N f0 ds Q) (fun o ho=>?_) (fun hc=>hL hc) _ _ _ _ (wpAny_of_Y (C:=C) (C0:=C0) (T:=T) _ _ _ _ ?_))) (fun e a w h=>by cases e <;> first | exact h | exact h.2 _ h.1)
 · have:=List.all_eq_true.1 hd o (by simpa using ho)
   simpa using this
 · have:=h _ (H.drawn (w.drawn+1)) a ha
   simpa using this
end R
theorem enter_m {g:FuncId} {fn:Func} {c:Code} {args:Array Value} {R':Ending→World→Prop} (N:Nat) (hf:P.funcs[g]?=some fn) (hb:fn.body=some c) (hN:fn.ntmps=N) (hA:Nat.ble args.size N=true)
   (h:G N (c.wpIn (WF none) 9 P (bodyPostM (WF none) 9 P fn R')) (argsFr 0 args.toList) [] w):Calls P g args w R':=by
 refine of_ci (r:=none) (n:=9) (callsIn_of_wp_marks hf hb trivial (h _ ⟨?_,fun t v ht=>?_,rfl⟩) rfl)
 · have:args.size≤N:=Nat.le_of_ble_eq_true hA
   simp [hN]; omega
 · obtain ⟨_,h2⟩:=argsFr_get _ 0 t v ht
   have h3:args[t]?=some v:=by simpa using h2
   have h4:t<args.size:=(Array.getElem?_eq_some_iff.1 h3).1
   show (args++_)[t]?=_
   rw [Array.getElem?_append_left h4]; exact h3
end
def Item.okB (it:Item) (B:Nat):Prop:=∀ W g,it.ok W→it.fp g→B≤g→∀ o,W.heap[g]?=some o→o.isCells=true
def NC (B:Nat) (W:World):Item:=
 ⟨fun g=>B≤g∧∃ o:Obj,W.heap[g]?=some o∧o.isCells=false,fun W'=>Same (fun g=>B≤g∧∃ o:Obj,W.heap[g]?=some o∧o.isCells=false) W W',fun h k=>k.trans h⟩
theorem S.keep {w:World} {L:List Item} (h:S w L) (B:Nat) (hL:∀ it∈L,it.okB B):S w (NC B w :: L):=
 h.cons Same.rfl' (fun g hg=>by obtain ⟨_,o,ho,_⟩:=hg; exact (Array.getElem?_eq_some_iff.1 ho).1) (fun it hit g hg hf=>by
   obtain ⟨hB,o,ho,hc⟩:=hg
   have:=hL it hit w g (h.1 it hit).1 hf hB o ho
   rw [hc] at this; cases this)
def mark (D:Nat):Deferred:={ target:=.collected D,args:=#[] }
def lay:List Tmp→List Value→Fr→Fr
 | p :: ps,v :: vs,f=>lay ps vs ((p,v) :: f)
 | _,_,f=>f
theorem Rds.putL {N:Nat}:∀ {ps:List Tmp} {vs:List Value} {a:Act} {f:Fr} {ds:List Deferred},Rds N a f ds→(ps.all fun p=>Nat.blt p N)=true→ps.length=vs.length →
   Rds N { tmps:=(ps.zip vs).foldl (fun t (p,v)=>t.setIfInBounds p v) a.tmps,defers:=a.defers } (lay ps vs f) ds
 | [],[],a,f,ds,h,_,_=>h
 | p :: ps,v :: vs,a,f,ds,h,hN,hl=>by
   simp only [List.all_cons,Bool.and_eq_true] at hN
   have:=Rds.putL (ps:=ps) (vs:=vs) (h.put p hN.1 v) hN.2 (by simpa using hl)
   exact this
 | [],_ :: _,_,_,_,_,_,hl=>by cases hl
 | _ :: _,[],_,_,_,_,_,hl=>by cases hl
theorem Rds.putA {N:Nat} {ps:Array Tmp} {vs:Array Value} {a:Act} {f:Fr} {ds:List Deferred} (h:Rds N a f ds) (hN:(ps.toList.all fun p=>Nat.blt p N)=true) (hl:vs.size=ps.size) :
   Rds N { tmps:=(ps.zip vs).foldl (fun t (p,v)=>t.setIfInBounds p v) a.tmps,defers:=[] } (lay ps.toList vs.toList f) []:=by
 have h0:Rds N { tmps:=a.tmps,defers:=[] } f []:=⟨h.size,h.get,rfl⟩
 have:=h0.putL (ps:=ps.toList) (vs:=vs.toList) hN (by simp [hl])
 rw [← Array.foldl_toList,Array.toList_zip]; exact this
section
variable {P:Program} {N:Nat} {Q:Exit→Act→World→Prop} {f:Fr} {ds:List Deferred} {w:World} {n:Nat} {ops:Array Oper} {rest:List Oper} {o:Oper} {L:List Item}
def RoundK {α:Type} (B:Nat) (Kp:World→World→Prop) (J Jx:List α→List Item→Prop) (xs:List α) (W:World):Exit→Act→World→Prop:=
 ownPostG B Kp (fun pre W=>∃ Lx,J pre Lx∧S W Lx) (fun c pre W=>c=.ret∧∃ Lx,Jx pre Lx∧S W Lx) xs W
def AssignK {α ι:Type} (N B:Nat) (Kp:World→World→Prop) (J:List α→List Item→Prop) (FA:α→ι→Fr) (LA:α→ι→List Item) (pre:List α) (x:α) (W:World) (a':Act) (W':World):Prop:=
 KeepsFrom B W W'∧Kp W W'∧(∃ Lx,J pre Lx∧S W' Lx)∧∃ i,Rds N a' (FA x i) []∧S W' (LA x i)
theorem same_putObj (w:World) (g:Nat) (o:Obj):Same (fun k=>k ≠ g) w (w.putObj g o):=⟨rfl,rfl,rfl,by simp,fun k hk=>World.putObj_heap_other hk⟩
theorem fin_mark {fn:Func} {R:Ending→World→Prop} {D:Nat} (H:S w L) (k:Nat) (hk:L[k]?=some (Ob D (.deferred (some [])))) (rs:List ResultVar) (vs:List Value) (hr:fn.results=rs.toArray)
   (h:∀ w',S w' (L.set k (Ob D (.deferred none)))→resOk P f w' rs vs∧R (.returned (tupled vs)) w'):G N (bodyPostM (WF none) n P fn R .ret) f [mark D] w:=fun a ha=>by
 show LeavesInM (WF none) n P fn a.tmps R a.defers .returning w
 rw [ha.defers]
 have hD:w.heap[D]?=some (.deferred (some [])):=H.ob hk
 have hlt:D<w.heap.size:=(Array.getElem?_eq_some_iff.1 hD).1
 have hS:=H.write hk (same_putObj w D (.deferred none)) (World.putObj_heap_same hlt)
 obtain ⟨h1,h2⟩:=h _ hS
 exact ⟨by simp,.inl ⟨D,_,rfl,run_takeDeferred hD,_,results_run ha hr h1,h2⟩⟩
theorem l_yield {d l:Nat} {x:Operand} {args:Array Operand} {ts:Array TypeId} {vs:List Value} {R':Ending→World→Prop} (hw:Wt ops f o) (hd:o.dst=some d) (hN:Nat.blt d N=true) (ho:o.op=.call { callee:=.value x,args:=args,argTypes:=ts }) (hx:evo f x=some (.func (.yield l) #[] #[])) (hv:evs f args.toList=some vs)
   (hY:YieldAt (WF none) (n - 1) P l vs.toArray w R') (h:∀ e w',R' e w'→∃ v,e=.returned v∧G N (wpListIn (WF none) n P ops Q rest) ((d,v) :: f) ds w'):G N (wpListIn (WF none) n P ops Q (o :: rest)) f ds w:=fun a ha=>by
 unfold wpListIn
 rw [if_pos (hw.wanted ha)]
 refine ⟨fun _ _=>trivial,?_⟩
 rw [Oper.semAt_none]
 obtain ⟨fn,tmps,assign,body,hy,hR⟩:=hY
 have he:args.map a.eval=vs.toArray:=ha.evalsA hv
 have hrun:(execOp a.eval o).run P w=.ok (.round l fn tmps assign body) w:=by
   unfold execOp
   simp only [ho,resolve,ha.eval hx,Deferred.ofValue,Sem.run_bind,Sem.run_pure,Result.andThen_ok,invoke,he]
   simpa using hy
 rw [hrun,Oper.uponIn_round]
 refine ⟨(fun h0=>by cases h0),hR.mono fun e w' hr=>?_⟩
 obtain ⟨v,rfl,hg⟩:=h e w' hr
 show wpListIn (WF none) n P ops Q rest (a.put o.dst v) w'
 rw [hd]; exact hg _ (ha.put d hN v)
theorem enter_ci {g:FuncId} {fn:Func} {c:Code} {args:Array Value} {R':Ending→World→Prop} (N:Nat) (hf:P.funcs[g]?=some fn) (hb:fn.body=some c) (hN:fn.ntmps=N) (hA:Nat.ble args.size N=true)
   (h:G N (c.wpIn (WF none) n P (bodyPost P fn R')) (argsFr 0 args.toList) [] w):CallsIn (WF none) n P g args w R':=by
 refine callsIn_of_wp hf hb trivial (h _ ⟨?_,fun t v ht=>?_,rfl⟩) rfl
 · have:args.size≤N:=Nat.le_of_ble_eq_true hA
   simp [hN]; omega
 · obtain ⟨_,h2⟩:=argsFr_get _ 0 t v ht
   have h3:args[t]?=some v:=by simpa using h2
   have h4:t<args.size:=(Array.getElem?_eq_some_iff.1 h3).1
   show (args++_)[t]?=_
   rw [Array.getElem?_append_left h4]; exact h3
end
section
variable {P:Program} {w:World} {t:TypeId} {xo yo:Operand}
theorem b_subN {a b:Nat} (h:b≤a∧a≤9223372036854775807):Bin P .sub t xo yo (.int .i64 (a:Int)) (.int .i64 (b:Int)) w (.int .i64 ((a - b:Nat):Int)):=
 b_sub (by rw [w64 (by omega)]; omega)
theorem b_addN {a b:Nat} (h:a+b≤9223372036854775807):Bin P .add t xo yo (.int .i64 (a:Int)) (.int .i64 (b:Int)) w (.int .i64 ((a+b:Nat):Int)):=
 b_add (by rw [w64 (by omega)]; omega)
theorem b_shrN {a n:Nat} {k yk:IntKind} (h:n≤k.bits):Bin P .shr t xo yo (.int k (a:Int)) (.int yk (n:Int)) w (.int k ((a / 2 ^ n:Nat):Int)):=
 b_shr (by rw [Nat.min_eq_left h]; exact Int.fdiv_eq_ediv_of_nonneg _ (by exact Int.natCast_nonneg _))
end
section
variable {P:Program} {N:Nat} {Q:Exit→Act→World→Prop} {f:Fr} {ds:List Deferred} {w w':World} {o:Oper} {ops:Array Oper} {L:List Item} {K:Act→World→Prop}
theorem s_storeW {t e size n c j:Nat} {x y:Operand} {p:Option Addr} {xs:List Value} {v:Value} (H:S w L) (k:Nat) (hw:Wt ops f o) (hd:o.dst=none) (ho:o.op=.store t x y) (hx:evo f x=some (.pointer (p.map fun q=>q.add (j * size))))
   (hy:evo f y=some v) (hk:L[k]?=some (Rw e size p n c xs)) (hn:szO P t=some v.cells.size) (hv:v.cells.size=size) (h1:v.cells.toList.all (·.oneCell')=true) (hj:j<n)
   (h:∀ w',S w' (L.set k (Rw e size p n c (xs.take (j * size)++v.cells.toList++xs.drop (j * size+size))))→G N K f ds w'):G N (StepK P ops Q o K) f ds w:=by
 obtain ⟨k1,k2,k3,k4⟩:=H.rw hk
 rcases k4 with ⟨_,h0,_⟩ | ⟨g,off,cur,rfl,hg,hcs,hc⟩
 · omega
 · have hjs:j * size+size≤n * size:=by
     have:(j+1) * size≤n * size:=Nat.mul_le_mul_right _ hj
     rw [Nat.add_mul,Nat.one_mul] at this; exact this
   have hns:n * size≤c * size:=Nat.mul_le_mul_right _ k2
   have hr:=run_storeR (P:=P) (t:=t) (g:=g) (i:=off+j * size) (v:=v) hg hn (by omega) (List.all_eq_true.1 h1)
   rw [hv] at hr
   have ha:(Option.map (fun q:Addr=>q.add (j * size)) (some ⟨g,off,none⟩))=some ⟨g,off+j * size,none⟩:=by rw [Option.map_some,add_lit']
   rw [ha] at hx
   have hvl:v.cells.toList.length=size:=by simpa using hv
   have hcl:cur.toList.length=cur.size:=by simp
   have hlt:g<w.heap.size:=(Array.getElem?_eq_some_iff.1 hg).1
   refine s_unit hw hd (exu_store ho hx hy hr) (h _ (H.turn hk ((same_setRow w g _).less fun b hb he=>hb.2 ⟨off,by rw [he]⟩) ⟨?_,k2,k3,.inr ⟨g,off,_,rfl,by simp only [World.setRow,Array.getElem?_modify,if_true,hg,Option.map_some]; rfl,?_,fun i u hu=>?_⟩⟩ (fun b hb=>⟨.inl hb,?_⟩)))
   · simp only [List.length_append,List.length_take,List.length_drop,hvl,k1]; omega
   · simp only [List.size_toArray,List.length_append,List.length_take,List.length_drop,hvl,hcl]; omega
   · simp only [List.getElem?_toArray]
     rw [List.append_assoc,List.getElem?_append] at hu ⊢
     simp only [List.length_take,k1,hcl] at hu ⊢
     rw [Nat.min_eq_left (by omega)] at hu ⊢
     by_cases hi:i<j * size
     · rw [if_pos hi,List.getElem?_take,if_pos hi] at hu
       rw [if_pos (by omega),List.getElem?_take,if_pos (by omega),Array.getElem?_toList]
       exact hc i u hu
     · rw [if_neg hi,List.getElem?_append,hvl] at hu
       rw [if_neg (by omega),List.getElem?_append,hvl,show off+i - (off+j * size)=i - j * size from by omega]
       by_cases hi2:i - j * size<size
       · rw [if_pos hi2] at hu ⊢; exact hu
       · rw [if_neg hi2,List.getElem?_drop] at hu ⊢
         have hu':=hc _ u hu
         rw [Array.getElem?_toList]
         rw [show off+j * size+size+(i - j * size - size)=off+(j * size+size+(i - j * size - size)) from by omega]; exact hu'
   · exact Nat.lt_of_lt_of_le (H.lt hk hb) (by simp [World.setRow])
end
def AssignB {α:Type} (N B:Nat) (Kp:World→World→Prop) (J:List α→List Item→Prop) (FA:α→Fr) (pre:List α) (x:α) (W:World) (a':Act) (W':World):Prop:=
 KeepsFrom B W W'∧Kp W W'∧(∃ Lx,J pre Lx∧S W' Lx)∧Rds N a' (FA x) []
section
variable {P:Program} {N:Nat} {Q:Exit→Act→World→Prop} {f:Fr} {ds:List Deferred} {w:World} {n:Nat} {ops:Array Oper} {rest:List Oper} {o:Oper} {L:List Item}
end
end Go.Proofs.YtpbjekdjebjbkaaGreatDoor
namespace Go.Proofs.YtpbjekdjebjbkaaGreatDoor
open Go.RowKit Go.Deep
section
variable {P:Program} {N:Nat} {Q:Exit→Act→World→Prop} {f:Fr} {ds:List Deferred} {w w':World} {o:Oper} {ops:Array Oper} {L:List Item} {K:Act→World→Prop}
theorem S.obRw {k g e size n:Nat} {cs:Array Value} (h:S w L) (hk:L[k]?=some (Ob g (.cells cs e (0,0)))) (hn:cs.size=n * size) (hm:n≤maxLen):S w (L.set k (Rw e size (some ⟨g,0,none⟩) n n cs.toList)):=
 h.turn hk Same.rfl' ⟨by simpa using hn,Nat.le_refl _,hm,.inr ⟨g,0,cs,rfl,h.ob hk,by omega,fun j u hu=>by rw [Nat.zero_add]; simpa using hu⟩⟩ (fun b hb=>by
   obtain ⟨x,hx⟩:=hb
   cases hx
   exact ⟨.inl rfl,(Array.getElem?_eq_some_iff.1 (h.ob hk)).1⟩)
theorem list_set_self {α:Type}:∀ {l:List α} {k:Nat} {x:α},l[k]?=some x→l.set k x=l
 | [],_,_,h=>by simp at h
 | a :: l,0,x,h=>by simp at h; simp [h]
 | a :: l,k+1,x,h=>by
   have h:l[k]?=some x:=by simpa using h
   simp [list_set_self h]
theorem s_appendW {d t e size bytes n m c sc:Nat} {s x:Operand} {z:Value} {xs news:List Value} {p q:Option Addr} (H:S w L) (k:Nat) (hw:Wt ops f o) (hd:o.dst=some d) (hN:Nat.blt d N=true)
   (ho:o.op=.call { callee:=.builtin .append,args:=#[s,x],argTypes:=#[t,t] }) (hs:evo f s=some (.slice p n sc)) (hx:evo f x=some (.slice q m c)) (hk:L[k]?=some (Rw e size p n sc xs))
   (ht:P.underlying t=some (.slice e)) (hi:infO P e=some (some z,size,bytes)) (hz:z.cells.size=size) (hsz:0<size) (hb0:0<bytes) (hr:Reads w q m c size news) (h1:news.all (·.oneCell')=true)
   (hb:(n+m) * bytes≤140737488355328)
   (h:∀ p' c' w',S w' (L.set k (Rw e size p' (n+m) c' (xs++news)))→G N K ((d,.slice p' (n+m) c') :: f) ds w'):G N (StepK P ops Q o K) f ds w:=by
 by_cases hm:0<m
 · obtain ⟨k1,k2,k3⟩:=hr
   obtain ⟨ad,rfl,hc⟩:=k3 hm
   exact s_appendR H k hw hd hN ho hs hx hk ht hi hz hsz hb0 k1 hm hc h1 hb h
 · obtain rfl:m=0:=by omega
   obtain ⟨k1,k2,k3⟩:=hr
   have hn0:news=[]:=List.eq_nil_of_length_eq_zero (by rw [k1,Nat.zero_mul])
   subst hn0
   obtain ⟨i,hi1,hi2,hi3,hi4⟩:=inf_of hi
   obtain ⟨r1,r2,r3,r4⟩:=H.rw hk
   have hrun:(Builtin.append_ #[t,t] o.type #[.slice p n sc,.slice q 0 c]).run P w=.ok (.slice p n sc) w:=by
     cases p <;> cases q <;> simp [Builtin.append_,run_underlying ht,sizeOf,typeInfo,hi1,Builtin.lenOf,Builtin.firstCells,loadCells,loadCellsFrom,storeCells,r2]
   have hS:S w (L.set k (Rw e size p (n+0) sc (xs++[]))):=by
     rw [Nat.add_zero,List.append_nil,list_set_self hk]; exact H
   exact s_val hw hd hN (x_builtin (vs:=[.slice p n sc,.slice q 0 c]) ho (by simp only [Array.toList,evs,hs,hx]) (fun cs=>by
     simp only [builtin,Sem.run_bind,hrun,Result.andThen_ok,Sem.run_pure,Nat.add_zero])) (h p sc w hS)
theorem s_buildSlice0 {d t e size:Nat} (H:S w L) (hw:Wt ops f o) (hd:o.dst=some d) (hN:Nat.blt d N=true) (ho:o.op=.buildSlice t 0 #[])
   (hu:P.underlying t=some (.slice e)) (hz:szO P e=some size)
   (h:∀ g w',S w' (Ob g (.cells #[] e (0,0)) :: L)→G N K ((d,.slice (some ⟨g,0,none⟩) 0 0) :: f) ds w'):G N (StepK P ops Q o K) f ds w:=
 s_new (v:=fun g=>.slice (some ⟨g,0,none⟩) 0 0) H hw hd hN (fun a ha=>by
   unfold execOp
   have h2:¬ (0 * size > 2 ^ 24):=by omega
   have h3:0 * size=0:=by omega
   simp only [ho,Instr.buildSlice,Sem.run_bind,run_underlying hu,Result.andThen_ok,run_sz hz,if_neg h2,if_pos h3,Sem.run_pure]
   rw [h3]
   simp [Instr.fill,newRow,newObj,go_sem]
   rfl) h
end
end Go.Proofs.YtpbjekdjebjbkaaGreatDoor
namespace Go.Proofs.YtpbjekdjebjbkaaGreatDoor
open Go.RowKit
section
variable {P:Program} {w:World} {t:TypeId} {xo yo:Operand}
theorem wrapU {a:Nat} (h:a<18446744073709551616):IntKind.u64.wrap (a:Int)=(a:Int):=by rw [IntKind.wrap_u64]; omega
theorem wrapUM (a:Nat):IntKind.u64.wrap (a:Int)=((a % 18446744073709551616:Nat):Int):=by rw [IntKind.wrap_u64]; omega
theorem wrapB (a:Nat):IntKind.u8.wrap (a:Int)=((a % 256:Nat):Int):=by rw [IntKind.wrap_u8]; omega
theorem b_mulU (a b:Nat):Bin P .mul t xo yo (.int .u64 (a:Int)) (.int .u64 (b:Int)) w (.int .u64 ((a * b % 18446744073709551616:Nat):Int)):=
 b_mul (by rw [← Int.natCast_mul,wrapUM])
theorem b_addU (a b:Nat):Bin P .add t xo yo (.int .u64 (a:Int)) (.int .u64 (b:Int)) w (.int .u64 (((a+b) % 18446744073709551616:Nat):Int)):=
 b_add (by rw [← Int.natCast_add,wrapUM])
theorem b_quoU {a b:Nat} (h:0<b∧a<18446744073709551616):Bin P .quo t xo yo (.int .u64 (a:Int)) (.int .u64 (b:Int)) w (.int .u64 ((a / b:Nat):Int)):=
 b_quo (by omega) (by
   have h1:a / b≤a:=Nat.div_le_self _ _
   rw [Int.tdiv_eq_ediv_of_nonneg (Int.natCast_nonneg a),← Int.natCast_ediv,wrapU (by omega)])
theorem b_remU {a b:Nat} (h:0<b):Bin P .rem t xo yo (.int .u64 (a:Int)) (.int .u64 (b:Int)) w (.int .u64 ((a % b:Nat):Int)):=
 b_rem (by omega) (by rw [rem0 (by omega)]; rfl)
theorem b_xorU {a b:Nat} (h:a<18446744073709551616∧b<18446744073709551616):Bin P .xor t xo yo (.int .u64 (a:Int)) (.int .u64 (b:Int)) w (.int .u64 ((a ^^^ b:Nat):Int)):=by
 refine b_bits (.inr (.inr (.inl rfl))) ?_
 have h2:a ^^^ b<2 ^ 64:=Nat.xor_lt_two_pow (by omega) (by omega)
 have e:(BitVec.ofInt IntKind.u64.bits (a:Int) ^^^ BitVec.ofInt IntKind.u64.bits (b:Int)).toNat=a ^^^ b:=by
   show (BitVec.ofInt 64 (a:Int) ^^^ BitVec.ofInt 64 (b:Int)).toNat=_
   rw [ofInt_nat,ofInt_nat,BitVec.toNat_xor,BitVec.toNat_ofNat,BitVec.toNat_ofNat,Nat.mod_eq_of_lt (by omega),Nat.mod_eq_of_lt (by omega)]
 simp only [Op.intBits,e]
 rw [wrapU (by omega)]; rfl
end
section
variable {P:Program} {N:Nat} {f:Fr} {ds:List Deferred} {w:World} {o:Oper}
theorem x_indexW {t e:TypeId} {len:Nat} {d:TypeDesc} {x y:Operand} {cs:Array Value} {k:IntKind} {i:Int} {v:Value} (j:Nat) (ho:o.op=.index t x y) (hx:evo f x=some (.agg cs)) (hy:evo f y=some (.int k i)) (hu:P.underlying t=some (.array len e)) (hz:szO P e=some 1) (he:P.underlying e=some d) (hd:aggB d=false)
   (hb:i=(j:Int)∧j<len) (hv:cs[j]?=some v):Ex P N f ds o w v w:=
 ex_of (x:=Instr.index t (.agg cs) (.int k i)) (fun a ha=>by unfold execOp; simp only [ho,ha.eval hx,ha.eval hy]) (by
   obtain ⟨rfl,hj⟩:=hb
   unfold Instr.index
   simp only [asIntOf,Sem.run_bind,Sem.run_pure,Result.andThen_ok,run_underlying hu]
   have:(0:Int)≤(j:Int)∧(j:Int)<(len:Int):=by omega
   simp only [if_pos this,Sem.run_bind,run_sz hz,Result.andThen_ok,Int.toNat_natCast,Nat.mul_one]
   exact run_part1 he hd hv)
theorem x_bytesR {s d e n c:Nat} {x:Operand} {p:Option Addr} {l:List UInt8} (ho:o.op=.convert s d x) (hx:evo f x=some (.slice p n c)) (hs:P.underlying s=some (.slice e)) (hd:P.underlying d=some .string) (he:P.underlying e=some (.int .u8))
   (hr:Reads w p n c 1 (bytesV l)) (hl:l.length=n):Ex P N f ds o w (.string ⟨l.toArray⟩) w:=by
 obtain ⟨k1,k2,k3⟩:=hr
 cases p with
 | none =>
   have hn:n=0:=by
     rcases Nat.eq_zero_or_pos n with h | h
     · exact h
     · obtain ⟨a,ha,_⟩:=k3 h; cases ha
   have hl0:l=[]:=List.eq_nil_of_length_eq_zero (by omega)
   subst hl0
   exact x_bytes0 ho hx hs hd he
 | some a =>
   refine x_bytes ho hx hs hd he hl (fun j u hu=>?_)
   have hj:=(List.getElem?_eq_some_iff.1 hu).1
   have:0<n:=by omega
   obtain ⟨a',ha,hc⟩:=k3 this
   cases ha
   exact hc j u hu
end
section
variable {P:Program} {w:World} {t:TypeId} {xo yo:Operand}
theorem b_shrI {a n:Nat} {y:Int} {k yk:IntKind} (hy:y=(n:Int)) (h:n≤k.bits):Bin P .shr t xo yo (.int k (a:Int)) (.int yk y) w (.int k ((a / 2 ^ n:Nat):Int)):=by
 subst hy; exact b_shrN h
end
def Big (L:List Item):Item:=⟨fps L,fun w=>S w L,fun {w w'} h k =>
 ⟨fun it hit=>⟨it.loc (h.less fun g hg=>⟨it,hit,hg⟩) (k.1 it hit).1,fun g hg=>Nat.lt_of_lt_of_le ((k.1 it hit).2 g hg) h.size⟩,k.2⟩⟩
theorem S.big {w:World} {L B:List Item} (h:S w (L++B)):S w (Big L :: B):=by
 have hp:=List.pairwise_append.1 h.2
 have hB:S w B:=⟨fun it hit=>h.1 it (List.mem_append_right _ hit),hp.2.1⟩
 have hL:S w L:=⟨fun it hit=>h.1 it (List.mem_append_left _ hit),hp.1⟩
 refine hB.cons hL ?_ ?_
 · rintro g ⟨it,hit,hg⟩; exact (hL.1 it hit).2 g hg
 · rintro x hx g ⟨it,hit,hg⟩ hx'
   exact hp.2.2 it hit x hx g hg hx'
theorem S.unbig {w:World} {L B:List Item} (h:S w (Big L :: B)):S w (L++B):=by
 obtain ⟨h1,_,h3⟩:=h.head
 have hL:S w L:=h1
 have hB:=h.tail
 refine ⟨fun it hit=>?_,List.pairwise_append.2 ⟨hL.2,hB.2,fun a ha b hb g hga hgb=>h3 b hb g ⟨a,ha,hga⟩ hgb⟩⟩
 rcases List.mem_append.1 hit with hit | hit
 · exact hL.1 it hit
 · exact hB.1 it hit
def IterS {α:Type} (n:Nat) (P:Program) (g:Nat) (lb:Array Value) (encs:α→Array Value) (base:Item) (Φ:List α→α→Item→Prop) (Ok S' Sp:List α→Prop) (I0:Item):Prop:=
 ∀ (l:Nat) (J Jx:List α→Item→Prop) (W:World) (C:Item),(∀ pre C,J pre C→Ok pre) →
   (∀ pre x W1 I C,J pre C→Φ pre x I→S W1 [base,I,C]→YieldAt (WF none) (n - 1) P l (encs x) W1 fun e W' =>
     (e=.returned (.bool true)∧∃ C',J (pre++[x]) C'∧S W' [base,I,C'])∨(e=.returned (.bool false)∧∃ C',Jx (pre++[x]) C'∧S W' [base,I,C'])) →
   J [] C→S W [base,I0,C] →
   CallsIn (WF none) n P g (#[.func (.yield l) #[] #[]]++lb) W fun e W'=>(∃ v,e=.returned v)∧((∃ xs C,S' xs∧J xs C∧S W' [base,C])∨(∃ pre C,Sp pre∧Jx pre C∧S W' [base,C]))
def RoundS {α:Type} (J Jx:List α→List Item→Prop) (base I K:Item) (xs:List α):Exit→Act→World→Prop
 | .normal,_,W=>∃ Lx,J xs Lx∧S W (base :: I :: K :: Lx)
 | .ret,_,W=>∃ Lx,Jx xs Lx∧S W (base :: I :: K :: Lx)
 | _,_,_=>False
section
variable {P:Program} {N:Nat} {Q:Exit→Act→World→Prop} {f:Fr} {ds:List Deferred} {w:World} {n:Nat} {ops:Array Oper} {rest:List Oper} {o:Oper} {L:List Item}
theorem rs_next {α:Type} {J Jx:List α→List Item→Prop} {base I K:Item} {xs:List α} {Lx:List Item} (hJ:J xs Lx) (H:S w (base :: I :: K :: Lx)):G N (RoundS J Jx base I K xs .normal) f ds w:=fun _ _=>⟨Lx,hJ,H⟩
def AssignS (N:Nat) (FA:Fr) (L:List Item) (a:Act) (w:World):Prop:=Rds N a FA []∧S w L
theorem S.putObj {D:Nat} {k:Nat} {o o':Obj} (H:S w L) (hk:L[k]?=some (Ob D o)):S (w.putObj D o') (L.set k (Ob D o')):=
 H.write hk (same_putObj w D o') (World.putObj_heap_same (Array.getElem?_eq_some_iff.1 (H.ob hk)).1)
def Marks (Ds:List Nat):Item:=⟨fun g=>g∈Ds,fun w=>Ds.Nodup∧∀ D∈Ds,w.heap[D]?=some (.deferred (some [])),fun {w w'} h k=>⟨k.1,fun D hD=>(h.block D hD).trans (k.2 D hD)⟩⟩
theorem enter_cm {g:FuncId} {fn:Func} {c:Code} {args:Array Value} {R':Ending→World→Prop} (N:Nat) (hf:P.funcs[g]?=some fn) (hb:fn.body=some c) (hN:fn.ntmps=N) (hA:Nat.ble args.size N=true)
   (h:G N (c.wpIn (WF none) n P (bodyPostM (WF none) n P fn R')) (argsFr 0 args.toList) [] w):CallsIn (WF none) n P g args w R':=by
 refine callsIn_of_wp_marks hf hb trivial (h _ ⟨?_,fun t v ht=>?_,rfl⟩) rfl
 · have:args.size≤N:=Nat.le_of_ble_eq_true hA
   simp [hN]; omega
 · obtain ⟨_,h2⟩:=argsFr_get _ 0 t v ht
   have h3:args[t]?=some v:=by simpa using h2
   have h4:t<args.size:=(Array.getElem?_eq_some_iff.1 h3).1
   show (args++_)[t]?=_
   rw [Array.getElem?_append_left h4]; exact h3
end
section
variable {P:Program} {N:Nat} {f:Fr} {ds:List Deferred} {w:World} {o:Oper}
theorem x_sliceH {t e size n c:Nat} {p:Option Addr} {x y2:Operand} {k2:IntKind} {i2:Int} (h:Nat) (ho:o.op=.slice t x none (some y2) none) (hx:evo f x=some (.slice p n c)) (h2:evo f y2=some (.int k2 i2))
   (hu:P.underlying t=some (.slice e)) (hz:szO P e=some size) (hb:i2=(h:Int)∧h≤c) :
   Ex P N f ds o w (.slice (cutP p 0 c size) h c) w:=
 ex_of (x:=Instr.sliceAt t (.slice p n c) none (some (.int k2 i2)) none) (fun a ha=>by unfold execOp; simp only [ho,ha.eval hx,ha.eval h2,Option.map_some,Option.map_none]) (by
   obtain ⟨rfl,q2⟩:=hb
   have hel:P.elem t=e:=by unfold Program.elem; rw [hu]
   have hu':P.underlying t=some (.slice (P.elem t)):=by rw [hel]; exact hu
   rw [run_sliceAt_slice (P:=P) w t _ _ _ _ hu',run_slice_h (P:=P) w t p n c hu' k2 (h:Int) (by omega) (by omega),hel,run_sz hz]
   simp only [Result.andThen_ok,sliced,cutP,Int.toNat_natCast,Nat.sub_zero])
theorem Reads.cut {p:Option Addr} {n c size:Nat} {xs:List Value} (hr:Reads w p n c size xs) (l h:Nat) (hl:l≤h) (hh:h≤n):Reads w (cutP p l c size) (h - l) (c - l) size ((xs.drop (l * size)).take ((h - l) * size)):=by
 obtain ⟨k1,k2,k3⟩:=hr
 have hx:h * size≤n * size:=Nat.mul_le_mul_right _ hh
 refine ⟨?_,by omega,fun h0=>?_⟩
 · rw [List.length_take,List.length_drop,k1,Nat.sub_mul]; omega
 · obtain ⟨a,rfl,hc⟩:=k3 (by omega)
   refine ⟨a.add (l * size),?_,fun j u hu=>?_⟩
   · unfold cutP; rw [if_neg (by omega)]; rfl
   · rw [addr_add]
     refine hc _ _ ?_
     have hj:=(List.getElem?_eq_some_iff.1 hu).1
     rw [List.length_take] at hj
     rw [List.getElem?_take_of_lt (by omega),List.getElem?_drop] at hu
     exact hu
end
structure Ro (α:Type) where
 p:Option Addr
 c:Nat
 l:List α
def roV {α:Type} (r:Ro α):Value:=.slice r.p r.l.length r.c
def rosV {α:Type} (rs:List (Ro α)):List Value:=rs.map roV
def roI {α:Type} (e size:Nat) (enc:α→List Value) (r:Ro α):Item:=Rw e size r.p r.l.length r.c (r.l.flatMap enc)
def RowsI {α:Type} (e size:Nat) (enc:α→List Value) (rs:List (Ro α)):Item:=Big (rs.map (roI e size enc))
open Go.Maps (Keyed)
open Go.ChangeMaps (setBlock)
section
variable {κ α:Type}
structure MapTy (P:Program) (t k e:TypeId) (ek:κ→Value) (ok:κ→Prop):Prop where
 ht:P.underlying t=some (.map k e)
 K:Keyed P k
 key:∀ x,ok x→∃ l,keyOf P k (ek x)=some l
 inj:∀ x y,ok x→ok y→ek x=ek y→x=y
structure KV (ek:κ→Value) (va:α→Value) (ok:κ→Prop) (M:κ→Option α) (es:Array MapEntry) (c:Nat) (kv:List (κ × α)):Prop where
 same:es.toList.map (fun e=>(e.key,e.val))=kv.map (fun p=>(ek p.1,va p.2))
 nodup:(kv.map Prod.fst).Nodup
 oks:∀ p∈kv,ok p.1
 born:(es.toList.map (·.born)).Nodup
 old:∀ e∈es.toList,e.born<c
 is:∀ p:κ × α,p∈kv ↔ (ok p.1∧M p.1=some p.2)
def Mp (ek:κ→Value) (va:α→Value) (ok:κ→Prop) (g:Nat) (M:κ→Option α):Item:=
 ⟨fun j=>j=g,fun w=>∃ es c kv,w.heap[g]?=some (.map es c)∧KV ek va ok M es c kv,fun h k=>by
   obtain ⟨es,c,kv,h1,h2⟩:=k
   exact ⟨es,c,kv,(h.block g rfl).trans h1,h2⟩⟩
variable {ek:κ→Value} {va:α→Value} {ok:κ→Prop} {M:κ→Option α} {es:Array MapEntry} {c:Nat} {kv:List (κ × α)}
theorem KV.at (h:KV ek va ok M es c kv) {j:Nat} {e:MapEntry} (he:es.toList[j]?=some e):∃ p,kv[j]?=some p∧e.key=ek p.1∧e.val=va p.2:=by
 have h1:(es.toList.map (fun e=>(e.key,e.val)))[j]?=some (e.key,e.val):=by rw [List.getElem?_map,he]; rfl
 rw [h.same,List.getElem?_map] at h1
 cases hp:kv[j]? with
 | none=>rw [hp] at h1; cases h1
 | some p =>
   rw [hp] at h1
   simp only [Option.map_some,Option.some.injEq,Prod.mk.injEq] at h1
   exact ⟨p,rfl,h1.1.symm,h1.2.symm⟩
theorem KV.len (h:KV ek va ok M es c kv):es.size=kv.length:=by
 have:=congrArg List.length h.same
 simpa using this
theorem KV.ofp (h:KV ek va ok M es c kv) {p:κ × α} (hp:p∈kv):∃ e∈es.toList,e.key=ek p.1∧e.val=va p.2:=by
 have h1:(ek p.1,va p.2)∈kv.map (fun p=>(ek p.1,va p.2)):=List.mem_map.2 ⟨p,hp,rfl⟩
 rw [← h.same] at h1
 obtain ⟨e,he,h2⟩:=List.mem_map.1 h1
 simp only [Prod.mk.injEq] at h2
 exact ⟨e,he,h2.1,h2.2⟩
theorem KV.key {P:Program} {t k e0:TypeId} (T:MapTy P t k e0 ek ok) (h:KV ek va ok M es c kv):∀ e∈es.toList,∃ l,keyOf P k e.key=some l:=fun e he=>by
 obtain ⟨j,hj⟩:=List.getElem?_of_mem he
 obtain ⟨p,hp,h1,_⟩:=h.at hj
 rw [h1]; exact T.key _ (h.oks p (List.mem_of_getElem? hp))
theorem KV.find {P:Program} {t k e0:TypeId} (T:MapTy P t k e0 ek ok) (h:KV ek va ok M es c kv) (w:World) {x:κ} (hx:ok x) :
   (M x=none∧(Instr.findKey k (ek x) es.toList).run P w=.ok none w)∨∃ j a,M x=some a∧kv[j]?=some (x,a)∧(Instr.findKey k (ek x) es.toList).run P w=.ok (some (j,va a)) w∧∃ e,es.toList[j]?=some e∧e.key=ek x:=by
 obtain ⟨l,hl⟩:=T.key x hx
 rcases T.K.find w hl es.toList (h.key T) with ⟨h1,h2⟩ | ⟨j,e,h1,h2,h3⟩
 · refine .inl ⟨?_,h1⟩
   cases hM:M x with
   | none=>rfl
   | some a =>
     obtain ⟨e,he,h4,_⟩:=h.ofp ((h.is (x,a)).2 ⟨hx,hM⟩)
     exact absurd h4 (h2 e he)
 · obtain ⟨p,hp,h4,h5⟩:=h.at h2
   have hp1:=h.oks p (List.mem_of_getElem? hp)
   have hpx:p.1=x:=T.inj _ _ hp1 hx (by rw [← h4,h3])
   obtain ⟨p1,p2⟩:=p
   have hpx:p1=x:=hpx
   subst hpx
   exact .inr ⟨j,p2,((h.is (p1,p2)).1 (List.mem_of_getElem? hp)).2,hp,by rw [h1,h5],e,h2,h3⟩
def upM [DecidableEq κ] (M:κ→Option α) (x:κ) (a:α):κ→Option α:=fun y=>if y=x then some a else M y
theorem KV.push [DecidableEq κ] {P:Program} {t k e0:TypeId} (T:MapTy P t k e0 ek ok) (h:KV ek va ok M es c kv) {x:κ} {a:α} (hx:ok x) (hM:M x=none):KV ek va ok (upM M x a) (es.push ⟨ek x,va a,c⟩) (c+1) (kv++[(x,a)]):=by
 have hno:∀ p∈kv,p.1 ≠ x:=fun p hp e=>by
   have:=((h.is p).1 hp).2
   rw [e,hM] at this; cases this
 refine ⟨?_,?_,?_,?_,?_,?_⟩
 · simp [h.same]
 · rw [List.map_append,List.nodup_append]
   refine ⟨h.nodup,by simp,?_⟩
   intro y hy z hz e
   obtain ⟨p,hp,rfl⟩:=List.mem_map.1 hy
   have:z=x:=by simpa using hz
   exact hno p hp (e.trans this)
 · intro p hp
   rcases List.mem_append.1 hp with hp | hp
   · exact h.oks p hp
   · have:p=(x,a):=by simpa using hp
     rw [this]; exact hx
 · rw [Array.toList_push,List.map_append,List.nodup_append]
   refine ⟨h.born,by simp,?_⟩
   intro y hy z hz e
   obtain ⟨q,hq,rfl⟩:=List.mem_map.1 hy
   have:=h.old q hq
   have hz:z=c:=by simpa using hz
   omega
 · intro e he
   rw [Array.toList_push] at he
   rcases List.mem_append.1 he with he | he
   · have:=h.old e he; omega
   · have:e=⟨ek x,va a,c⟩:=by simpa using he
     rw [this]; exact Nat.lt_succ_self c
 · intro p
   rw [List.mem_append,h.is]
   unfold upM
   constructor
   · rintro (hp | hp)
     · have:=hno p ((h.is p).2 hp)
       rw [if_neg this]; exact hp
     · have hp:p=(x,a):=by simpa using hp
       subst hp
       exact ⟨hx,if_pos rfl⟩
   · rintro ⟨h1,h2⟩
     split at h2
     · rename_i hpx
       right
       obtain ⟨p1,p2⟩:=p
       have hpx:p1=x:=hpx
       simp only [Option.some.injEq] at h2
       rw [hpx,← h2]; simp
     · exact .inl ⟨h1,h2⟩
theorem nodup_fst {kv:List (κ × α)} (hn:(kv.map Prod.fst).Nodup) {i j:Nat} {p q:κ × α} (hi:kv[i]?=some p) (hj:kv[j]?=some q) (h:p.1=q.1):i=j:=by
 obtain ⟨hi1,hi2⟩:=List.getElem?_eq_some_iff.1 hi
 obtain ⟨hj1,hj2⟩:=List.getElem?_eq_some_iff.1 hj
 have hw:=List.pairwise_iff_getElem.1 hn
 rcases Nat.lt_trichotomy i j with hl | hl | hl
 · exact absurd (show (kv.map Prod.fst)[i]'(by simpa using hi1)=(kv.map Prod.fst)[j]'(by simpa using hj1) from by simp [hi2,hj2,h]) (hw i j (by simpa using hi1) (by simpa using hj1) hl)
 · exact hl
 · exact absurd (show (kv.map Prod.fst)[j]'(by simpa using hj1)=(kv.map Prod.fst)[i]'(by simpa using hi1) from by simp [hi2,hj2,h]) (hw j i (by simpa using hj1) (by simpa using hi1) hl)
theorem KV.set [DecidableEq κ] {P:Program} {t k e0:TypeId} (T:MapTy P t k e0 ek ok) (h:KV ek va ok M es c kv) {x:κ} {a b:α} {j:Nat} (hx:ok x) (hj:kv[j]?=some (x,b)):KV ek va ok (upM M x a) (es.modify j fun e=>{ e with key:=ek x,val:=va a }) c (kv.set j (x,a)):=by
 have hjl:j<kv.length:=(List.getElem?_eq_some_iff.1 hj).1
 have hel:j<es.size:=by rw [h.len]; exact hjl
 have hfst:(kv.set j (x,a)).map Prod.fst=kv.map Prod.fst:=by
   apply List.ext_getElem?
   intro i
   rw [List.getElem?_map,List.getElem?_map,List.getElem?_set]
   by_cases e:j=i
   · subst e; rw [if_pos rfl,if_pos hjl,hj]; rfl
   · rw [if_neg e]
 have hto:(es.modify j fun e=>{ e with key:=ek x,val:=va a }).toList=es.toList.modify j (fun e=>{ e with key:=ek x,val:=va a }):=by simp
 refine ⟨?_,?_,?_,?_,?_,?_⟩
 · rw [hto]
   apply List.ext_getElem?
   intro i
   rw [List.getElem?_map,List.getElem?_map,List.getElem?_modify,List.getElem?_set]
   have hs:(es.toList.map (fun e=>(e.key,e.val)))[i]?=(kv.map (fun p=>(ek p.1,va p.2)))[i]?:=by rw [h.same]
   rw [List.getElem?_map,List.getElem?_map] at hs
   by_cases e:j=i
   · subst e
     rw [if_pos rfl,if_pos hjl]
     have:es.toList[j]?=some es[j]:=by simp [hel]
     simp [this]
   · rw [if_neg e]
     cases h1:es.toList[i]? with
     | none=>rw [h1] at hs; simp only [Option.map_none] at hs ⊢; rw [← hs]; rfl
     | some q=>rw [h1] at hs; rw [← hs]; simp [e]
 · rw [hfst]; exact h.nodup
 · intro p hp
   rcases List.mem_or_eq_of_mem_set hp with hp | rfl
   · exact h.oks p hp
   · exact hx
 · rw [hto]
   have:(es.toList.modify j (fun e=>{ e with key:=ek x,val:=va a })).map (·.born)=es.toList.map (·.born):=by
     apply List.ext_getElem?
     intro i
     rw [List.getElem?_map,List.getElem?_map,List.getElem?_modify]
     cases h1:es.toList[i]? with
     | none=>rfl
     | some q=>by_cases e:j=i <;> simp [e]
   rw [this]; exact h.born
 · intro e he
   rw [hto] at he
   obtain ⟨i,hi⟩:=List.getElem?_of_mem he
   rw [List.getElem?_modify] at hi
   cases h1:es.toList[i]? with
   | none=>rw [h1] at hi; cases hi
   | some q =>
     rw [h1] at hi
     have:=h.old q (List.mem_of_getElem? h1)
     by_cases e1:j=i
     · simp [e1] at hi; rw [← hi]; exact this
     · simp [e1] at hi; rw [← hi]; exact this
 · intro p
   unfold upM
   constructor
   · intro hp
     obtain ⟨i,hi⟩:=List.getElem?_of_mem hp
     rw [List.getElem?_set] at hi
     by_cases e:j=i
     · rw [if_pos e,if_pos hjl] at hi
       cases hi
       exact ⟨hx,if_pos rfl⟩
     · rw [if_neg e] at hi
       have hp':=(h.is p).1 (List.mem_of_getElem? hi)
       rw [if_neg (fun e1=>e (nodup_fst h.nodup hj hi e1.symm))]
       exact hp'
   · rintro ⟨h1,h2⟩
     split at h2
     · rename_i hpx
       obtain ⟨p1,p2⟩:=p
       have hpx:p1=x:=hpx
       simp only [Option.some.injEq] at h2
       rw [hpx,← h2]; exact List.mem_set hjl _
     · rename_i hpx
       obtain ⟨i,hi⟩:=List.getElem?_of_mem ((h.is p).2 ⟨h1,h2⟩)
       refine List.mem_of_getElem? (i:=i) ?_
       rw [List.getElem?_set,if_neg ?_]
       · exact hi
       · intro e
         subst e
         rw [hj] at hi
         cases hi
         exact hpx rfl
variable {P:Program} {N:Nat} {Q:Exit→Act→World→Prop} {f:Fr} {ds:List Deferred} {w w':World} {o:Oper} {ops:Array Oper} {L:List Item} {K:Act→World→Prop}
theorem S.mp {k0 g:Nat} (H:S w L) (hk:L[k0]?=some (Mp ek va ok g M)):∃ es c kv,w.heap[g]?=some (.map es c)∧KV ek va ok M es c kv:=H.at hk
theorem x_lookup {t k e:TypeId} {m y:Operand} {g:Nat} {x:κ} {z:Value} (T:MapTy P t k e ek ok) (H:S w L) (k0:Nat) (hk:L[k0]?=some (Mp ek va ok g M)) (ho:o.op=.lookup t m y true) (hm:evo f m=some (.map (some g))) (hy:evo f y=some (ek x)) (hx:ok x) (hz:zeO P e=some z) :
   Ex P N f ds o w (.tuple #[((M x).map va).getD z,.bool (M x).isSome]) w:=
 ex_of (x:=Instr.lookup t (.map (some g)) (ek x) true) (fun a ha=>by unfold execOp; simp only [ho,ha.eval hm,ha.eval hy]) (by
   obtain ⟨es,c,kv,hb,hkv⟩:=H.mp hk
   obtain ⟨l,hl⟩:=T.key x hx
   rcases hkv.find T w hx with ⟨h1,h2⟩ | ⟨j,a,h1,h2,h3,_⟩
   · rw [h1]; simp [Instr.lookup,run_underlying T.ht,MapKept.run_getObj_map hb,T.K.check w _ hl,h2,run_ze hz,Result.andThen]
   · rw [h1]; simp [Instr.lookup,run_underlying T.ht,MapKept.run_getObj_map hb,T.K.check w _ hl,h3,Result.andThen])
theorem x_lookup1 {t k e:TypeId} {m y:Operand} {g:Nat} {x:κ} {z:Value} (T:MapTy P t k e ek ok) (H:S w L) (k0:Nat) (hk:L[k0]?=some (Mp ek va ok g M)) (ho:o.op=.lookup t m y false) (hm:evo f m=some (.map (some g))) (hy:evo f y=some (ek x)) (hx:ok x) (hz:zeO P e=some z) :
   Ex P N f ds o w (((M x).map va).getD z) w:=
 ex_of (x:=Instr.lookup t (.map (some g)) (ek x) false) (fun a ha=>by unfold execOp; simp only [ho,ha.eval hm,ha.eval hy]) (by
   obtain ⟨es,c,kv,hb,hkv⟩:=H.mp hk
   obtain ⟨l,hl⟩:=T.key x hx
   rcases hkv.find T w hx with ⟨h1,h2⟩ | ⟨j,a,h1,h2,h3,_⟩
   · rw [h1]; simp [Instr.lookup,run_underlying T.ht,MapKept.run_getObj_map hb,T.K.check w _ hl,h2,run_ze hz,Result.andThen]
   · rw [h1]; simp [Instr.lookup,run_underlying T.ht,MapKept.run_getObj_map hb,T.K.check w _ hl,h3,Result.andThen])
theorem same_setBlock (w:World) (b:Nat) (o:Obj):Same (fun k=>k ≠ b) w (setBlock w b o):=
 ⟨rfl,rfl,rfl,by simp [setBlock],fun k hk=>by simp only [setBlock]; rw [Array.getElem?_setIfInBounds_ne (fun e=>hk e.symm)]⟩
theorem heap_setBlock {w:World} {b:Nat} {o o':Obj} (h:w.heap[b]?=some o):(setBlock w b o').heap[b]?=some o':=by
 have hl:b<w.heap.size:=(Array.getElem?_eq_some_iff.1 h).1
 simp [setBlock,hl]
theorem s_mapUpdate [DecidableEq κ] {t k e:TypeId} {m y z:Operand} {g:Nat} {x:κ} {a:α} (T:MapTy P t k e ek ok) (H:S w L) (k0:Nat) (hw:Wt ops f o) (hd:o.dst=none) (hk:L[k0]?=some (Mp ek va ok g M)) (ho:o.op=.mapUpdate t m y z) (hm:evo f m=some (.map (some g))) (hy:evo f y=some (ek x)) (hz:evo f z=some (va a)) (hx:ok x)
   (h:∀ w',S w' (L.set k0 (Mp ek va ok g (upM M x a)))→G N K f ds w'):G N (StepK P ops Q o K) f ds w:=by
 obtain ⟨es,c,kv,hb,hkv⟩:=H.mp hk
 obtain ⟨l,hl⟩:=T.key x hx
 have hrun:∃ es' c' kv',(Instr.mapUpdate t (.map (some g)) (ek x) (va a)).run P w=.ok () (setBlock w g (.map es' c'))∧KV ek va ok (upM M x a) es' c' kv':=by
   rcases hkv.find T w hx with ⟨h1,h2⟩ | ⟨j,b,h1,h2,h3,q,hq,hqk⟩
   · refine ⟨es.push ⟨ek x,va a,c⟩,c+1,_,?_,hkv.push T hx h1⟩
     simp [Instr.mapUpdate,run_underlying T.ht,MapKept.run_getObj_map hb,T.K.check w _ hl,h2,MapKept.run_setObj_map _ hb,Result.andThen,setBlock]
   · refine ⟨_,c,_,?_,hkv.set T hx h2⟩
     have hq':es[j]?=some q:=by simpa using hq
     simp [Instr.mapUpdate,run_underlying T.ht,MapKept.run_getObj_map hb,T.K.check w _ hl,h3,hq',hqk,T.K.stays w hl,MapKept.run_setObj_map _ hb,Result.andThen,setBlock]
 obtain ⟨es',c',kv',hrun,hkv'⟩:=hrun
 refine s_unit hw hd (w':=setBlock w g (.map es' c')) (fun a' ha=>by unfold execOp; simp only [ho,ha.eval hm,ha.eval hy,ha.eval hz,Sem.run_bind,hrun,Result.andThen_ok,Sem.run_pure]) (h _ ?_)
 exact H.turn hk ((same_setBlock w g _).less fun j hj=>hj.2) ⟨es',c',kv',heap_setBlock hb,hkv'⟩ (fun j hj=>by
   have:j=g:=hj
   exact ⟨.inl this,Nat.lt_of_lt_of_le (H.lt hk this) (same_setBlock w g _).size⟩)
theorem s_makeMap {t d:TypeId} (ek:κ→Value) (va:α→Value) (ok:κ→Prop) (H:S w L) (hw:Wt ops f o) (hd:o.dst=some d) (hN:Nat.blt d N=true) (ho:o.op=.makeMap t none)
   (h:∀ g w',S w' (Mp ek va ok g (fun _=>(none:Option α)) :: L)→G N K ((d,.map (some g)) :: f) ds w'):G N (StepK P ops Q o K) f ds w:=by
 refine s_val hw hd hN (ex_of (v:=.map (some w.heap.size)) (w':=w.alloc (.map #[] 0)) (x:=Instr.makeMap t none) (fun a ha=>by unfold execOp; simp only [ho,Option.map_none]) (by simp [Instr.makeMap,newObj,Sem.run,Result.andThen])) (h _ _ ?_)
 have h1:=H.alloc (.map #[] 0)
 obtain ⟨a1,a2,a3⟩:=h1.head
 have hkv:KV ek va ok (fun _=>(none:Option α)) #[] 0 []:=⟨rfl,List.nodup_nil,fun p hp=>absurd hp (List.not_mem_nil),List.nodup_nil,fun e he=>absurd he (List.not_mem_nil),fun p=>⟨fun h=>absurd h (List.not_mem_nil),fun h=>absurd h.2 (by simp)⟩⟩
 exact h1.tail.cons ⟨#[],0,[],a1,hkv⟩ a2 a3
end
end Go.Proofs.YtpbjekdjebjbkaaGreatDoor
namespace Go.Proofs.YtpbjekdjebjbkaaGreatDoor
open Go.RowKit
section
variable {P:Program} {N:Nat} {Q:Exit→Act→World→Prop} {f:Fr} {ds:List Deferred} {w w':World} {o:Oper} {ops:Array Oper} {L:List Item} {n:Nat}
end
def placeV (x:Nat × Nat):Value:=.agg #[.int .i64 (x.1:Int),.int .i64 (x.2:Int)]
def placeOk (x:Nat × Nat):Prop:=x.1≤1099511627776∧x.2≤1099511627776
end Go.Proofs.YtpbjekdjebjbkaaGreatDoor
