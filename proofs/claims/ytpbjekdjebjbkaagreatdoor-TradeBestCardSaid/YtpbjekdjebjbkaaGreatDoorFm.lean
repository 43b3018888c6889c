import Derived.Test.YtpbjekdjebjbkaaGreatDoorFj
import Derived.Test.YtpbjekdjebjbkaaGreatDoorProg
import Derived.Test.YtpbjekdjebjbkaaGreatDoorGw
set_option linter.unusedSimpArgs false
set_option linter.unusedVariables false
namespace Go.Proofs.YtpbjekdjebjbkaaGreatDoor
open Go.RowKit Go.Deep
def lk1 (k:Nat):List (Nat × Nat)→Option Nat
 | []=>none
 | (a,b) :: r=>bif Nat.beq a k then some b else lk1 k r
def lk2 (k i:Nat):List (Nat × Nat × Nat)→Option Nat
 | []=>none
 | (a,b,c) :: r=>bif Nat.beq a k && Nat.beq b i then some c else lk2 k i r
def unL:List (Nat × Nat):=[(3,0),(4,0),(5,0),(9,0),(22,0),(29,0),(39,0),(43,0),(56,0),(59,0),(63,0),(76,0),(97,0),(98,0),(99,0),(109,0),(124,0),(134,0),(135,0),(137,0),(180,0),(189,0),(204,0),(209,0)]
def szL:List (Nat × Nat):=[(3,1),(4,1),(5,1),(9,1),(22,1),(27,2),(29,1),(37,4),(39,1),(43,1),(56,1),(58,1),(59,1),(61,7),(63,1),(66,5),(76,1),(97,1),(98,1),(99,1),(101,3),(109,1),(111,10),(124,1),(134,1),(135,1),(137,1),(144,20),(153,32),(154,64),(173,4),(176,4),(180,1),(189,1),(204,1),(209,1),(223,4),(225,4),(228,5)]
def foL:List (Nat × Nat × Nat):=[(27,0,0),(27,1,1),(37,0,0),(37,1,1),(37,2,2),(58,0,0),(61,0,0),(61,1,1),(61,2,2),(61,3,3),(61,4,4),(61,5,5),(61,6,6),(66,0,0),(66,1,1),(66,2,2),(66,3,3),(66,4,4),(101,0,0),(101,1,1),(101,2,2),(111,0,0),(111,1,1),(111,2,2),(111,3,3),(111,4,4),(111,5,5),(111,6,6),(111,7,7),(111,8,8),(111,9,9),(176,0,0),(176,1,1),(176,2,2),(176,3,3),(225,0,0),(228,0,0),(228,1,4)]
def slL:List (Nat × Nat):=[(22,27),(23,37),(39,43),(43,3),(56,39),(59,63),(75,76),(76,4),(109,111),(140,5),(189,180)]
def isS (o:Option TypeDesc) (n:Nat):Bool:=match o with
 | some (.slice e)=>Nat.beq e n
 | _=>false
def isO (o:Option Nat) (n:Nat):Bool:=match o with
 | some m=>Nat.beq m n
 | none=>false
theorem isO_eq {o:Option Nat} {n:Nat} (h:isO o n=true):o=some n:=by
 cases o with
 | none=>exact absurd h (by simp [isO])
 | some m=>exact congrArg some (Nat.eq_of_beq_eq_true h)
theorem lk1_of {k n:Nat} {Q:Nat→Nat→Bool}:∀ {l:List (Nat × Nat)},l.all (fun e=>Q e.1 e.2)=true→lk1 k l=some n→Q k n=true
 | [],_,h=>absurd h (by simp [lk1])
 | (a,b) :: r,h,hk=>by
   rw [List.all_cons,Bool.and_eq_true] at h
   unfold lk1 at hk
   cases e:Nat.beq a k with
   | false=>rw [e] at hk; exact lk1_of h.2 hk
   | true =>
     rw [e] at hk
     cases hk
     have:=Nat.eq_of_beq_eq_true e
     subst this
     exact h.1
theorem lk2_of {k i n:Nat} {Q:Nat→Nat→Nat→Bool}:∀ {l:List (Nat × Nat × Nat)},l.all (fun e=>Q e.1 e.2.1 e.2.2)=true→lk2 k i l=some n→Q k i n=true
 | [],_,h=>absurd h (by simp [lk2])
 | (a,b,c) :: r,h,hk=>by
   rw [List.all_cons,Bool.and_eq_true] at h
   unfold lk2 at hk
   cases e:(Nat.beq a k && Nat.beq b i) with
   | false=>rw [e] at hk; exact lk2_of h.2 hk
   | true =>
     rw [e] at hk
     cases hk
     rw [Bool.and_eq_true] at e
     have h1:=Nat.eq_of_beq_eq_true e.1
     have h2:=Nat.eq_of_beq_eq_true e.2
     subst h1 h2
     exact h.1
theorem unB_all:unL.all (fun e=>(Tryz.prog.underlying e.1).elim false fun d=>!(aggB d))=true:=by kernel_rfl
theorem szB_all:szL.all (fun e=>isO (szO Tryz.prog e.1) e.2)=true:=by kernel_rfl
theorem foB_all:foL.all (fun e=>isO (foO Tryz.prog e.1 e.2.1) e.2.2)=true:=by kernel_rfl
theorem unT {t:Nat} (h:lk1 t unL=some 0):∃ d,Tryz.prog.underlying t=some d∧aggB d=false:=by
 have h1:((Tryz.prog.underlying t).elim false fun d=>!(aggB d))=true:=lk1_of (Q:=fun a _=>(Tryz.prog.underlying a).elim false fun d=>!(aggB d)) unB_all h
 cases e:Tryz.prog.underlying t with
 | none=>rw [e] at h1; cases h1
 | some d=>rw [e] at h1; exact ⟨d,rfl,by simpa using h1⟩
theorem szT {t n:Nat} (h:lk1 t szL=some n):szO Tryz.prog t=some n:=isO_eq (lk1_of (Q:=fun a b=>isO (szO Tryz.prog a) b) szB_all h)
theorem foT {s i n:Nat} (h:lk2 s i foL=some n):foO Tryz.prog s i=some n:=isO_eq (lk2_of (Q:=fun a b c=>isO (foO Tryz.prog a b) c) foB_all h)
theorem slB_all:slL.all (fun e=>isS (Tryz.prog.underlying e.1) e.2)=true:=by kernel_rfl
theorem isS_eq {o:Option TypeDesc} {n:Nat} (h:isS o n=true):o=some (.slice n):=by
 unfold isS at h
 split at h
 · exact congrArg (fun e=>some (TypeDesc.slice e)) (Nat.eq_of_beq_eq_true h)
 · cases h
theorem slT {t e:Nat} (h:lk1 t slL=some e):Tryz.prog.underlying t=some (.slice e):=isS_eq (lk1_of (Q:=fun a b=>isS (Tryz.prog.underlying a) b) slB_all h)
section
variable {P:Program} {N:Nat} {Q:Exit→Act→World→Prop} {f:Fr} {ds:List Deferred} {w w':World} {o:Oper} {ops:Array Oper} {rest:List Oper} {L:List Item} {d:Nat} {v:Value}
theorem w_s {y:Code} {id:Nat} {l:List Oper} (h:G N (wpList P l.toArray (Exit.then (y.wp P Q) Q) l) f ds w):G N ((Code.seq (Code.region id l.toArray false) y).wp P Q) f ds w:=g_seq (g_region h)
theorem w_e {K:Act→World→Prop} (h:G N K f ds w):G N (wpList P ops (Exit.then K Q) []) f ds w:=g_nil (g_then h)
theorem w_v (hx:Ex P N f ds o w v w') (h:G N (wpList P ops Q rest) ((d,v) :: f) ds w') (hg:o.guard=none:=by rfl) (hd:o.dst=some d:=by rfl) (hN:Nat.blt d N=true:=by rfl):G N (wpList P ops Q (o :: rest)) f ds w:=l_of (s_val (wt0 hg) hd hN hx h)
theorem w_g {j:Nat} {b b':Bool} {oj:Oper} {dj:Nat} (h4:b'=b) (hx:Ex P N f ds o w v w') (h:G N (wpList P ops Q rest) ((d,v) :: f) ds w') (h0:o.guard=some (j,b):=by rfl) (h1:ops[j]?=some oj:=by rfl) (h2:oj.dst=some dj:=by rfl) (h3:gt f dj=some (.bool b'):=by rfl) (hd:o.dst=some d:=by rfl) (hN:Nat.blt d N=true:=by rfl):G N (wpList P ops Q (o :: rest)) f ds w:=l_of (s_val (wt1 h0 h1 h2 h3 h4) hd hN hx h)
theorem w_m {x:Operand} (h:G N (wpList P ops Q rest) ((d,v) :: f) ds w) (hg:o.guard=none:=by rfl) (hd:o.dst=some d:=by rfl) (hN:Nat.blt d N=true:=by rfl) (ho:o.op=.move x:=by rfl) (hx:evo f x=some v:=by rfl):G N (wpList P ops Q (o :: rest)) f ds w:=l_of (s_val (wt0 hg) hd hN (x_move ho hx) h)
theorem w_a {x:Operand} (h:G N (wpList P ops Q rest) ((d,v) :: f) ds w) (hg:o.guard=none:=by rfl) (hd:o.dst=some d:=by rfl) (hN:Nat.blt d N=true:=by rfl) (ho:o.op=.assign x:=by rfl) (hx:evo f x=some v:=by rfl):G N (wpList P ops Q (o :: rest)) f ds w:=l_of (s_val (wt0 hg) hd hN (x_assign ho hx) h)
theorem w_f {s i n:Nat} {x:Operand} {g off:Nat} (off':Nat) (h:G N (wpList P ops Q rest) ((d,.pointer (some ⟨g,off',none⟩)) :: f) ds w) (hg:o.guard=none:=by rfl) (hd:o.dst=some d:=by rfl) (hN:Nat.blt d N=true:=by rfl) (ho:o.op=.fieldAddr s x i:=by rfl) (hx:evo f x=some (.pointer (some ⟨g,off,none⟩)):=by rfl) (hf:foO P s i=some n:=by exact foT rfl) (he:off+n=off':=by rfl) :
   G N (wpList P ops Q (o :: rest)) f ds w:=l_of (s_val (wt0 hg) hd hN (x_fieldAddr ho hx hf he) h)
theorem w_1 {t:TypeId} {x:Operand} {g i:Nat} {cs:Array Value} {e:TypeId} {fr:Nat × Nat} (H:S w L) (k:Nat) (h:G N (wpList P ops Q rest) ((d,v) :: f) ds w) (hg:o.guard=none:=by rfl) (hd:o.dst=some d:=by rfl) (hN:Nat.blt d N=true:=by rfl) (ho:o.op=.load t x:=by rfl) (hx:evo f x=some (.pointer (some ⟨g,i,none⟩)):=by rfl) (hu:∃ dd,P.underlying t=some dd∧aggB dd=false:=by exact unT rfl)
   (hk:L[k]?=some (Ob g (.cells cs e fr)):=by rfl) (hv:cs[i]?=some v:=by rfl):G N (wpList P ops Q (o :: rest)) f ds w:=by
 obtain ⟨dd,q1,q2⟩:=hu
 exact l_of (s_val (wt0 hg) hd hN (x_load1 H k ho hx q1 q2 hk hv) h)
theorem w_b {op:BinOp} {t ty:TypeId} {x y:Operand} {vx vy:Value} (h:G N (wpList P ops Q rest) ((d,v) :: f) ds w) (hg:o.guard=none:=by rfl) (hd:o.dst=some d:=by rfl) (hN:Nat.blt d N=true:=by rfl) (ho:o.op=.binOp op t x y ty:=by rfl) (hx:evo f x=some vx:=by rfl) (hy:evo f y=some vy:=by rfl) (hb:Bin P op t x y vx vy w v:=by first | exact b_eql | exact b_lss | exact b_leq | exact b_gtr | exact b_geq):G N (wpList P ops Q (o :: rest)) f ds w:=l_of (s_val (wt0 hg) hd hN (x_bin ho hx hy hb) h)
theorem w_n {j:Nat} {b b':Bool} {oj:Oper} {dj:Nat} (h4:b'=!b) (h:G N (wpList P ops Q rest) ((d,undef) :: f) ds w) (h0:o.guard=some (j,b):=by rfl) (h1:ops[j]?=some oj:=by rfl) (h2:oj.dst=some dj:=by rfl) (h3:gt f dj=some (.bool b'):=by rfl) (hd:o.dst=some d:=by rfl) (hN:Nat.blt d N=true:=by rfl):G N (wpList P ops Q (o :: rest)) f ds w:=l_of (s_not (wn1 h0 h1 h2 h3 h4) hd hN h)
theorem xf {s i n:Nat} {x:Operand} {g off:Nat} (off':Nat) (ho:o.op=.fieldAddr s x i:=by rfl) (hx:evo f x=some (.pointer (some ⟨g,off,none⟩)):=by rfl) (hf:foO P s i=some n:=by exact foT rfl) (he:off+n=off':=by rfl):Ex P N f ds o w (.pointer (some ⟨g,off',none⟩)) w:=x_fieldAddr ho hx hf he
theorem xl {t:TypeId} {x:Operand} {g i:Nat} {cs:Array Value} {e:TypeId} {fr:Nat × Nat} (H:S w L) (k:Nat) (ho:o.op=.load t x:=by rfl) (hx:evo f x=some (.pointer (some ⟨g,i,none⟩)):=by rfl) (hu:∃ dd,P.underlying t=some dd∧aggB dd=false:=by exact unT rfl) (hk:L[k]?=some (Ob g (.cells cs e fr)):=by rfl) (hv:cs[i]?=some v:=by rfl):Ex P N f ds o w v w:=by
 obtain ⟨dd,q1,q2⟩:=hu
 exact x_load1 H k ho hx q1 q2 hk hv
theorem xm {x:Operand} (ho:o.op=.move x:=by rfl) (hx:evo f x=some v:=by rfl):Ex P N f ds o w v w:=x_move ho hx
theorem xa {x:Operand} (ho:o.op=.assign x:=by rfl) (hx:evo f x=some v:=by rfl):Ex P N f ds o w v w:=x_assign ho hx
theorem xn {x:Operand} {p:Addr} (ho:o.op=.nilCheck x:=by rfl) (hx:evo f x=some (.pointer (some p)):=by rfl):Ex P N f ds o w (.pointer (some p)) w:=x_nilCheck ho hx
theorem xe {x:Operand} {i:Nat} {vs:Array Value} (ho:o.op=.extract x i:=by rfl) (hx:evo f x=some (.tuple vs):=by rfl) (hv:vs[i]?=some v:=by rfl):Ex P N f ds o w v w:=x_extract ho hx hv
theorem w_st {K:Act→World→Prop} {t:TypeId} {x y:Operand} {g i:Nat} {cs:Array Value} {e:TypeId} (cs':Array Value) (H:S w L) (k:Nat) (h:∀ w',S w' (L.set k (Ob g (.cells cs' e (0,0))))→G N K f ds w') (hg:o.guard=none:=by rfl) (hd:o.dst=none:=by rfl) (ho:o.op=.store t x y:=by rfl) (hx:evo f x=some (.pointer (some ⟨g,i,none⟩)):=by rfl)
   (hy:evo f y=some v:=by rfl) (hk:L[k]?=some (Ob g (.cells cs e (0,0))):=by rfl) (hn:szO P t=some v.cells.size:=by exact szT rfl) (hl:Nat.ble (i+v.cells.size) cs.size=true:=by rfl) (h1:v.cells.toList.all (·.oneCell')=true:=by rfl)
   (hc:(cs.toList.take i++v.cells.toList++cs.toList.drop (i+v.cells.size)).toArray=cs':=by rfl):G N (StepK P ops Q o K) f ds w:=s_store H k (wt0 hg) hd ho hx hy hk hn hl h1 hc h
theorem xf0 {s i n:Nat} {x:Operand} {g off:Nat} (ho:o.op=.fieldAddr s x i:=by rfl) (hx:evo f x=some (.pointer (some ⟨g,off,none⟩)):=by rfl) (hf:foO P s i=some n:=by exact foT rfl):Ex P N f ds o w (.pointer (some ⟨g,off+n,none⟩)) w:=x_fieldAddr ho hx hf rfl
theorem s_call0 {K:Act→World→Prop} {g:FuncId} {vs:List Value} (H:S w L) (hw:Wt ops f o) (hx:ExC P N f ds o w g vs w) (hc:Calls P g vs.toArray w (fun e w'=>e=.returned v∧S w' [Old w no])) (hd:o.dst=some d) (hN:Nat.blt d N=true)
   (h:∀ w',S w' L→G N K ((d,v) :: f) ds w'):G N (StepK P ops Q o K) f ds w:=
 s_call hw hx hc fun e w'' he=>by
   obtain ⟨rfl,h2⟩:=he
   exact b_ret hd hN (h _ (H.absorb (new:=[]) h2))
end
section
variable {P:Program} {N:Nat} {ops:Array Oper} {Q:Exit→Act→World→Prop} {md:Region.Mode} {C:World→Prop} {T:List Nat} {f:Fr} {ds:List Deferred} {w:World} {listed:Array Bool} {fuel:Nat}
theorem and4 {a b c d:Bool} (h:(a && b && c && d)=true):a=true∧b=true∧c=true∧d=true:=by
 cases a <;> cases b <;> cases c <;> cases d <;> simp at h ⊢
theorem w_t {f0:Fr} {d:Nat} {o:Oper} {v:Value} (i:Nat) (hi:ops[i]?=some o) (hC:C w) (hx:∀ w,C w→Ex P N f ds o w v w)
   (h:G N (wpAnyX P md ops (PanP N f0 ds Q) C T fuel (listed.setIfInBounds i true)) ((d,v) :: f) ds w) (hg:o.guard=none:=by rfl) (hd:o.dst=some d:=by rfl) (hN:Nat.blt d N=true:=by rfl) (h0:gt f0 d=none:=by rfl) (hB:(Region.noSelect ops && Region.free md ops listed i && (Region.ready md ops listed).contains i && waits md ops T i)=true:=by kernel_rfl):G N (wpAnyX P md ops (PanP N f0 ds Q) C T (fuel+1) listed) f ds w:=
 a_take i hi (wt0 hg) hd hN h0 (and4 hB).1 (and4 hB).2.1 (and4 hB).2.2.1 (and4 hB).2.2.2 hC hx h
theorem w_tg {f0:Fr} {d:Nat} {o:Oper} {v:Value} {j:Nat} {b b':Bool} {oj:Oper} {dj:Nat} (i:Nat) (hi:ops[i]?=some o) (h4:b'=b) (hC:C w) (hx:∀ w,C w→Ex P N f ds o w v w)
   (h:G N (wpAnyX P md ops (PanP N f0 ds Q) C T fuel (listed.setIfInBounds i true)) ((d,v) :: f) ds w) (g0:o.guard=some (j,b):=by rfl) (g1:ops[j]?=some oj:=by rfl) (g2:oj.dst=some dj:=by rfl) (g3:gt f dj=some (.bool b'):=by rfl) (hd:o.dst=some d:=by rfl) (hN:Nat.blt d N=true:=by rfl) (h0:gt f0 d=none:=by rfl) (hB:(Region.noSelect ops && Region.free md ops listed i && (Region.ready md ops listed).contains i && waits md ops T i)=true:=by kernel_rfl):G N (wpAnyX P md ops (PanP N f0 ds Q) C T (fuel+1) listed) f ds w:=
 a_take i hi (wt1 g0 g1 g2 g3 h4) hd hN h0 (and4 hB).1 (and4 hB).2.1 (and4 hB).2.2.1 (and4 hB).2.2.2 hC hx h
theorem w_tn {f0:Fr} {d:Nat} {o:Oper} {j:Nat} {b b':Bool} {oj:Oper} {dj:Nat} (i:Nat) (hi:ops[i]?=some o) (h4:b'=!b) (hC:C w)
   (h:G N (wpAnyX P md ops (PanP N f0 ds Q) C T fuel (listed.setIfInBounds i true)) ((d,undef) :: f) ds w) (g0:o.guard=some (j,b):=by rfl) (g1:ops[j]?=some oj:=by rfl) (g2:oj.dst=some dj:=by rfl) (g3:gt f dj=some (.bool b'):=by rfl) (hd:o.dst=some d:=by rfl) (hN:Nat.blt d N=true:=by rfl) (h0:gt f0 d=none:=by rfl) (hB:(Region.noSelect ops && Region.free md ops listed i && (Region.ready md ops listed).contains i && waits md ops T i)=true:=by kernel_rfl):G N (wpAnyX P md ops (PanP N f0 ds Q) C T (fuel+1) listed) f ds w:=
 a_not i hi (wn1 g0 g1 g2 g3 h4) hd hN h0 (and4 hB).1 (and4 hB).2.1 (and4 hB).2.2.1 (and4 hB).2.2.2 hC h
theorem w_y {C0:World→Prop} {f0:Fr} {d:Nat} {o:Oper} {v:Value} (i:Nat) (hi:ops[i]?=some o) (hw:Wt ops f o) (hd:o.dst=some d) (hN:Nat.blt d N=true) (h0:gt f0 d=none) (hB:(Region.noSelect ops && Region.free md ops listed i && (Region.ready md ops listed).contains i && closedB md ops listed)=true) (hx:∀ w,Ex P N f ds o w v w)
   (h:G N (wpAnyY P md ops (PanP N f0 ds Q) C C0 T fuel (listed.setIfInBounds i true)) ((d,v) :: f) ds w):G N (wpAnyY P md ops (PanP N f0 ds Q) C C0 T (fuel+1) listed) f ds w:=
 y_pure i hi hw hd hN h0 (and4 hB).1 (and4 hB).2.1 (and4 hB).2.2.1 (and4 hB).2.2.2 hx h
end
theorem w_r2 {A B:Prop} (b:B) (h:B→A:=by intro k; (iterate 2 first | refine w_m ?_ | refine w_a ?_ | refine w_v xf0 ?_ | refine w_v xn ?_ | refine w_v xe ?_); exact k):A:=h b
theorem w_r3 {A B:Prop} (b:B) (h:B→A:=by intro k; (iterate 3 first | refine w_m ?_ | refine w_a ?_ | refine w_v xf0 ?_ | refine w_v xn ?_ | refine w_v xe ?_); exact k):A:=h b
theorem w_r4 {A B:Prop} (b:B) (h:B→A:=by intro k; (iterate 4 first | refine w_m ?_ | refine w_a ?_ | refine w_v xf0 ?_ | refine w_v xn ?_ | refine w_v xe ?_); exact k):A:=h b
theorem w_r5 {A B:Prop} (b:B) (h:B→A:=by intro k; (iterate 5 first | refine w_m ?_ | refine w_a ?_ | refine w_v xf0 ?_ | refine w_v xn ?_ | refine w_v xe ?_); exact k):A:=h b
theorem w_r6 {A B:Prop} (b:B) (h:B→A:=by intro k; (iterate 6 first | refine w_m ?_ | refine w_a ?_ | refine w_v xf0 ?_ | refine w_v xn ?_ | refine w_v xe ?_); exact k):A:=h b
end Go.Proofs.YtpbjekdjebjbkaaGreatDoor
namespace Go.Proofs.YtpbjekdjebjbkaaGreatDoor
open Go.RowKit
structure Enc {α:Type} (size:Nat) (enc:α→List Value):Prop where
 pos:0<size
 len:∀ x,(enc x).length=size
 one:∀ x,(enc x).all (·.oneCell')=true
def fl {α:Type} (enc:α→List Value) (l:List α):List Value:=l.flatMap enc
section
variable {α:Type} {enc:α→List Value} {size:Nat}
theorem fl_app (enc:α→List Value) (a b:List α):fl enc (a++b)=fl enc a++fl enc b:=List.flatMap_append ..
theorem Enc.flLen (E:Enc size enc) (l:List α):(fl enc l).length=l.length * size:=flat_length fun x _=>E.len x
theorem Enc.flAt (E:Enc size enc) {l:List α} {j:Nat} {x:α} (h:l[j]?=some x):∀ i u,(enc x)[i]?=some u→(fl enc l)[j * size+i]?=some u:=flat_at (fun x _=>E.len x) h
theorem Enc.flAt1 (E:Enc 1 enc) {l:List α} {j:Nat} {x:α} {v:Value} (h:l[j]?=some x) (hv:enc x=[v]):(fl enc l)[j * 1]?=some v:=by
 have:=E.flAt h 0 v (by rw [hv]; rfl)
 simpa using this
theorem Enc.flOne (E:Enc size enc) (l:List α):(fl enc l).all (·.oneCell')=true:=by
 rw [List.all_eq_true]; intro v hv
 obtain ⟨x,_,h⟩:=List.mem_flatMap.1 hv
 exact List.all_eq_true.1 (E.one x) v h
theorem Enc.flTake (E:Enc size enc):∀ (l:List α) (k:Nat),(fl enc l).take (k * size)=fl enc (l.take k)
 | l,0=>by simp [fl]
 | [],k+1=>by simp [fl]
 | a :: l,k+1=>by
   show (enc a++fl enc l).take ((k+1) * size)=enc a++fl enc (l.take k)
   rw [show (k+1) * size=(enc a).length+k * size by rw [E.len,Nat.succ_mul]; omega,List.take_length_add_append,E.flTake l k]
theorem Enc.flDrop (E:Enc size enc):∀ (l:List α) (k:Nat),(fl enc l).drop (k * size)=fl enc (l.drop k)
 | l,0=>by simp [fl]
 | [],k+1=>by simp [fl]
 | a :: l,k+1=>by
   show (enc a++fl enc l).drop ((k+1) * size)=fl enc (l.drop k)
   rw [show (k+1) * size=(enc a).length+k * size by rw [E.len,Nat.succ_mul]; omega,List.drop_length_add_append,E.flDrop l k]
theorem Enc.flSet (E:Enc size enc) {l:List α} {i:Nat} (y:α) (h:i<l.length):(fl enc l).take (i * size)++enc y++(fl enc l).drop (i * size+size)=fl enc (l.set i y):=by
 rw [show i * size+size=(i+1) * size by rw [Nat.succ_mul],E.flTake,E.flDrop,List.set_eq_take_append_cons_drop,if_pos h,fl_app,List.append_assoc]; rfl
theorem ex_at {l:List α} {j:Nat} (h:j<l.length):∃ x,l[j]?=some x:=⟨_,List.getElem?_eq_getElem h⟩
variable {w:World} {p:Option Addr} {n c:Nat} {l:List α}
theorem Reads.lenL (hr:Reads w p n c size (fl enc l)) (E:Enc size enc):n=l.length:=by
 have h1:=hr.1
 rw [E.flLen] at h1
 exact (Nat.eq_of_mul_eq_mul_right E.pos h1).symm
theorem Reads.takeL (hr:Reads w p n c size (fl enc l)) (E:Enc size enc) (k:Nat) (hk:k≤n):Reads w p k c size (fl enc (l.take k)):=by
 have:=hr.take k hk
 rwa [E.flTake] at this
theorem cutP0 (p:Option Addr) (c size:Nat):cutP p 0 c size=p:=by
 unfold cutP
 split
 · rfl
 · cases p with
   | none=>rfl
   | some a=>show some (a.add (0 * size))=some a; rw [Nat.zero_mul]; unfold Addr.add; rfl
theorem Reads.midL (hr:Reads w p n c size (fl enc l)) (E:Enc size enc) (a b:Nat) (hab:a≤b) (hb:b≤n):Reads w (cutP p a c size) (b - a) (c - a) size (fl enc ((l.drop a).take (b - a))):=by
 have:=hr.cut a b hab hb
 rwa [E.flDrop,E.flTake] at this
theorem Reads.cutL (hr:Reads w p n c size (fl enc l)) (E:Enc size enc) (a:Nat) (ha:a≤n):Reads w (cutP p a c size) (n - a) (c - a) size (fl enc (l.drop a)):=by
 have h:=hr.midL E a n ha (Nat.le_refl _)
 have hn:=hr.lenL E
 rwa [List.take_of_length_le (by rw [List.length_drop]; omega)] at h
theorem Reads.cutLn (hr:Reads w p n c size (fl enc l)) (E:Enc size enc) (a:Nat) (ha:a≤n):Reads w (cutP p a c size) (l.drop a).length (c - a) size (fl enc (l.drop a)):=by
 have h:=hr.cutL E a ha
 rwa [hr.lenL E,← List.length_drop] at h
theorem Reads.some (hr:Reads w p n c size (fl enc l)) (h:0<n):∃ a,p=some a:=by
 obtain ⟨a,ha,_⟩:=hr.2.2 h
 exact ⟨a,ha⟩
end
section
variable {P:Program} {N:Nat} {Q:Exit→Act→World→Prop} {f:Fr} {ds:List Deferred} {w w':World} {o:Oper} {ops:Array Oper} {L:List Item} {K:Act→World→Prop} {α:Type} {enc:α→List Value}
theorem S.nilFl (h:S w L) (e size:Nat) (enc:α→List Value):S w (Rw e size none 0 0 (fl enc []) :: L):=h.nilRw e size
theorem s_appL {d t e size bytes n m c sc:Nat} {s x:Operand} {z:Value} {p q:Option Addr} {l l2:List α} (E:Enc size enc) (H:S w L) (k:Nat) (hw:Wt ops f o) (hd:o.dst=some d) (hN:Nat.blt d N=true)
   (ho:o.op=.call { callee:=.builtin .append,args:=#[s,x],argTypes:=#[t,t] }) (hs:evo f s=some (.slice p n sc)) (hx:evo f x=some (.slice q m c)) (hk:L[k]?=some (Rw e size p n sc (fl enc l)))
   (ht:P.underlying t=some (.slice e)) (hi:infO P e=some (some z,size,bytes)) (hz:z.cells.size=size) (hb0:0<bytes) (hr:Reads w q m c size (fl enc l2)) (hb:(n+m) * bytes≤140737488355328)
   (h:∀ p' c' w',S w' (L.set k (Rw e size p' (n+m) c' (fl enc (l++l2))))→G N K ((d,.slice p' (n+m) c') :: f) ds w'):G N (StepK P ops Q o K) f ds w:=
 s_appendW H k hw hd hN ho hs hx hk ht hi hz E.pos hb0 hr (E.flOne l2) hb fun p' c' w' h9=>h p' c' w' (by rw [fl_app]; exact h9)
theorem s_appB {d t e size bytes n m c sc g:Nat} {s x:Operand} {z:Value} {p:Option Addr} {l l2:List α} {cs:Array Value} (E:Enc size enc) (H:S w L) (k:Nat) {j0:Nat} (hj:L[j0]?=some (Ob g (.cells cs e (0,0)))) (hcs:cs.toList=fl enc l2) (hm:m=l2.length∧m≤c) (hw:Wt ops f o) (hd:o.dst=some d) (hN:Nat.blt d N=true)
   (ho:o.op=.call { callee:=.builtin .append,args:=#[s,x],argTypes:=#[t,t] }) (hs:evo f s=some (.slice p n sc)) (hx:evo f x=some (.slice (some ⟨g,0,none⟩) m c)) (hk:L[k]?=some (Rw e size p n sc (fl enc l)))
   (ht:P.underlying t=some (.slice e)) (hi:infO P e=some (some z,size,bytes)) (hz:z.cells.size=size) (hb0:0<bytes) (hb:(n+m) * bytes≤140737488355328)
   (h:∀ p' c' w',S w' (L.set k (Rw e size p' (n+m) c' (fl enc (l++l2))))→G N K ((d,.slice p' (n+m) c') :: f) ds w'):G N (StepK P ops Q o K) f ds w:=
 s_appL E H k hw hd hN ho hs hx hk ht hi hz hb0 ⟨by rw [E.flLen,hm.1],hm.2,fun _=>⟨_,rfl,fun j u hu=>news_ob H hj j u (by rw [hcs]; exact hu)⟩⟩ hb h
theorem s_stoL {t e size n c j:Nat} {x y:Operand} {p:Option Addr} {l:List α} {v:Value} (E:Enc size enc) (b:α) (H:S w L) (k:Nat) (hw:Wt ops f o) (hd:o.dst=none) (ho:o.op=.store t x y) (hx:evo f x=some (.pointer (p.map fun q=>q.add (j * size))))
   (hy:evo f y=some v) (hk:L[k]?=some (Rw e size p n c (fl enc l))) (hv:v.cells.toList=enc b) (hn:szO P t=some size) (hj:j<n)
   (h:∀ w',S w' (L.set k (Rw e size p n c (fl enc (l.set j b))))→G N K f ds w'):G N (StepK P ops Q o K) f ds w:=by
 have hr:=H.rwReads hk
 have hl:=hr.lenL E
 have hs:v.cells.size=size:=by rw [← Array.length_toList,hv,E.len]
 exact s_storeW H k hw hd ho hx hy hk (by rw [hs]; exact hn) hs (by rw [hv]; exact E.one b) hj fun w' h9=>h w' (by rw [← E.flSet b (by omega),← hv]; exact h9)
theorem s_appLn {d t e size bytes n m c sc:Nat} {s x:Operand} {z:Value} {p q:Option Addr} {l l2:List α} (E:Enc size enc) (H:S w L) (k:Nat) (hw:Wt ops f o) (hd:o.dst=some d) (hN:Nat.blt d N=true)
   (ho:o.op=.call { callee:=.builtin .append,args:=#[s,x],argTypes:=#[t,t] }) (hs:evo f s=some (.slice p n sc)) (hx:evo f x=some (.slice q m c)) (hk:L[k]?=some (Rw e size p n sc (fl enc l)))
   (ht:P.underlying t=some (.slice e)) (hi:infO P e=some (some z,size,bytes)) (hz:z.cells.size=size) (hb0:0<bytes) (hr:Reads w q m c size (fl enc l2)) (hb:(n+m) * bytes≤140737488355328)
   (h:∀ p' c' w',S w' (L.set k (Rw e size p' (l++l2).length c' (fl enc (l++l2))))→G N K ((d,.slice p' (l++l2).length c') :: f) ds w'):G N (StepK P ops Q o K) f ds w:=
 s_appL E H k hw hd hN ho hs hx hk ht hi hz hb0 hr hb fun p' c' w' h9=>by
   have h1:=h p' c' w'
   rw [List.length_append,← (H.rwReads hk).lenL E,← hr.lenL E] at h1
   exact h1 h9
theorem s_appBn {d t e size bytes n m c sc g:Nat} {s x:Operand} {z:Value} {p:Option Addr} {l l2:List α} {cs:Array Value} (E:Enc size enc) (H:S w L) (k:Nat) {j0:Nat} (hj:L[j0]?=some (Ob g (.cells cs e (0,0)))) (hcs:cs.toList=fl enc l2) (hm:m=l2.length∧m≤c) (hw:Wt ops f o) (hd:o.dst=some d) (hN:Nat.blt d N=true)
   (ho:o.op=.call { callee:=.builtin .append,args:=#[s,x],argTypes:=#[t,t] }) (hs:evo f s=some (.slice p n sc)) (hx:evo f x=some (.slice (some ⟨g,0,none⟩) m c)) (hk:L[k]?=some (Rw e size p n sc (fl enc l)))
   (ht:P.underlying t=some (.slice e)) (hi:infO P e=some (some z,size,bytes)) (hz:z.cells.size=size) (hb0:0<bytes) (hb:(n+m) * bytes≤140737488355328)
   (h:∀ p' c' w',S w' (L.set k (Rw e size p' (l++l2).length c' (fl enc (l++l2))))→G N K ((d,.slice p' (l++l2).length c') :: f) ds w'):G N (StepK P ops Q o K) f ds w:=
 s_appLn E H k hw hd hN ho hs hx hk ht hi hz hb0 ⟨by rw [E.flLen,hm.1],hm.2,fun _=>⟨_,rfl,fun j u hu=>news_ob H hj j u (by rw [hcs]; exact hu)⟩⟩ hb h
theorem S.obFl {k g e size n:Nat} {cs:Array Value} {l:List α} (E:Enc size enc) (h:S w L) (hk:L[k]?=some (Ob g (.cells cs e (0,0)))) (hn:n=l.length) (hm:n≤maxLen) (hc:cs.toList=fl enc l):S w (L.set k (Rw e size (some ⟨g,0,none⟩) n n (fl enc l))):=by
 have:=h.obRw (size:=size) (n:=n) hk (by rw [← Array.length_toList,hc,E.flLen,hn]) hm
 rwa [hc] at this
end
section
variable {P:Program} {N:Nat} {f:Fr} {ds:List Deferred} {w:World} {o:Oper} {α:Type} {enc:α→List Value}
theorem x_fieldAddrQ {s i n:Nat} {x:Operand} {q:Addr} (ho:o.op=.fieldAddr s x i) (hx:evo f x=some (.pointer (some q))) (hf:foO P s i=some n):Ex P N f ds o w (.pointer (some (q.add n))) w:=
 ex_of (x:=Instr.fieldAt s (.pointer (some q)) i) (fun a ha=>by unfold execOp; simp only [ho,ha.eval hx]) (by
   unfold foO at hf
   split at hf
   · rename_i fs hu
     split at hf
     · rename_i fd hfd
       split at hf
       · rename_i ii hii
         split at hf
         · cases hf
         · rename_i hne
           cases hf
           unfold Instr.fieldAt
           simp only [Sem.run_bind,run_underlying hu,Result.andThen_ok,hfd,Instr.sureAddr,Sem.run_pure,fieldPlace,run_sz (show szO P fd.type=some ii.size by simp [szO,hii]),if_neg hne]
       · cases hf
     · cases hf
   · cases hf)
theorem x_fieldAddrG {s i n m:Nat} {x:Operand} {p:Option Addr} (hp:∃ a,p=some a) (ho:o.op=.fieldAddr s x i) (hx:evo f x=some (.pointer (p.map fun q=>q.add m))) (hf:foO P s i=some n):Ex P N f ds o w (.pointer (p.map fun q=>q.add (m+n))) w:=by
 obtain ⟨a,rfl⟩:=hp
 have h:=x_fieldAddrQ (N:=N) (ds:=ds) (w:=w) ho hx hf
 rw [addr_add] at h
 exact h
theorem x_loadF1 {t size n c i j:Nat} {d:TypeDesc} {x:Operand} {p:Option Addr} {l:List α} {v:Value} {a:α} (E:Enc size enc) (hr:Reads w p n c size (fl enc l)) (ha:l[j]?=some a) (ho:o.op=.load t x) (hx:evo f x=some (.pointer (p.map fun q=>q.add (j * size+i)))) (hu:P.underlying t=some d) (hd:aggB d=false) (hv:(enc a)[i]?=some v) :
   Ex P N f ds o w v w:=by
 have hl:=hr.lenL E
 have hj:=(List.getElem?_eq_some_iff.1 ha).1
 obtain ⟨q,rfl,hc⟩:=hr.2.2 (by omega)
 exact x_load (p:=q.add (j * size+i)) ho hx (run_load1 hu hd (hc _ v (E.flAt ha i v hv)))
end
def intL (x:Int):List Value:=[.int .i64 x]
def boolL (x:Bool):List Value:=[.bool x]
def strL (x:ByteArray):List Value:=[.string x]
def rowL {α:Type} (r:Ro α):List Value:=[roV r]
theorem intE:Enc 1 intL:=⟨by decide,fun _=>rfl,fun _=>rfl⟩
theorem boolE:Enc 1 boolL:=⟨by decide,fun _=>rfl,fun _=>rfl⟩
theorem rowE {α:Type}:Enc 1 (rowL (α:=α)):=⟨by decide,fun _=>rfl,fun _=>rfl⟩
theorem map_fl {α:Type} {F:α→Value} {enc:α→List Value} (h:∀ x,enc x=[F x]):∀ l:List α,l.map F=fl enc l
 | []=>rfl
 | a :: l=>by rw [List.map_cons,map_fl h l]; show _=enc a++_; rw [h]; rfl
end Go.Proofs.YtpbjekdjebjbkaaGreatDoor
namespace Go.Proofs.YtpbjekdjebjbkaaGreatDoor
open Go.RowKit Go.Deep
section
variable {w w1:World} {L new M:List Item}
theorem S.abI (h:S w L) (ks:List Nat) (h1:S w1 (new++[Old w (fps (pks ks L))])) (e:new++drops ks 0 L=M):S w1 M:=e ▸ h.absorbI ks h1
theorem S.ab (h:S w L) (h1:S w1 (new++[Old w no])) (e:new++L=M):S w1 M:=e ▸ h.absorb h1
theorem S.ab0 (h:S w L) (h1:S w1 [Old w no]):S w1 L:=h.absorb (new:=[]) h1
theorem S.tk (h:S w L) (ks:List Nat) (hn:ks.Nodup:=by decide):S w (pks ks L):=h.takes ks hn
theorem S.rr {e size n c:Nat} {p:Option Addr} {xs:List Value} (h:S w L) (k:Nat) (hk:L[k]?=some (Rw e size p n c xs):=by rfl):Reads w p n c size xs:=h.rwReads hk
variable {P:Program} {N:Nat} {K:Act→World→Prop} {Q:Exit→Act→World→Prop} {f:Fr} {ds:List Deferred}
theorem g_wk (f':Fr) (h:G N K f' ds w) (hs:sub f' f:=by (repeat (refine ⟨rfl,?_⟩)); exact trivial):G N K f ds w:=g_weak f' hs h
theorem g_rd {ι:Type} {F:ι→Fr} {I:ι→World→Prop} {μ:ι→Nat} {i:ι} (j:ι) (h:I j w) (hs:sub (F j) f:=by (repeat (refine ⟨rfl,?_⟩)); exact trivial) (hμ:μ j<μ i:=by (try dsimp only); omega) :
   G N (fun a' w'=>∃ j,(Rds N a' (F j) ds∧I j w')∧μ j<μ i) f ds w:=g_round j hs h hμ
theorem fin_r {fn:Func} {R:Ending→World→Prop} (rs:List ResultVar) (vs:List Value) (hR:R (.returned (tupled vs)) w) (h:resOk P f w rs vs:=by (repeat (refine ⟨rfl,?_⟩)); exact trivial) (hr:fn.results=rs.toArray:=by rfl):G N (bodyPost P fn R .ret) f [] w:=fin_ret rs vs hr h hR
theorem Reads.exL {α:Type} {size:Nat} {enc:α→List Value} {p:Option Addr} {n c:Nat} {l:List α} (hr:Reads w p n c size (fl enc l)) (E:Enc size enc) (j:Nat) (hj:j<n:=by omega):∃ x,l[j]?=Option.some x:=ex_at (by rw [← hr.lenL E]; exact hj)
section
variable {p:Prop} [Decidable p] {c:Operand} {x y:Code}
theorem g_ct (hp:p) (h:G N (x.wp P Q) f ds w) (hc:evo f c=some (.bool (decide p)):=by rfl):G N ((Code.cond c x y).wp P Q) f ds w:=g_cond_t hc (decide_eq_true hp) h
theorem g_cf (hp:¬ p) (h:G N (y.wp P Q) f ds w) (hc:evo f c=some (.bool (decide p)):=by rfl):G N ((Code.cond c x y).wp P Q) f ds w:=g_cond_f hc (decide_eq_false hp) h
theorem g_nt (hp:¬ p) (h:G N (x.wp P Q) f ds w) (hc:evo f c=some (.bool (!decide p)):=by rfl):G N ((Code.cond c x y).wp P Q) f ds w:=g_cond_t hc (nt hp) h
theorem g_nf (hp:p) (h:G N (y.wp P Q) f ds w) (hc:evo f c=some (.bool (!decide p)):=by rfl):G N ((Code.cond c x y).wp P Q) f ds w:=g_cond_f hc (nf hp) h
end
section
variable {o:Oper} {ops:Array Oper} {rest:List Oper} {d:Nat} {v:Value}
theorem q_v {QQ:Act→Prop} (hx:∀ w,S w L→Ex P N f ds o w v w) (h:GQ N (wpQuiet P ops (fun w=>S w L) QQ rest) ((d,v) :: f) ds) (hg:o.guard=none:=by rfl) (hd:o.dst=some d:=by rfl) (hN:Nat.blt d N=true:=by rfl):GQ N (wpQuiet P ops (fun w=>S w L) QQ (o :: rest)) f ds:=q_val (wt0 hg) hd hN hx h
theorem s_v (hx:Ex P N f ds o w v w1) (h:G N K ((d,v) :: f) ds w1) (hg:o.guard=none:=by rfl) (hd:o.dst=some d:=by rfl) (hN:Nat.blt d N=true:=by rfl):G N (StepK P ops Q o K) f ds w:=s_val (wt0 hg) hd hN hx h
theorem s_cl {g:FuncId} {vs:List Value} {R:Ending→World→Prop} {args:Array Operand} {ts:Array TypeId} (hc:Calls P g vs.toArray w R) (h:∀ e w'',R e w''→Back N o K Q f ds e w'') (hg:o.guard=none:=by rfl) (ho:o.op=.call { callee:=.value (.func g),args:=args,argTypes:=ts }:=by rfl) (hv:evs f args.toList=some vs:=by rfl) (hcl:callable P g=true:=by kernel_rfl):G N (StepK P ops Q o K) f ds w:=
 s_call (wt0 hg) (x_call' ho hv hcl) hc h
variable {t e size n c:Nat} {x y:Operand} {k:IntKind} {i:Int} {p:Option Addr} {xs:List Value}
theorem x_f {s a b g off m:Nat} {x0:Operand} (ho:o.op=.fieldAddr s x0 a:=by rfl) (hx:evo f x0=some (.pointer (some ⟨g,off,none⟩)):=by rfl) (hf:foO P s a=some b:=by exact foT rfl) (he:off+b=m:=by first | (simp only [Nat.reduceAdd]; rfl) | rfl):Ex P N f ds o w (.pointer (some ⟨g,m,none⟩)) w:=x_fieldAddr ho hx hf he
theorem x_r (j:Nat) (hr:Reads w p n c size xs) (hv:xs[j * size]?=some v) (hj:j<n:=by omega) (ho:o.op=.load t x:=by rfl) (hx:evo f x=some (.pointer (p.map fun a=>a.add (j * size))):=by rfl) (hu:∃ dd,P.underlying t=some dd∧aggB dd=false:=by exact unT rfl):Ex P N f ds o w v w:=by
 obtain ⟨dd,q1,q2⟩:=hu
 exact x_loadR1 j hr hj ho hx q1 q2 hv
end
section
variable {o:Oper} {t e size n c:Nat} {x y:Operand} {k:IntKind} {i:Int} {p:Option Addr} {xs:List Value}
theorem x_i (j:Nat) (hr:Reads w p n c size xs) (ho:o.op=.indexAddr t x y:=by rfl) (hx:evo f x=some (.slice p n c):=by rfl) (hy:evo f y=some (.int k i):=by rfl) (hu:Tryz.prog.underlying t=some (.slice e):=by exact slT rfl) (hz:szO Tryz.prog e=some size:=by exact szT rfl) (hb:i=(j:Int)∧j<n:=by omega):Ex Tryz.prog N f ds o w (.pointer (p.map fun a=>a.add (j * size))) w:=
 x_idxR j hr ho hx hy hu hz hb
theorem x_ip (j:Nat) (hp:∃ a,p=some a) (ho:o.op=.indexAddr t x y:=by rfl) (hx:evo f x=some (.slice p n c):=by rfl) (hy:evo f y=some (.int k i):=by rfl) (hu:Tryz.prog.underlying t=some (.slice e):=by exact slT rfl) (hz:szO Tryz.prog e=some size:=by exact szT rfl) (hb:i=(j:Int)∧j<n:=by omega):Ex Tryz.prog N f ds o w (.pointer (p.map fun a=>a.add (j * size))) w:=
 x_idxP j hp ho hx hy hu hz hb
theorem w_i {ops:Array Oper} {Q:Exit→Act→World→Prop} {rest:List Oper} {d:Nat} {ty:TypeId} (i:Nat) (h:G N (wpList Tryz.prog ops Q rest) ((d,.int .i64 ((i+1:Nat):Int)) :: f) ds w) (hg:o.guard=none:=by rfl) (hd:o.dst=some d:=by rfl) (hN:Nat.blt d N=true:=by rfl) (ho:o.op=.binOp .add t x y ty:=by rfl) (hx:evo f x=some (.int .i64 (i:Int)):=by rfl) (hy:evo f y=some (.int .i64 1):=by rfl) (hb:i<9223372036854775807:=by omega):G N (wpList Tryz.prog ops Q (o :: rest)) f ds w:=
 w_v (x_bin ho hx hy (b_add (r:=((i+1:Nat):Int)) (by rw [w64 (by omega)]; omega))) h hg hd hN
theorem s_b1 {ops:Array Oper} {Q:Exit→Act→World→Prop} {d len:Nat} {ps:Array (Nat × Operand)} {vs:List Value} {z:Value} (hze:zeO Tryz.prog e=some z) (cells:Array Value) (H:S w L) (h:∀ g w',S w' (Ob g (.cells cells e (0,0)) :: L)→G N K ((d,.slice (some ⟨g,0,none⟩) len len) :: f) ds w') (hg:o.guard=none:=by rfl) (hd:o.dst=some d:=by rfl) (hN:Nat.blt d N=true:=by rfl) (ho:o.op=.buildSlice t len ps:=by rfl) (hx:evs f (ps.toList.map (·.2))=some vs:=by rfl)
   (hu:Tryz.prog.underlying t=some (.slice e):=by exact slT rfl) (hz:szO Tryz.prog e=some size:=by exact szT rfl) (hlen:Nat.ble (len * size) 16777216=true:=by rfl) (hpos:Nat.beq (len * size) 0=false:=by rfl) (hb:Instr.fill (fun i=>some (i * size,size)) ((Array.range (len * size)).map (z.cells[· % z.cells.size]!)) ((ps.toList.map (·.1)).zip vs)=some cells:=by kernel_rfl):G N (StepK Tryz.prog ops Q o K) f ds w:=
 s_buildSlice H (wt0 hg) hd hN ho hx hu hz hze hlen hpos hb h
theorem x_q (ho:o.op=.call { callee:=.builtin .len,args:=#[x],argTypes:=#[t] }:=by rfl) (hx:evo f x=some (.slice p n c):=by rfl) (hu:Tryz.prog.underlying t=some (.slice e):=by exact slT rfl):Ex Tryz.prog N f ds o w (.int .i64 n) w:=x_lenl ho hx hu
end
section
variable {ops:Array Oper} {md:Region.Mode} {C C0:World→Prop} {T:List Nat} {listed:Array Bool} {fuel:Nat} {f0:Fr} {d:Nat} {o:Oper} {v:Value}
theorem y_t (i:Nat) (hi:ops[i]?=some o) (hC:C w) (hx:∀ w,C w→Ex P N f ds o w v w) (h:G N (wpAnyY P md ops (PanP N f0 ds Q) C C0 T fuel (listed.setIfInBounds i true)) ((d,v) :: f) ds w) (hg:o.guard=none:=by rfl) (hd:o.dst=some d:=by rfl) (hN:Nat.blt d N=true:=by rfl) (h0:gt f0 d=none:=by rfl) (hs:Region.noSelect ops=true:=by kernel_rfl) (hf:Region.free md ops listed i=true:=by kernel_rfl) (hr:(Region.ready md ops listed).contains i=true:=by kernel_rfl)
   (hT:waitsC md ops T i=true:=by kernel_rfl) (hcl:closedB md ops listed=true:=by kernel_rfl):G N (wpAnyY P md ops (PanP N f0 ds Q) C C0 T (fuel+1) listed) f ds w:=y_take i hi (wt0 hg) hd hN h0 hs hf hr hT hcl hC hx h
theorem y_p (i:Nat) (hi:ops[i]?=some o) (hx:∀ w,Ex P N f ds o w v w) (h:G N (wpAnyY P md ops (PanP N f0 ds Q) C C0 T fuel (listed.setIfInBounds i true)) ((d,v) :: f) ds w) (hg:o.guard=none:=by rfl) (hd:o.dst=some d:=by rfl) (hN:Nat.blt d N=true:=by rfl) (h0:gt f0 d=none:=by rfl) (hs:Region.noSelect ops=true:=by kernel_rfl) (hf:Region.free md ops listed i=true:=by kernel_rfl) (hr:(Region.ready md ops listed).contains i=true:=by kernel_rfl)
   (hcl:closedB md ops listed=true:=by kernel_rfl):G N (wpAnyY P md ops (PanP N f0 ds Q) C C0 T (fuel+1) listed) f ds w:=y_pure i hi (wt0 hg) hd hN h0 hs hf hr hcl hx h
end
end
section
variable {P:Program} {N:Nat} {Q:Exit→Act→World→Prop} {f:Fr} {ds:List Deferred} {w:World} {y:Code} {ops:Array Oper} {l:List Oper} {id i:Nat}
theorem w_es (h:G N (wpList P l.toArray (Exit.then (y.wp P Q) Q) l) f ds w):G N (wpList P ops (Exit.then ((Code.seq (Code.region id l.toArray false) y).wp P Q) Q) []) f ds w:=w_e (w_s h)
theorem w_er (h:G N (wpList P l.toArray Q l) f ds w):G N (wpList P ops (Exit.then ((Code.region id l.toArray false).wp P Q) Q) []) f ds w:=w_e (g_region h)
theorem w_hs (h:G N (wpList P l.toArray (Exit.then (y.wp P Q) Q) l) f ds w):G N (Code.skip.wp P (Exit.then ((Code.seq (Code.region id l.toArray false) y).wp P Q) Q)) f ds w:=g_skip (g_then (w_s h))
theorem w_ht {K:Act→World→Prop} (h:G N K f ds w):G N (Code.skip.wp P (Exit.then K Q)) f ds w:=g_skip (g_then h)
theorem w_bs (h:G N (wpList P l.toArray (Exit.then (y.wp P (Exit.inBlock i Q)) (Exit.inBlock i Q)) l) f ds w):G N ((Code.block i (Code.seq (Code.region id l.toArray false) y)).wp P Q) f ds w:=g_block (w_s h)
end
section
variable {P:Program} {N:Nat} {Q:Exit→Act→World→Prop} {f:Fr} {ds:List Deferred} {w w':World} {o:Oper} {ops:Array Oper} {rest:List Oper} {d:Nat} {v:Value} {r:Option Nat} {n:Nat}
theorem R.w_v (hL:¬ LetsOut Q) (hx:Ex P N f ds o w v w') (h:G N (wpListIn (WF r) n P ops Q rest) ((d,v) :: f) ds w') (hg:o.guard=none:=by rfl) (hd:o.dst=some d:=by rfl) (hN:Nat.blt d N=true:=by rfl) (h0:isDefer o=false:=by rfl):G N (wpListIn (WF r) n P ops Q (o :: rest)) f ds w:=R.l_of h0 hL (s_val (wt0 hg) hd hN hx h)
end
structure HB (B:Prop):Prop where
 out:B
theorem w_0 {A B:Prop} (b:B) (h:HB B→A:=by intro k; (first | with_reducible refine w_s ?_ | with_reducible refine w_e ?_ | with_reducible refine g_then ?_ | with_reducible refine g_seq ?_ | with_reducible refine g_skip ?_ | with_reducible refine g_block ?_ | with_reducible refine g_nil ?_ | with_reducible refine g_region ?_ | with_reducible refine g_in ?_ | with_reducible refine g_ret ?_ | with_reducible refine g_then_ret ?_ | with_reducible refine g_in_ret ?_ | with_reducible refine g_exit ?_ | with_reducible refine g_then_exit ?_ | with_reducible refine g_in_hit ?_ | with_reducible refine g_label ?_ | with_reducible refine g_in_miss (by decide) ?_ | refine w_m ?_ | refine w_a ?_ | refine w_v x_f ?_ | refine w_v xn ?_ | refine w_v xe ?_ | refine w_b ?_ | refine w_v x_q ?_ | refine w_1 (by assumption) 0 ?_ | refine w_1 (by assumption) 1 ?_ | refine w_1 (by assumption) 2 ?_ | refine w_1 (by assumption) 3 ?_ | refine w_1 (by assumption) 4 ?_ | refine w_1 (by assumption) 5 ?_ | refine w_1 (by assumption) 6 ?_ | refine w_1 (by assumption) 7 ?_ | refine w_1 (by assumption) 8 ?_ | refine w_1 (by assumption) 9 ?_ | refine w_1 (by assumption) 10 ?_); exact k.1):A:=h ⟨b⟩
theorem w_k2 {A B:Prop} (b:B) (h:HB B→A:=by intro k; (iterate 2 refine w_0 ?_); exact k.1):A:=h ⟨b⟩
theorem w_k3 {A B:Prop} (b:B) (h:HB B→A:=by intro k; (iterate 3 refine w_0 ?_); exact k.1):A:=h ⟨b⟩
theorem w_k4 {A B:Prop} (b:B) (h:HB B→A:=by intro k; (iterate 4 refine w_0 ?_); exact k.1):A:=h ⟨b⟩
theorem w_k5 {A B:Prop} (b:B) (h:HB B→A:=by intro k; (iterate 5 refine w_0 ?_); exact k.1):A:=h ⟨b⟩
theorem w_k6 {A B:Prop} (b:B) (h:HB B→A:=by intro k; (iterate 6 refine w_0 ?_); exact k.1):A:=h ⟨b⟩
theorem w_k7 {A B:Prop} (b:B) (h:HB B→A:=by intro k; (iterate 7 refine w_0 ?_); exact k.1):A:=h ⟨b⟩
theorem w_k8 {A B:Prop} (b:B) (h:HB B→A:=by intro k; (iterate 8 refine w_0 ?_); exact k.1):A:=h ⟨b⟩
theorem w_k9 {A B:Prop} (b:B) (h:HB B→A:=by intro k; (iterate 9 refine w_0 ?_); exact k.1):A:=h ⟨b⟩
theorem w_k10 {A B:Prop} (b:B) (h:HB B→A:=by intro k; (iterate 10 refine w_0 ?_); exact k.1):A:=h ⟨b⟩
theorem w_k11 {A B:Prop} (b:B) (h:HB B→A:=by intro k; (iterate 11 refine w_0 ?_); exact k.1):A:=h ⟨b⟩
theorem w_k12 {A B:Prop} (b:B) (h:HB B→A:=by intro k; (iterate 12 refine w_0 ?_); exact k.1):A:=h ⟨b⟩
theorem w_k13 {A B:Prop} (b:B) (h:HB B→A:=by intro k; (iterate 13 refine w_0 ?_); exact k.1):A:=h ⟨b⟩
theorem w_k14 {A B:Prop} (b:B) (h:HB B→A:=by intro k; (iterate 14 refine w_0 ?_); exact k.1):A:=h ⟨b⟩
theorem w_k15 {A B:Prop} (b:B) (h:HB B→A:=by intro k; (iterate 15 refine w_0 ?_); exact k.1):A:=h ⟨b⟩
theorem w_k16 {A B:Prop} (b:B) (h:HB B→A:=by intro k; (iterate 16 refine w_0 ?_); exact k.1):A:=h ⟨b⟩
end Go.Proofs.YtpbjekdjebjbkaaGreatDoor
