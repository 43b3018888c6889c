import Derived.Test.YthmmfhdpkddniaaGreatDoorH0
import Derived.Test.YthmmfhdpkddniaaGreatDoorGl
set_option linter.unusedSimpArgs false
set_option linter.unusedVariables false
namespace Go.Proofs.YthmmfhdpkddniaaGreatDoor
open Go.RowKit Go.Deep
section
variable {P:Program} {N:Nat} {Q:Exit→Act→World→Prop} {f:Fr} {ds:List Deferred} {w w':World} {o:Oper} {ops:Array Oper} {rest:List Oper} {L:List Item} {d:Nat} {v:Value}
theorem w_s {y:Code} {id:Nat} {l:List Oper} (h:G N (wpList P l.toArray (Exit.then (y.wp P Q) Q) l) f ds w):G N ((Code.seq (Code.region id l.toArray false) y).wp P Q) f ds w:=g_seq (g_region h)
theorem w_e {K:Act→World→Prop} (h:G N K f ds w):G N (wpList P ops (Exit.then K Q) []) f ds w:=g_nil (g_then h)
theorem w_v (hx:Ex P N f ds o w v w') (h:G N (wpList P ops Q rest) ((d,v) :: f) ds w') (hg:o.guard=none:=by rfl) (hd:o.dst=some d:=by rfl) (hN:Nat.blt d N=true:=by rfl):G N (wpList P ops Q (o :: rest)) f ds w:=l_of (s_val (wt0 hg) hd hN hx h)
theorem w_g {j:Nat} {b b':Bool} {oj:Oper} {dj:Nat} (h4:b'=b) (hx:Ex P N f ds o w v w') (h:G N (wpList P ops Q rest) ((d,v) :: f) ds w') (h0:o.guard=some (j,b):=by rfl) (h1:ops[j]?=some oj:=by rfl) (h2:oj.dst=some dj:=by rfl) (h3:gt f dj=some (.bool b'):=by rfl) (hd:o.dst=some d:=by rfl) (hN:Nat.blt d N=true:=by rfl):G N (wpList P ops Q (o :: rest)) f ds w:=l_of (s_val (wt1 h0 h1 h2 h3 h4) hd hN hx h)
theorem w_m {x:Operand} (h:G N (wpList P ops Q rest) ((d,v) :: f) ds w) (hg:o.guard=none:=by rfl) (hd:o.dst=some d:=by rfl) (hN:Nat.blt d N=true:=by rfl) (ho:o.op=.move x:=by rfl) (hx:evo f x=some v:=by rfl):G N (wpList P ops Q (o :: rest)) f ds w:=l_of (s_val (wt0 hg) hd hN (x_move ho hx) h)
theorem w_a {x:Operand} (h:G N (wpList P ops Q rest) ((d,v) :: f) ds w) (hg:o.guard=none:=by rfl) (hd:o.dst=some d:=by rfl) (hN:Nat.blt d N=true:=by rfl) (ho:o.op=.assign x:=by rfl) (hx:evo f x=some v:=by rfl):G N (wpList P ops Q (o :: rest)) f ds w:=l_of (s_val (wt0 hg) hd hN (x_assign ho hx) h)
theorem w_f {s i n:Nat} {x:Operand} {g off:Nat} (off':Nat) (h:G N (wpList P ops Q rest) ((d,.pointer (some ⟨g,off',none⟩)) :: f) ds w) (hg:o.guard=none:=by rfl) (hd:o.dst=some d:=by rfl) (hN:Nat.blt d N=true:=by rfl) (ho:o.op=.fieldAddr s x i:=by rfl) (hx:evo f x=some (.pointer (some ⟨g,off,none⟩)):=by rfl) (hf:foO P s i=some n:=by exact foT rfl) (he:off+n=off':=by rfl) :
   G N (wpList P ops Q (o :: rest)) f ds w:=l_of (s_val (wt0 hg) hd hN (x_fieldAddr ho hx hf he) h)
theorem w_1 {t:TypeId} {x:Operand} {g i:Nat} {cs:Array Value} {e:TypeId} {fr:Nat × Nat} (H:S w L) (k:Nat) (h:G N (wpList P ops Q rest) ((d,v) :: f) ds w) (hg:o.guard=none:=by rfl) (hd:o.dst=some d:=by rfl) (hN:Nat.blt d N=true:=by rfl) (ho:o.op=.load t x:=by rfl) (hx:evo f x=some (.pointer (some ⟨g,i,none⟩)):=by rfl) (hu:∃ dd,P.underlying t=some dd∧aggB dd=false:=by exact unT rfl)
   (hk:L[k]?=some (Ob g (.cells cs e fr)):=by rfl) (hv:cs[i]?=some v:=by rfl):G N (wpList P ops Q (o :: rest)) f ds w:=by
 obtain ⟨dd,q1,q2⟩:=hu
 exact l_of (s_val (wt0 hg) hd hN (x_load1 H k ho hx q1 q2 hk hv) h)
theorem w_b {op:BinOp} {t ty:TypeId} {x y:Operand} {vx vy:Value} (h:G N (wpList P ops Q rest) ((d,v) :: f) ds w) (hg:o.guard=none:=by rfl) (hd:o.dst=some d:=by rfl) (hN:Nat.blt d N=true:=by rfl) (ho:o.op=.binOp op t x y ty:=by rfl) (hx:evo f x=some vx:=by rfl) (hy:evo f y=some vy:=by rfl) (hb:Bin P op t x y vx vy w v:=by first | exact b_eql | exact b_lss | exact b_leq | exact b_gtr | exact b_geq):G N (wpList P ops Q (o :: rest)) f ds w:=l_of (s_val (wt0 hg) hd hN (x_bin ho hx hy hb) h)
theorem w_n {j:Nat} {b b':Bool} {oj:Oper} {dj:Nat} (h4:b'=!b) (h:G N (wpList P ops Q rest) ((d,undef) :: f) ds w) (h0:o.guard=some (j,b):=by rfl) (h1:ops[j]?=some oj:=by rfl) (h2:oj.dst=some dj:=by rfl) (h3:gt f dj=some (.bool b'):=by rfl) (hd:o.dst=some d:=by rfl) (hN:Nat.blt d N=true:=by rfl):G N (wpList P ops Q (o :: rest)) f ds w:=l_of (s_not (wn1 h0 h1 h2 h3 h4) hd hN h)
theorem xf {s i n:Nat} {x:Operand} {g off:Nat} (off':Nat) (ho:o.op=.fieldAddr s x i:=by rfl) (hx:evo f x=some (.pointer (some ⟨g,off,none⟩)):=by rfl) (hf:foO P s i=some n:=by exact foT rfl) (he:off+n=off':=by rfl):Ex P N f ds o w (.pointer (some ⟨g,off',none⟩)) w:=x_fieldAddr ho hx hf he
theorem xl {t:TypeId} {x:Operand} {g i:Nat} {cs:Array Value} {e:TypeId} {fr:Nat × Nat} (H:S w L) (k:Nat) (ho:o.op=.load t x:=by rfl) (hx:evo f x=some (.pointer (some ⟨g,i,none⟩)):=by rfl) (hu:∃ dd,P.underlying t=some dd∧aggB dd=false:=by exact unT rfl) (hk:L[k]?=some (Ob g (.cells cs e fr)):=by rfl) (hv:cs[i]?=some v:=by rfl):Ex P N f ds o w v w:=by
 obtain ⟨dd,q1,q2⟩:=hu
 exact x_load1 H k ho hx q1 q2 hk hv
theorem xm {x:Operand} (ho:o.op=.move x:=by rfl) (hx:evo f x=some v:=by rfl):Ex P N f ds o w v w:=x_move ho hx
theorem xa {x:Operand} (ho:o.op=.assign x:=by rfl) (hx:evo f x=some v:=by rfl):Ex P N f ds o w v w:=x_assign ho hx
theorem xn {x:Operand} {p:Addr} (ho:o.op=.nilCheck x:=by rfl) (hx:evo f x=some (.pointer (some p)):=by rfl):Ex P N f ds o w (.pointer (some p)) w:=x_nilCheck ho hx
theorem xe {x:Operand} {i:Nat} {vs:Array Value} (ho:o.op=.extract x i:=by rfl) (hx:evo f x=some (.tuple vs):=by rfl) (hv:vs[i]?=some v:=by rfl):Ex P N f ds o w v w:=x_extract ho hx hv
theorem w_st {K:Act→World→Prop} {t:TypeId} {x y:Operand} {g i:Nat} {cs:Array Value} {e:TypeId} (cs':Array Value) (H:S w L) (k:Nat) (h:∀ w',S w' (L.set k (Ob g (.cells cs' e (0,0))))→G N K f ds w') (hg:o.guard=none:=by rfl) (hd:o.dst=none:=by rfl) (ho:o.op=.store t x y:=by rfl) (hx:evo f x=some (.pointer (some ⟨g,i,none⟩)):=by rfl)
   (hy:evo f y=some v:=by rfl) (hk:L[k]?=some (Ob g (.cells cs e (0,0))):=by rfl) (hn:szO P t=some v.cells.size:=by exact szT rfl) (hl:Nat.ble (i+v.cells.size) cs.size=true:=by rfl) (h1:v.cells.toList.all (·.oneCell')=true:=by rfl)
   (hc:(cs.toList.take i++v.cells.toList++cs.toList.drop (i+v.cells.size)).toArray=cs':=by rfl):G N (StepK P ops Q o K) f ds w:=s_store H k (wt0 hg) hd ho hx hy hk hn hl h1 hc h
theorem xf0 {s i n:Nat} {x:Operand} {g off:Nat} (ho:o.op=.fieldAddr s x i:=by rfl) (hx:evo f x=some (.pointer (some ⟨g,off,none⟩)):=by rfl) (hf:foO P s i=some n:=by exact foT rfl):Ex P N f ds o w (.pointer (some ⟨g,off+n,none⟩)) w:=x_fieldAddr ho hx hf rfl
theorem s_call0 {K:Act→World→Prop} {g:FuncId} {vs:List Value} (H:S w L) (hw:Wt ops f o) (hx:ExC P N f ds o w g vs w) (hc:Calls P g vs.toArray w (fun e w'=>e=.returned v∧S w' [Old w no])) (hd:o.dst=some d) (hN:Nat.blt d N=true)
   (h:∀ w',S w' L→G N K ((d,v) :: f) ds w'):G N (StepK P ops Q o K) f ds w:=
 s_call hw hx hc fun e w'' he=>by
   obtain ⟨rfl,h2⟩:=he
   exact b_ret hd hN (h _ (H.absorb (new:=[]) h2))
end
section
variable {P:Program} {N:Nat} {ops:Array Oper} {Q:Exit→Act→World→Prop} {md:Region.Mode} {C:World→Prop} {T:List Nat} {f:Fr} {ds:List Deferred} {w:World} {listed:Array Bool} {fuel:Nat}
theorem and4 {a b c d:Bool} (h:(a && b && c && d)=true):a=true∧b=true∧c=true∧d=true:=by
 cases a <;> cases b <;> cases c <;> cases d <;> simp at h ⊢
theorem w_t {f0:Fr} {d:Nat} {o:Oper} {v:Value} (i:Nat) (hi:ops[i]?=some o) (hC:C w) (hx:∀ w,C w→Ex P N f ds o w v w)
   (h:G N (wpAnyX P md ops (PanP N f0 ds Q) C T fuel (listed.setIfInBounds i true)) ((d,v) :: f) ds w) (hg:o.guard=none:=by rfl) (hd:o.dst=some d:=by rfl) (hN:Nat.blt d N=true:=by rfl) (h0:gt f0 d=none:=by rfl) (hB:(Region.noSelect ops && Region.free md ops listed i && (Region.ready md ops listed).contains i && waits md ops T i)=true:=by kernel_rfl):G N (wpAnyX P md ops (PanP N f0 ds Q) C T (fuel+1) listed) f ds w:=
 a_take i hi (wt0 hg) hd hN h0 (and4 hB).1 (and4 hB).2.1 (and4 hB).2.2.1 (and4 hB).2.2.2 hC hx h
theorem w_tg {f0:Fr} {d:Nat} {o:Oper} {v:Value} {j:Nat} {b b':Bool} {oj:Oper} {dj:Nat} (i:Nat) (hi:ops[i]?=some o) (h4:b'=b) (hC:C w) (hx:∀ w,C w→Ex P N f ds o w v w)
   (h:G N (wpAnyX P md ops (PanP N f0 ds Q) C T fuel (listed.setIfInBounds i true)) ((d,v) :: f) ds w) (g0:o.guard=some (j,b):=by rfl) (g1:ops[j]?=some oj:=by rfl) (g2:oj.dst=some dj:=by rfl) (g3:gt f dj=some (.bool b'):=by rfl) (hd:o.dst=some d:=by rfl) (hN:Nat.blt d N=true:=by rfl) (h0:gt f0 d=none:=by rfl) (hB:(Region.noSelect ops && Region.free md ops listed i && (Region.ready md ops listed).contains i && waits md ops T i)=true:=by kernel_rfl):G N (wpAnyX P md ops (PanP N f0 ds Q) C T (fuel+1) listed) f ds w:=
 a_take i hi (wt1 g0 g1 g2 g3 h4) hd hN h0 (and4 hB).1 (and4 hB).2.1 (and4 hB).2.2.1 (and4 hB).2.2.2 hC hx h
theorem w_tn {f0:Fr} {d:Nat} {o:Oper} {j:Nat} {b b':Bool} {oj:Oper} {dj:Nat} (i:Nat) (hi:ops[i]?=some o) (h4:b'=!b) (hC:C w)
   (h:G N (wpAnyX P md ops (PanP N f0 ds Q) C T fuel (listed.setIfInBounds i true)) ((d,undef) :: f) ds w) (g0:o.guard=some (j,b):=by rfl) (g1:ops[j]?=some oj:=by rfl) (g2:oj.dst=some dj:=by rfl) (g3:gt f dj=some (.bool b'):=by rfl) (hd:o.dst=some d:=by rfl) (hN:Nat.blt d N=true:=by rfl) (h0:gt f0 d=none:=by rfl) (hB:(Region.noSelect ops && Region.free md ops listed i && (Region.ready md ops listed).contains i && waits md ops T i)=true:=by kernel_rfl):G N (wpAnyX P md ops (PanP N f0 ds Q) C T (fuel+1) listed) f ds w:=
 a_not i hi (wn1 g0 g1 g2 g3 h4) hd hN h0 (and4 hB).1 (and4 hB).2.1 (and4 hB).2.2.1 (and4 hB).2.2.2 hC h
theorem w_y {C0:World→Prop} {f0:Fr} {d:Nat} {o:Oper} {v:Value} (i:Nat) (hi:ops[i]?=some o) (hw:Wt ops f o) (hd:o.dst=some d) (hN:Nat.blt d N=true) (h0:gt f0 d=none) (hB:(Region.noSelect ops && Region.free md ops listed i && (Region.ready md ops listed).contains i && closedB md ops listed)=true) (hx:∀ w,Ex P N f ds o w v w)
   (h:G N (wpAnyY P md ops (PanP N f0 ds Q) C C0 T fuel (listed.setIfInBounds i true)) ((d,v) :: f) ds w):G N (wpAnyY P md ops (PanP N f0 ds Q) C C0 T (fuel+1) listed) f ds w:=
 y_pure i hi hw hd hN h0 (and4 hB).1 (and4 hB).2.1 (and4 hB).2.2.1 (and4 hB).2.2.2 hx h
end
theorem w_r2 {A B:Prop} (b:B) (h:B→A:=by intro k; (iterate 2 first | refine w_m ?_ | refine w_a ?_ | refine w_v xf0 ?_ | refine w_v xn ?_ | refine w_v xe ?_); exact k):A:=h b
theorem w_r3 {A B:Prop} (b:B) (h:B→A:=by intro k; (iterate 3 first | refine w_m ?_ | refine w_a ?_ | refine w_v xf0 ?_ | refine w_v xn ?_ | refine w_v xe ?_); exact k):A:=h b
theorem w_r4 {A B:Prop} (b:B) (h:B→A:=by intro k; (iterate 4 first | refine w_m ?_ | refine w_a ?_ | refine w_v xf0 ?_ | refine w_v xn ?_ | refine w_v xe ?_); exact k):A:=h b
theorem w_r5 {A B:Prop} (b:B) (h:B→A:=by intro k; (iterate 5 first | refine w_m ?_ | refine w_a ?_ | refine w_v xf0 ?_ | refine w_v xn ?_ | refine w_v xe ?_); exact k):A:=h b
theorem w_r6 {A B:Prop} (b:B) (h:B→A:=by intro k; (iterate 6 first | refine w_m ?_ | refine w_a ?_ | refine w_v xf0 ?_ | refine w_v xn ?_ | refine w_v xe ?_); exact k):A:=h b
section
variable {w w1:World} {L new M:List Item}
theorem S.abI (h:S w L) (ks:List Nat) (h1:S w1 (new++[Old w (fps (pks ks L))])) (e:new++drops ks 0 L=M):S w1 M:=e ▸ h.absorbI ks h1
theorem S.ab (h:S w L) (h1:S w1 (new++[Old w no])) (e:new++L=M):S w1 M:=e ▸ h.absorb h1
theorem S.ab0 (h:S w L) (h1:S w1 [Old w no]):S w1 L:=h.absorb (new:=[]) h1
theorem S.tk (h:S w L) (ks:List Nat) (hn:ks.Nodup:=by decide):S w (pks ks L):=h.takes ks hn
theorem S.rr {e size n c:Nat} {p:Option Addr} {xs:List Value} (h:S w L) (k:Nat) (hk:L[k]?=some (Rw e size p n c xs):=by rfl):Reads w p n c size xs:=h.rwReads hk
variable {P:Program} {N:Nat} {K:Act→World→Prop} {Q:Exit→Act→World→Prop} {f:Fr} {ds:List Deferred}
theorem g_wk (f':Fr) (h:G N K f' ds w) (hs:sub f' f:=by (repeat (refine ⟨rfl,?_⟩)); exact trivial):G N K f ds w:=g_weak f' hs h
theorem g_rd {ι:Type} {F:ι→Fr} {I:ι→World→Prop} {μ:ι→Nat} {i:ι} (j:ι) (h:I j w) (hs:sub (F j) f:=by (repeat (refine ⟨rfl,?_⟩)); exact trivial) (hμ:μ j<μ i:=by (try dsimp only); omega) :
   G N (fun a' w'=>∃ j,(Rds N a' (F j) ds∧I j w')∧μ j<μ i) f ds w:=g_round j hs h hμ
theorem fin_r {fn:Func} {R:Ending→World→Prop} (rs:List ResultVar) (vs:List Value) (hR:R (.returned (tupled vs)) w) (h:resOk P f w rs vs:=by (repeat (refine ⟨rfl,?_⟩)); exact trivial) (hr:fn.results=rs.toArray:=by rfl):G N (bodyPost P fn R .ret) f [] w:=fin_ret rs vs hr h hR
theorem Reads.exL {α:Type} {size:Nat} {enc:α→List Value} {p:Option Addr} {n c:Nat} {l:List α} (hr:Reads w p n c size (fl enc l)) (E:Enc size enc) (j:Nat) (hj:j<n:=by omega):∃ x,l[j]?=Option.some x:=ex_at (by rw [← hr.lenL E]; exact hj)
section
variable {p:Prop} [Decidable p] {c:Operand} {x y:Code}
theorem g_ct (hp:p) (h:G N (x.wp P Q) f ds w) (hc:evo f c=some (.bool (decide p)):=by rfl):G N ((Code.cond c x y).wp P Q) f ds w:=g_cond_t hc (decide_eq_true hp) h
theorem g_cf (hp:¬ p) (h:G N (y.wp P Q) f ds w) (hc:evo f c=some (.bool (decide p)):=by rfl):G N ((Code.cond c x y).wp P Q) f ds w:=g_cond_f hc (decide_eq_false hp) h
theorem g_nt (hp:¬ p) (h:G N (x.wp P Q) f ds w) (hc:evo f c=some (.bool (!decide p)):=by rfl):G N ((Code.cond c x y).wp P Q) f ds w:=g_cond_t hc (nt hp) h
theorem g_nf (hp:p) (h:G N (y.wp P Q) f ds w) (hc:evo f c=some (.bool (!decide p)):=by rfl):G N ((Code.cond c x y).wp P Q) f ds w:=g_cond_f hc (nf hp) h
end
section
variable {o:Oper} {ops:Array Oper} {rest:List Oper} {d:Nat} {v:Value}
theorem s_v (hx:Ex P N f ds o w v w1) (h:G N K ((d,v) :: f) ds w1) (hg:o.guard=none:=by rfl) (hd:o.dst=some d:=by rfl) (hN:Nat.blt d N=true:=by rfl):G N (StepK P ops Q o K) f ds w:=s_val (wt0 hg) hd hN hx h
theorem s_cl {g:FuncId} {vs:List Value} {R:Ending→World→Prop} {args:Array Operand} {ts:Array TypeId} (hc:Calls P g vs.toArray w R) (h:∀ e w'',R e w''→Back N o K Q f ds e w'') (hg:o.guard=none:=by rfl) (ho:o.op=.call { callee:=.value (.func g),args:=args,argTypes:=ts }:=by rfl) (hv:evs f args.toList=some vs:=by rfl) (hcl:callable P g=true:=by kernel_rfl):G N (StepK P ops Q o K) f ds w:=
 s_call (wt0 hg) (x_call' ho hv hcl) hc h
variable {t e size n c:Nat} {x y:Operand} {k:IntKind} {i:Int} {p:Option Addr} {xs:List Value}
theorem x_f {s a b g off m:Nat} {x0:Operand} (ho:o.op=.fieldAddr s x0 a:=by rfl) (hx:evo f x0=some (.pointer (some ⟨g,off,none⟩)):=by rfl) (hf:foO P s a=some b:=by exact foT rfl) (he:off+b=m:=by first | (simp only [Nat.reduceAdd]; rfl) | rfl):Ex P N f ds o w (.pointer (some ⟨g,m,none⟩)) w:=x_fieldAddr ho hx hf he
theorem x_r (j:Nat) (hr:Reads w p n c size xs) (hv:xs[j * size]?=some v) (hj:j<n:=by omega) (ho:o.op=.load t x:=by rfl) (hx:evo f x=some (.pointer (p.map fun a=>a.add (j * size))):=by rfl) (hu:∃ dd,P.underlying t=some dd∧aggB dd=false:=by exact unT rfl):Ex P N f ds o w v w:=by
 obtain ⟨dd,q1,q2⟩:=hu
 exact x_loadR1 j hr hj ho hx q1 q2 hv
end
section
variable {o:Oper} {t e size n c:Nat} {x y:Operand} {k:IntKind} {i:Int} {p:Option Addr} {xs:List Value}
theorem x_i (j:Nat) (hr:Reads w p n c size xs) (ho:o.op=.indexAddr t x y:=by rfl) (hx:evo f x=some (.slice p n c):=by rfl) (hy:evo f y=some (.int k i):=by rfl) (hu:Tryz.prog.underlying t=some (.slice e):=by exact slT rfl) (hz:szO Tryz.prog e=some size:=by exact szT rfl) (hb:i=(j:Int)∧j<n:=by omega):Ex Tryz.prog N f ds o w (.pointer (p.map fun a=>a.add (j * size))) w:=
 x_idxR j hr ho hx hy hu hz hb
theorem x_ip (j:Nat) (hp:∃ a,p=some a) (ho:o.op=.indexAddr t x y:=by rfl) (hx:evo f x=some (.slice p n c):=by rfl) (hy:evo f y=some (.int k i):=by rfl) (hu:Tryz.prog.underlying t=some (.slice e):=by exact slT rfl) (hz:szO Tryz.prog e=some size:=by exact szT rfl) (hb:i=(j:Int)∧j<n:=by omega):Ex Tryz.prog N f ds o w (.pointer (p.map fun a=>a.add (j * size))) w:=
 x_idxP j hp ho hx hy hu hz hb
theorem w_i {ops:Array Oper} {Q:Exit→Act→World→Prop} {rest:List Oper} {d:Nat} {ty:TypeId} (i:Nat) (h:G N (wpList Tryz.prog ops Q rest) ((d,.int .i64 ((i+1:Nat):Int)) :: f) ds w) (hg:o.guard=none:=by rfl) (hd:o.dst=some d:=by rfl) (hN:Nat.blt d N=true:=by rfl) (ho:o.op=.binOp .add t x y ty:=by rfl) (hx:evo f x=some (.int .i64 (i:Int)):=by rfl) (hy:evo f y=some (.int .i64 1):=by rfl) (hb:i<9223372036854775807:=by omega):G N (wpList Tryz.prog ops Q (o :: rest)) f ds w:=
 w_v (x_bin ho hx hy (b_add (r:=((i+1:Nat):Int)) (by rw [w64 (by omega)]; omega))) h hg hd hN
theorem s_b1 {ops:Array Oper} {Q:Exit→Act→World→Prop} {d len:Nat} {ps:Array (Nat × Operand)} {vs:List Value} {z:Value} (hze:zeO Tryz.prog e=some z) (cells:Array Value) (H:S w L) (h:∀ g w',S w' (Ob g (.cells cells e (0,0)) :: L)→G N K ((d,.slice (some ⟨g,0,none⟩) len len) :: f) ds w') (hg:o.guard=none:=by rfl) (hd:o.dst=some d:=by rfl) (hN:Nat.blt d N=true:=by rfl) (ho:o.op=.buildSlice t len ps:=by rfl) (hx:evs f (ps.toList.map (·.2))=some vs:=by rfl)
   (hu:Tryz.prog.underlying t=some (.slice e):=by exact slT rfl) (hz:szO Tryz.prog e=some size:=by exact szT rfl) (hlen:Nat.ble (len * size) 16777216=true:=by rfl) (hpos:Nat.beq (len * size) 0=false:=by rfl) (hb:Instr.fill (fun i=>some (i * size,size)) ((Array.range (len * size)).map (z.cells[· % z.cells.size]!)) ((ps.toList.map (·.1)).zip vs)=some cells:=by kernel_rfl):G N (StepK Tryz.prog ops Q o K) f ds w:=
 s_buildSlice H (wt0 hg) hd hN ho hx hu hz hze hlen hpos hb h
theorem x_q (ho:o.op=.call { callee:=.builtin .len,args:=#[x],argTypes:=#[t] }:=by rfl) (hx:evo f x=some (.slice p n c):=by rfl) (hu:Tryz.prog.underlying t=some (.slice e):=by exact slT rfl):Ex Tryz.prog N f ds o w (.int .i64 n) w:=x_lenl ho hx hu
end
section
variable {ops:Array Oper} {md:Region.Mode} {C C0:World→Prop} {T:List Nat} {listed:Array Bool} {fuel:Nat} {f0:Fr} {d:Nat} {o:Oper} {v:Value}
theorem y_t (i:Nat) (hi:ops[i]?=some o) (hC:C w) (hx:∀ w,C w→Ex P N f ds o w v w) (h:G N (wpAnyY P md ops (PanP N f0 ds Q) C C0 T fuel (listed.setIfInBounds i true)) ((d,v) :: f) ds w) (hg:o.guard=none:=by rfl) (hd:o.dst=some d:=by rfl) (hN:Nat.blt d N=true:=by rfl) (h0:gt f0 d=none:=by rfl) (hs:Region.noSelect ops=true:=by kernel_rfl) (hf:Region.free md ops listed i=true:=by kernel_rfl) (hr:(Region.ready md ops listed).contains i=true:=by kernel_rfl)
   (hT:waitsC md ops T i=true:=by kernel_rfl) (hcl:closedB md ops listed=true:=by kernel_rfl):G N (wpAnyY P md ops (PanP N f0 ds Q) C C0 T (fuel+1) listed) f ds w:=y_take i hi (wt0 hg) hd hN h0 hs hf hr hT hcl hC hx h
theorem y_p (i:Nat) (hi:ops[i]?=some o) (hx:∀ w,Ex P N f ds o w v w) (h:G N (wpAnyY P md ops (PanP N f0 ds Q) C C0 T fuel (listed.setIfInBounds i true)) ((d,v) :: f) ds w) (hg:o.guard=none:=by rfl) (hd:o.dst=some d:=by rfl) (hN:Nat.blt d N=true:=by rfl) (h0:gt f0 d=none:=by rfl) (hs:Region.noSelect ops=true:=by kernel_rfl) (hf:Region.free md ops listed i=true:=by kernel_rfl) (hr:(Region.ready md ops listed).contains i=true:=by kernel_rfl)
   (hcl:closedB md ops listed=true:=by kernel_rfl):G N (wpAnyY P md ops (PanP N f0 ds Q) C C0 T (fuel+1) listed) f ds w:=y_pure i hi (wt0 hg) hd hN h0 hs hf hr hcl hx h
end
end
section
variable {P:Program} {N:Nat} {Q:Exit→Act→World→Prop} {f:Fr} {ds:List Deferred} {w:World} {y:Code} {ops:Array Oper} {l:List Oper} {id i:Nat}
theorem w_es (h:G N (wpList P l.toArray (Exit.then (y.wp P Q) Q) l) f ds w):G N (wpList P ops (Exit.then ((Code.seq (Code.region id l.toArray false) y).wp P Q) Q) []) f ds w:=w_e (w_s h)
theorem w_er (h:G N (wpList P l.toArray Q l) f ds w):G N (wpList P ops (Exit.then ((Code.region id l.toArray false).wp P Q) Q) []) f ds w:=w_e (g_region h)
theorem w_hs (h:G N (wpList P l.toArray (Exit.then (y.wp P Q) Q) l) f ds w):G N (Code.skip.wp P (Exit.then ((Code.seq (Code.region id l.toArray false) y).wp P Q) Q)) f ds w:=g_skip (g_then (w_s h))
theorem w_ht {K:Act→World→Prop} (h:G N K f ds w):G N (Code.skip.wp P (Exit.then K Q)) f ds w:=g_skip (g_then h)
theorem w_bs (h:G N (wpList P l.toArray (Exit.then (y.wp P (Exit.inBlock i Q)) (Exit.inBlock i Q)) l) f ds w):G N ((Code.block i (Code.seq (Code.region id l.toArray false) y)).wp P Q) f ds w:=g_block (w_s h)
end
section
variable {P:Program} {N:Nat} {Q:Exit→Act→World→Prop} {f:Fr} {ds:List Deferred} {w w':World} {o:Oper} {ops:Array Oper} {rest:List Oper} {d:Nat} {v:Value} {r:Option Nat} {n:Nat}
theorem R.w_v (hL:¬ LetsOut Q) (hx:Ex P N f ds o w v w') (h:G N (wpListIn (WF r) n P ops Q rest) ((d,v) :: f) ds w') (hg:o.guard=none:=by rfl) (hd:o.dst=some d:=by rfl) (hN:Nat.blt d N=true:=by rfl) (h0:isDefer o=false:=by rfl):G N (wpListIn (WF r) n P ops Q (o :: rest)) f ds w:=R.l_of h0 hL (s_val (wt0 hg) hd hN hx h)
end
structure HB (B:Prop):Prop where
 out:B
theorem w_0 {A B:Prop} (b:B) (h:HB B→A:=by intro k; (first | with_reducible refine w_s ?_ | with_reducible refine w_e ?_ | with_reducible refine g_then ?_ | with_reducible refine g_seq ?_ | with_reducible refine g_skip ?_ | with_reducible refine g_block ?_ | with_reducible refine g_nil ?_ | with_reducible refine g_region ?_ | with_reducible refine g_in ?_ | with_reducible refine g_ret ?_ | with_reducible refine g_then_ret ?_ | with_reducible refine g_in_ret ?_ | with_reducible refine g_exit ?_ | with_reducible refine g_then_exit ?_ | with_reducible refine g_in_hit ?_ | with_reducible refine g_label ?_ | with_reducible refine g_in_miss (by decide) ?_ | refine w_m ?_ | refine w_a ?_ | refine w_v x_f ?_ | refine w_v xn ?_ | refine w_v xe ?_ | refine w_b ?_ | refine w_v x_q ?_ | refine w_1 (by assumption) 0 ?_ | refine w_1 (by assumption) 1 ?_ | refine w_1 (by assumption) 2 ?_ | refine w_1 (by assumption) 3 ?_ | refine w_1 (by assumption) 4 ?_ | refine w_1 (by assumption) 5 ?_ | refine w_1 (by assumption) 6 ?_ | refine w_1 (by assumption) 7 ?_ | refine w_1 (by assumption) 8 ?_ | refine w_1 (by assumption) 9 ?_ | refine w_1 (by assumption) 10 ?_); exact k.1):A:=h ⟨b⟩
theorem w_k2 {A B:Prop} (b:B) (h:HB B→A:=by intro k; (iterate 2 refine w_0 ?_); exact k.1):A:=h ⟨b⟩
theorem w_k3 {A B:Prop} (b:B) (h:HB B→A:=by intro k; (iterate 3 refine w_0 ?_); exact k.1):A:=h ⟨b⟩
theorem w_k4 {A B:Prop} (b:B) (h:HB B→A:=by intro k; (iterate 4 refine w_0 ?_); exact k.1):A:=h ⟨b⟩
theorem w_k5 {A B:Prop} (b:B) (h:HB B→A:=by intro k; (iterate 5 refine w_0 ?_); exact k.1):A:=h ⟨b⟩
theorem w_k6 {A B:Prop} (b:B) (h:HB B→A:=by intro k; (iterate 6 refine w_0 ?_); exact k.1):A:=h ⟨b⟩
theorem w_k7 {A B:Prop} (b:B) (h:HB B→A:=by intro k; (iterate 7 refine w_0 ?_); exact k.1):A:=h ⟨b⟩
theorem w_k8 {A B:Prop} (b:B) (h:HB B→A:=by intro k; (iterate 8 refine w_0 ?_); exact k.1):A:=h ⟨b⟩
theorem w_k9 {A B:Prop} (b:B) (h:HB B→A:=by intro k; (iterate 9 refine w_0 ?_); exact k.1):A:=h ⟨b⟩
theorem w_k10 {A B:Prop} (b:B) (h:HB B→A:=by intro k; (iterate 10 refine w_0 ?_); exact k.1):A:=h ⟨b⟩
theorem w_k11 {A B:Prop} (b:B) (h:HB B→A:=by intro k; (iterate 11 refine w_0 ?_); exact k.1):A:=h ⟨b⟩
theorem w_k12 {A B:Prop} (b:B) (h:HB B→A:=by intro k; (iterate 12 refine w_0 ?_); exact k.1):A:=h ⟨b⟩
theorem w_k13 {A B:Prop} (b:B) (h:HB B→A:=by intro k; (iterate 13 refine w_0 ?_); exact k.1):A:=h ⟨b⟩
theorem w_k14 {A B:Prop} (b:B) (h:HB B→A:=by intro k; (iterate 14 refine w_0 ?_); exact k.1):A:=h ⟨b⟩
theorem w_k15 {A B:Prop} (b:B) (h:HB B→A:=by intro k; (iterate 15 refine w_0 ?_); exact k.1):A:=h ⟨b⟩
end Go.Proofs.YthmmfhdpkddniaaGreatDoor
