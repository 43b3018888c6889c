import Derived.Test.YthmmfhdpkddniaaGreatDoorGk
set_option linter.all false
namespace Go.Proofs.YthmmfhdpkddniaaGreatDoor
open Go.RowKit Go.Deep
section
variable {P:Program} {N:Nat} {Q:Exit→Act→World→Prop} {f:Fr} {ds:List Deferred} {w w':World} {o:Oper} {ops:Array Oper} {rest:List Oper} {L:List aD} {d:Nat} {v:Value}
theorem iF {y:Code} {id:Nat} {l:List Oper} (h:G N (wpList P l.toArray (Exit.then (y.wp P Q) Q) l) f ds w):G N ((Code.seq (Code.region id l.toArray false) y).wp P Q) f ds w:=g_seq (g_region h)
theorem cD {K:Act→World→Prop} (h:G N K f ds w):G N (wpList P ops (Exit.then K Q) []) f ds w:=g_nil (jq h)
theorem w_v (hx:Ex P N f ds o w v w') (h:G N (wpList P ops Q rest) ((d,v) :: f) ds w') (hg:o.guard=none:=by rfl) (hd:o.dst=some d:=by rfl) (hN:Nat.blt d N=true:=by rfl):G N (wpList P ops Q (o :: rest)) f ds w:=l_of (aJ (bh hg) hd hN hx h)
theorem aN {j:Nat} {b b':Bool} {oj:Oper} {dj:Nat} (h4:b'=b) (hx:Ex P N f ds o w v w') (h:G N (wpList P ops Q rest) ((d,v) :: f) ds w') (h0:o.guard=some (j,b):=by rfl) (h1:ops[j]?=some oj:=by rfl) (h2:oj.dst=some dj:=by rfl) (h3:gt f dj=some (.bool b'):=by rfl) (hd:o.dst=some d:=by rfl) (hN:Nat.blt d N=true:=by rfl):G N (wpList P ops Q (o :: rest)) f ds w:=l_of (aJ (cU h0 h1 h2 h3 h4) hd hN hx h)
theorem cJ {x:Operand} (h:G N (wpList P ops Q rest) ((d,v) :: f) ds w) (hg:o.guard=none:=by rfl) (hd:o.dst=some d:=by rfl) (hN:Nat.blt d N=true:=by rfl) (ho:o.op=.move x:=by rfl) (hx:cy f x=some v:=by rfl):G N (wpList P ops Q (o :: rest)) f ds w:=l_of (aJ (bh hg) hd hN (bY ho hx) h)
theorem Gs {x:Operand} (h:G N (wpList P ops Q rest) ((d,v) :: f) ds w) (hg:o.guard=none:=by rfl) (hd:o.dst=some d:=by rfl) (hN:Nat.blt d N=true:=by rfl) (ho:o.op=.assign x:=by rfl) (hx:cy f x=some v:=by rfl):G N (wpList P ops Q (o :: rest)) f ds w:=l_of (aJ (bh hg) hd hN (jS ho hx) h)
theorem ET {t:TypeId} {x:Operand} {g i:Nat} {cs:Array Value} {e:TypeId} {fr:Nat × Nat} (H:S w L) (k:Nat) (h:G N (wpList P ops Q rest) ((d,v) :: f) ds w) (hg:o.guard=none:=by rfl) (hd:o.dst=some d:=by rfl) (hN:Nat.blt d N=true:=by rfl) (ho:o.op=.load t x:=by rfl) (hx:cy f x=some (.pointer (some ⟨g,i,none⟩)):=by rfl) (hu:∃ dd,P.underlying t=some dd∧jF dd=false:=by exact Me rfl)
   (hk:L[k]?=some (Ob g (.cells cs e fr)):=by rfl) (hv:cs[i]?=some v:=by rfl):G N (wpList P ops Q (o :: rest)) f ds w:=by
 obtain ⟨dd,q1,q2⟩:=hu
 exact l_of (aJ (bh hg) hd hN (gi H k ho hx q1 q2 hk hv) h)
theorem bP {op:BinOp} {t ty:TypeId} {x y:Operand} {vx vy:Value} (h:G N (wpList P ops Q rest) ((d,v) :: f) ds w) (hg:o.guard=none:=by rfl) (hd:o.dst=some d:=by rfl) (hN:Nat.blt d N=true:=by rfl) (ho:o.op=.binOp op t x y ty:=by rfl) (hx:cy f x=some vx:=by rfl) (hy:cy f y=some vy:=by rfl) (hb:iM P op t x y vx vy w v:=by first | exact f7 | exact dG | exact pA | exact fK | exact nm):G N (wpList P ops Q (o :: rest)) f ds w:=l_of (aJ (bh hg) hd hN (ai ho hx hy hb) h)
theorem dh {j:Nat} {b b':Bool} {oj:Oper} {dj:Nat} (h4:b'=!b) (h:G N (wpList P ops Q rest) ((d,undef) :: f) ds w) (h0:o.guard=some (j,b):=by rfl) (h1:ops[j]?=some oj:=by rfl) (h2:oj.dst=some dj:=by rfl) (h3:gt f dj=some (.bool b'):=by rfl) (hd:o.dst=some d:=by rfl) (hN:Nat.blt d N=true:=by rfl):G N (wpList P ops Q (o :: rest)) f ds w:=l_of (GA (nY h0 h1 h2 h3 h4) hd hN h)
theorem xf {s i n:Nat} {x:Operand} {g off:Nat} (off':Nat) (ho:o.op=.fieldAddr s x i:=by rfl) (hx:cy f x=some (.pointer (some ⟨g,off,none⟩)):=by rfl) (hf:u_ P s i=some n:=by exact Q_ rfl) (he:off+n=off':=by rfl):Ex P N f ds o w (.pointer (some ⟨g,off',none⟩)) w:=c_ ho hx hf he
theorem xl {t:TypeId} {x:Operand} {g i:Nat} {cs:Array Value} {e:TypeId} {fr:Nat × Nat} (H:S w L) (k:Nat) (ho:o.op=.load t x:=by rfl) (hx:cy f x=some (.pointer (some ⟨g,i,none⟩)):=by rfl) (hu:∃ dd,P.underlying t=some dd∧jF dd=false:=by exact Me rfl) (hk:L[k]?=some (Ob g (.cells cs e fr)):=by rfl) (hv:cs[i]?=some v:=by rfl):Ex P N f ds o w v w:=by
 obtain ⟨dd,q1,q2⟩:=hu
 exact gi H k ho hx q1 q2 hk hv
theorem xm {x:Operand} (ho:o.op=.move x:=by rfl) (hx:cy f x=some v:=by rfl):Ex P N f ds o w v w:=bY ho hx
theorem xa {x:Operand} (ho:o.op=.assign x:=by rfl) (hx:cy f x=some v:=by rfl):Ex P N f ds o w v w:=jS ho hx
theorem xn {x:Operand} {p:Addr} (ho:o.op=.nilCheck x:=by rfl) (hx:cy f x=some (.pointer (some p)):=by rfl):Ex P N f ds o w (.pointer (some p)) w:=fm ho hx
theorem xe {x:Operand} {i:Nat} {vs:Array Value} (ho:o.op=.extract x i:=by rfl) (hx:cy f x=some (.tuple vs):=by rfl) (hv:vs[i]?=some v:=by rfl):Ex P N f ds o w v w:=E8 ho hx hv
theorem PS {K:Act→World→Prop} {t:TypeId} {x y:Operand} {g i:Nat} {cs:Array Value} {e:TypeId} (cs':Array Value) (H:S w L) (k:Nat) (h:∀ w',S w' (L.set k (Ob g (.cells cs' e (0,0))))→G N K f ds w') (hg:o.guard=none:=by rfl) (hd:o.dst=none:=by rfl) (ho:o.op=.store t x y:=by rfl) (hx:cy f x=some (.pointer (some ⟨g,i,none⟩)):=by rfl)
   (hy:cy f y=some v:=by rfl) (hk:L[k]?=some (Ob g (.cells cs e (0,0))):=by rfl) (hn:jW P t=some v.cells.size:=by exact Pz rfl) (hl:Nat.ble (i+v.cells.size) cs.size=true:=by rfl) (h1:v.cells.toList.all (·.oneCell')=true:=by rfl)
   (hc:(cs.toList.take i++v.cells.toList++cs.toList.drop (i+v.cells.size)).toArray=cs':=by rfl):G N (bH P ops Q o K) f ds w:=b_ H k (bh hg) hd ho hx hy hk hn hl h1 hc h
theorem Sq {s i n:Nat} {x:Operand} {g off:Nat} (ho:o.op=.fieldAddr s x i:=by rfl) (hx:cy f x=some (.pointer (some ⟨g,off,none⟩)):=by rfl) (hf:u_ P s i=some n:=by exact Q_ rfl):Ex P N f ds o w (.pointer (some ⟨g,off+n,none⟩)) w:=c_ ho hx hf rfl
theorem bZ {K:Act→World→Prop} {g:FuncId} {vs:List Value} (H:S w L) (hw:Wt ops f o) (hx:Q5 P N f ds o w g vs w) (hc:Calls P g vs.toArray w (fun e w'=>e=.returned v∧S w' [aB w no])) (hd:o.dst=some d) (hN:Nat.blt d N=true)
   (h:∀ w',S w' L→G N K ((d,v) :: f) ds w'):G N (bH P ops Q o K) f ds w:=
 bR hw hx hc fun e w'' he=>by
   obtain ⟨rfl,h2⟩:=he
   exact wm hd hN (h _ (H.absorb (new:=[]) h2))
end
section
variable {P:Program} {N:Nat} {ops:Array Oper} {Q:Exit→Act→World→Prop} {md:Region.Mode} {C:World→Prop} {T:List Nat} {f:Fr} {ds:List Deferred} {w:World} {listed:Array Bool} {fuel:Nat}
theorem rC {a b c d:Bool} (h:(a && b && c && d)=true):a=true∧b=true∧c=true∧d=true:=by
 cases a <;> cases b <;> cases c <;> cases d <;> simp at h ⊢
theorem bT {f0:Fr} {d:Nat} {o:Oper} {v:Value} (i:Nat) (hi:ops[i]?=some o) (hC:C w) (hx:∀ w,C w→Ex P N f ds o w v w)
   (h:G N (cF P md ops (cR N f0 ds Q) C T fuel (listed.setIfInBounds i true)) ((d,v) :: f) ds w) (hg:o.guard=none:=by rfl) (hd:o.dst=some d:=by rfl) (hN:Nat.blt d N=true:=by rfl) (h0:gt f0 d=none:=by rfl) (hB:(Region.noSelect ops && Region.free md ops listed i && (Region.ready md ops listed).contains i && vf md ops T i)=true:=by kernel_rfl):G N (cF P md ops (cR N f0 ds Q) C T (fuel+1) listed) f ds w:=
 jO i hi (bh hg) hd hN h0 (rC hB).1 (rC hB).2.1 (rC hB).2.2.1 (rC hB).2.2.2 hC hx h
theorem da {f0:Fr} {d:Nat} {o:Oper} {v:Value} {j:Nat} {b b':Bool} {oj:Oper} {dj:Nat} (i:Nat) (hi:ops[i]?=some o) (h4:b'=b) (hC:C w) (hx:∀ w,C w→Ex P N f ds o w v w)
   (h:G N (cF P md ops (cR N f0 ds Q) C T fuel (listed.setIfInBounds i true)) ((d,v) :: f) ds w) (g0:o.guard=some (j,b):=by rfl) (g1:ops[j]?=some oj:=by rfl) (g2:oj.dst=some dj:=by rfl) (g3:gt f dj=some (.bool b'):=by rfl) (hd:o.dst=some d:=by rfl) (hN:Nat.blt d N=true:=by rfl) (h0:gt f0 d=none:=by rfl) (hB:(Region.noSelect ops && Region.free md ops listed i && (Region.ready md ops listed).contains i && vf md ops T i)=true:=by kernel_rfl):G N (cF P md ops (cR N f0 ds Q) C T (fuel+1) listed) f ds w:=
 jO i hi (cU g0 g1 g2 g3 h4) hd hN h0 (rC hB).1 (rC hB).2.1 (rC hB).2.2.1 (rC hB).2.2.2 hC hx h
theorem aZ {f0:Fr} {d:Nat} {o:Oper} {j:Nat} {b b':Bool} {oj:Oper} {dj:Nat} (i:Nat) (hi:ops[i]?=some o) (h4:b'=!b) (hC:C w)
   (h:G N (cF P md ops (cR N f0 ds Q) C T fuel (listed.setIfInBounds i true)) ((d,undef) :: f) ds w) (g0:o.guard=some (j,b):=by rfl) (g1:ops[j]?=some oj:=by rfl) (g2:oj.dst=some dj:=by rfl) (g3:gt f dj=some (.bool b'):=by rfl) (hd:o.dst=some d:=by rfl) (hN:Nat.blt d N=true:=by rfl) (h0:gt f0 d=none:=by rfl) (hB:(Region.noSelect ops && Region.free md ops listed i && (Region.ready md ops listed).contains i && vf md ops T i)=true:=by kernel_rfl):G N (cF P md ops (cR N f0 ds Q) C T (fuel+1) listed) f ds w:=
 jH i hi (nY g0 g1 g2 g3 h4) hd hN h0 (rC hB).1 (rC hB).2.1 (rC hB).2.2.1 (rC hB).2.2.2 hC h
theorem Jy {C0:World→Prop} {f0:Fr} {d:Nat} {o:Oper} {v:Value} (i:Nat) (hi:ops[i]?=some o) (hw:Wt ops f o) (hd:o.dst=some d) (hN:Nat.blt d N=true) (h0:gt f0 d=none) (hB:(Region.noSelect ops && Region.free md ops listed i && (Region.ready md ops listed).contains i && jR md ops listed)=true) (hx:∀ w,Ex P N f ds o w v w)
   (h:G N (db P md ops (cR N f0 ds Q) C C0 T fuel (listed.setIfInBounds i true)) ((d,v) :: f) ds w):G N (db P md ops (cR N f0 ds Q) C C0 T (fuel+1) listed) f ds w:=
 jI i hi hw hd hN h0 (rC hB).1 (rC hB).2.1 (rC hB).2.2.1 (rC hB).2.2.2 hx h
end
theorem ru {A B:Prop} (b:B) (h:B→A:=by intro k; (iterate 2 first | refine cJ ?_ | refine Gs ?_ | refine w_v Sq ?_ | refine w_v xn ?_ | refine w_v xe ?_); exact k):A:=h b
theorem vV {A B:Prop} (b:B) (h:B→A:=by intro k; (iterate 3 first | refine cJ ?_ | refine Gs ?_ | refine w_v Sq ?_ | refine w_v xn ?_ | refine w_v xe ?_); exact k):A:=h b
section
variable {w w1:World} {L new M:List aD}
theorem S.abI (h:S w L) (ks:List Nat) (h1:S w1 (new++[aB w (aT (Au ks L))])) (e:new++jZ ks 0 L=M):S w1 M:=e ▸ h.absorbI ks h1
theorem S.ab0 (h:S w L) (h1:S w1 [aB w no]):S w1 L:=h.absorb (new:=[]) h1
theorem S.tk (h:S w L) (ks:List Nat) (hn:ks.Nodup:=by decide):S w (Au ks L):=h.takes ks hn
theorem S.rr {e size n c:Nat} {p:Option Addr} {xs:List Value} (h:S w L) (k:Nat) (hk:L[k]?=some (Rw e size p n c xs):=by rfl):bz w p n c size xs:=h.rwReads hk
variable {P:Program} {N:Nat} {K:Act→World→Prop} {Q:Exit→Act→World→Prop} {f:Fr} {ds:List Deferred}
theorem MU (f':Fr) (h:G N K f' ds w) (hs:sub f' f:=by (repeat (refine ⟨rfl,?_⟩)); exact trivial):G N K f ds w:=sG f' hs h
theorem bD {ι:Type} {F:ι→Fr} {I:ι→World→Prop} {μ:ι→Nat} {i:ι} (j:ι) (h:I j w) (hs:sub (F j) f:=by (repeat (refine ⟨rfl,?_⟩)); exact trivial) (hμ:μ j<μ i:=by (try dsimp only); omega) :
   G N (fun a' w'=>∃ j,(jX N a' (F j) ds∧I j w')∧μ j<μ i) f ds w:=qI j hs h hμ
theorem QC {fn:Func} {R:Ending→World→Prop} (rs:List ResultVar) (vs:List Value) (hR:R (.returned (dQ vs)) w) (h:pg P f w rs vs:=by (repeat (refine ⟨rfl,?_⟩)); exact trivial) (hr:fn.results=rs.toArray:=by rfl):G N (bodyPost P fn R .ret) f [] w:=d5 rs vs hr h hR
theorem bz.exL {α:Type} {size:Nat} {enc:α→List Value} {p:Option Addr} {n c:Nat} {l:List α} (hr:bz w p n c size (fl enc l)) (E:mT size enc) (j:Nat) (hj:j<n:=by omega):∃ x,l[j]?=Option.some x:=Mz (by rw [← hr.lenL E]; exact hj)
section
variable {p:Prop} [Decidable p] {c:Operand} {x y:Code}
theorem bm (hp:p) (h:G N (x.wp P Q) f ds w) (hc:cy f c=some (.bool (decide p)):=by rfl):G N ((Code.cond c x y).wp P Q) f ds w:=g_cond_t hc (decide_eq_true hp) h
theorem br (hp:¬ p) (h:G N (y.wp P Q) f ds w) (hc:cy f c=some (.bool (decide p)):=by rfl):G N ((Code.cond c x y).wp P Q) f ds w:=g_cond_f hc (decide_eq_false hp) h
theorem mX (hp:¬ p) (h:G N (x.wp P Q) f ds w) (hc:cy f c=some (.bool (!decide p)):=by rfl):G N ((Code.cond c x y).wp P Q) f ds w:=g_cond_t hc (nt hp) h
theorem kw (hp:p) (h:G N (y.wp P Q) f ds w) (hc:cy f c=some (.bool (!decide p)):=by rfl):G N ((Code.cond c x y).wp P Q) f ds w:=g_cond_f hc (nf hp) h
end
section
variable {o:Oper} {ops:Array Oper} {rest:List Oper} {d:Nat} {v:Value}
theorem kJ {QQ:Act→Prop} (hx:∀ w,S w L→Ex P N f ds o w v w) (h:GQ N (wpQuiet P ops (fun w=>S w L) QQ rest) ((d,v) :: f) ds) (hg:o.guard=none:=by rfl) (hd:o.dst=some d:=by rfl) (hN:Nat.blt d N=true:=by rfl):GQ N (wpQuiet P ops (fun w=>S w L) QQ (o :: rest)) f ds:=lF (bh hg) hd hN hx h
theorem iW (hx:Ex P N f ds o w v w1) (h:G N K ((d,v) :: f) ds w1) (hg:o.guard=none:=by rfl) (hd:o.dst=some d:=by rfl) (hN:Nat.blt d N=true:=by rfl):G N (bH P ops Q o K) f ds w:=aJ (bh hg) hd hN hx h
theorem aG {g:FuncId} {vs:List Value} {R:Ending→World→Prop} {args:Array Operand} {ts:Array TypeId} (hc:Calls P g vs.toArray w R) (h:∀ e w'',R e w''→Gx N o K Q f ds e w'') (hg:o.guard=none:=by rfl) (ho:o.op=.call { callee:=.value (.func g),args:=args,argTypes:=ts }:=by rfl) (hv:rj f args.toList=some vs:=by rfl) (hcl:aI P g=true:=by kernel_rfl):G N (bH P ops Q o K) f ds w:=
 bR (bh hg) (aP ho hv hcl) hc h
variable {t e size n c:Nat} {x y:Operand} {k:IntKind} {i:Int} {p:Option Addr} {xs:List Value}
theorem yq {s a b g off m:Nat} {x0:Operand} (ho:o.op=.fieldAddr s x0 a:=by rfl) (hx:cy f x0=some (.pointer (some ⟨g,off,none⟩)):=by rfl) (hf:u_ P s a=some b:=by exact Q_ rfl) (he:off+b=m:=by first | (simp only [Nat.reduceAdd]; rfl) | rfl):Ex P N f ds o w (.pointer (some ⟨g,m,none⟩)) w:=c_ ho hx hf he
theorem nX (j:Nat) (hr:bz w p n c size xs) (hv:xs[j * size]?=some v) (hj:j<n:=by omega) (ho:o.op=.load t x:=by rfl) (hx:cy f x=some (.pointer (p.map fun a=>a.add (j * size))):=by rfl) (hu:∃ dd,P.underlying t=some dd∧jF dd=false:=by exact Me rfl):Ex P N f ds o w v w:=by
 obtain ⟨dd,q1,q2⟩:=hu
 exact wT j hr hj ho hx q1 q2 hv
end
section
variable {o:Oper} {t e size n c:Nat} {x y:Operand} {k:IntKind} {i:Int} {p:Option Addr} {xs:List Value}
theorem iH (j:Nat) (hr:bz w p n c size xs) (ho:o.op=.indexAddr t x y:=by rfl) (hx:cy f x=some (.slice p n c):=by rfl) (hy:cy f y=some (.int k i):=by rfl) (hu:Tryz.prog.underlying t=some (.slice e):=by exact PC rfl) (hz:jW Tryz.prog e=some size:=by exact Pz rfl) (hb:i=(j:Int)∧j<n:=by omega):Ex Tryz.prog N f ds o w (.pointer (p.map fun a=>a.add (j * size))) w:=
 Ch j hr ho hx hy hu hz hb
theorem eZ (j:Nat) (hp:∃ a,p=some a) (ho:o.op=.indexAddr t x y:=by rfl) (hx:cy f x=some (.slice p n c):=by rfl) (hy:cy f y=some (.int k i):=by rfl) (hu:Tryz.prog.underlying t=some (.slice e):=by exact PC rfl) (hz:jW Tryz.prog e=some size:=by exact Pz rfl) (hb:i=(j:Int)∧j<n:=by omega):Ex Tryz.prog N f ds o w (.pointer (p.map fun a=>a.add (j * size))) w:=
 zG j hp ho hx hy hu hz hb
theorem gI {ops:Array Oper} {Q:Exit→Act→World→Prop} {rest:List Oper} {d:Nat} {ty:TypeId} (i:Nat) (h:G N (wpList Tryz.prog ops Q rest) ((d,.int .i64 ((i+1:Nat):Int)) :: f) ds w) (hg:o.guard=none:=by rfl) (hd:o.dst=some d:=by rfl) (hN:Nat.blt d N=true:=by rfl) (ho:o.op=.binOp .add t x y ty:=by rfl) (hx:cy f x=some (.int .i64 (i:Int)):=by rfl) (hy:cy f y=some (.int .i64 1):=by rfl) (hb:i<9223372036854775807:=by omega):G N (wpList Tryz.prog ops Q (o :: rest)) f ds w:=
 w_v (ai ho hx hy (dY (r:=((i+1:Nat):Int)) (by rw [jD (by omega)]; omega))) h hg hd hN
theorem fC {ops:Array Oper} {Q:Exit→Act→World→Prop} {d len:Nat} {ps:Array (Nat × Operand)} {vs:List Value} {z:Value} (hze:tw Tryz.prog e=some z) (cells:Array Value) (H:S w L) (h:∀ g w',S w' (Ob g (.cells cells e (0,0)) :: L)→G N K ((d,.slice (some ⟨g,0,none⟩) len len) :: f) ds w') (hg:o.guard=none:=by rfl) (hd:o.dst=some d:=by rfl) (hN:Nat.blt d N=true:=by rfl) (ho:o.op=.buildSlice t len ps:=by rfl) (hx:rj f (ps.toList.map (·.2))=some vs:=by rfl)
   (hu:Tryz.prog.underlying t=some (.slice e):=by exact PC rfl) (hz:jW Tryz.prog e=some size:=by exact Pz rfl) (hlen:Nat.ble (len * size) 16777216=true:=by rfl) (hpos:Nat.beq (len * size) 0=false:=by rfl) (hb:Instr.fill (fun i=>some (i * size,size)) ((Array.range (len * size)).map (z.cells[· % z.cells.size]!)) ((ps.toList.map (·.1)).zip vs)=some cells:=by kernel_rfl):G N (bH Tryz.prog ops Q o K) f ds w:=
 iU H (bh hg) hd hN ho hx hu hz hze hlen hpos hb h
theorem Qk {α:Type} {enc:α→List Value} {ops:Array Oper} {Q:Exit→Act→World→Prop} {d bytes m sc g:Nat} {s:Operand} {z:Value} {l:List α} {cs:Array Value} (hi:kf Tryz.prog e=some (some z,size,bytes)) (l2:List α) (E:mT size enc) (H:S w L) (k j0:Nat) (hb:(n+m) * bytes≤140737488355328)
   (h:∀ p' c' w',S w' (L.set k (Rw e size p' (l++l2).length c' (fl enc (l++l2))))→G N K ((d,.slice p' (l++l2).length c') :: f) ds w') (hg:o.guard=none:=by rfl) (hd:o.dst=some d:=by rfl) (hN:Nat.blt d N=true:=by rfl) (ho:o.op=.call { callee:=.builtin .append,args:=#[s,x],argTypes:=#[t,t] }:=by rfl) (hs:cy f s=some (.slice p n sc):=by rfl) (hx:cy f x=some (.slice (some ⟨g,0,none⟩) m c):=by rfl)
   (hk:L[k]?=some (Rw e size p n sc (fl enc l)):=by rfl) (hj:L[j0]?=some (Ob g (.cells cs e (0,0))):=by rfl) (hcs:cs.toList=fl enc l2:=by rfl) (hm:m=l2.length∧m≤c:=by exact ⟨rfl,Nat.le_refl _⟩) (ht:Tryz.prog.underlying t=some (.slice e):=by exact PC rfl) (hz:z.cells.size=size:=by rfl) (hb0:0<bytes:=by decide):G N (bH Tryz.prog ops Q o K) f ds w:=
 t6 E H k hj hcs hm (bh hg) hd hN ho hs hx hk ht hi hz hb0 hb h
theorem Aw (ho:o.op=.call { callee:=.builtin .len,args:=#[x],argTypes:=#[t] }:=by rfl) (hx:cy f x=some (.slice p n c):=by rfl) (hu:Tryz.prog.underlying t=some (.slice e):=by exact PC rfl):Ex Tryz.prog N f ds o w (.int .i64 n) w:=GP ho hx hu
end
section
variable {ops:Array Oper} {md:Region.Mode} {C C0:World→Prop} {T:List Nat} {listed:Array Bool} {fuel:Nat} {f0:Fr} {d:Nat} {o:Oper} {v:Value}
theorem yt (i:Nat) (hi:ops[i]?=some o) (hC:C w) (hx:∀ w,C w→Ex P N f ds o w v w) (h:G N (db P md ops (cR N f0 ds Q) C C0 T fuel (listed.setIfInBounds i true)) ((d,v) :: f) ds w) (hg:o.guard=none:=by rfl) (hd:o.dst=some d:=by rfl) (hN:Nat.blt d N=true:=by rfl) (h0:gt f0 d=none:=by rfl) (hs:Region.noSelect ops=true:=by kernel_rfl) (hf:Region.free md ops listed i=true:=by kernel_rfl) (hr:(Region.ready md ops listed).contains i=true:=by kernel_rfl)
   (hT:wt md ops T i=true:=by kernel_rfl) (hcl:jR md ops listed=true:=by kernel_rfl):G N (db P md ops (cR N f0 ds Q) C C0 T (fuel+1) listed) f ds w:=uG i hi (bh hg) hd hN h0 hs hf hr hT hcl hC hx h
theorem Jz (i:Nat) (hi:ops[i]?=some o) (hC:C0 w) (hx:∀ w,C0 w→Ex P N f ds o w v w) (h:G N (db P md ops (cR N f0 ds Q) C C0 T fuel (listed.setIfInBounds i true)) ((d,v) :: f) ds w) (hg:o.guard=none:=by rfl) (hd:o.dst=some d:=by rfl) (hN:Nat.blt d N=true:=by rfl) (h0:gt f0 d=none:=by rfl) (hs:Region.noSelect ops=true:=by kernel_rfl) (hf:Region.free md ops listed i=true:=by kernel_rfl) (hr:(Region.ready md ops listed).contains i=true:=by kernel_rfl)
   (hcl:jR md ops listed=true:=by kernel_rfl):G N (db P md ops (cR N f0 ds Q) C C0 T (fuel+1) listed) f ds w:=JD i hi (bh hg) hd hN h0 hs hf hr hcl hC hx h
theorem rE (i:Nat) (hi:ops[i]?=some o) (hx:∀ w,Ex P N f ds o w v w) (h:G N (db P md ops (cR N f0 ds Q) C C0 T fuel (listed.setIfInBounds i true)) ((d,v) :: f) ds w) (hg:o.guard=none:=by rfl) (hd:o.dst=some d:=by rfl) (hN:Nat.blt d N=true:=by rfl) (h0:gt f0 d=none:=by rfl) (hs:Region.noSelect ops=true:=by kernel_rfl) (hf:Region.free md ops listed i=true:=by kernel_rfl) (hr:(Region.ready md ops listed).contains i=true:=by kernel_rfl)
   (hcl:jR md ops listed=true:=by kernel_rfl):G N (db P md ops (cR N f0 ds Q) C C0 T (fuel+1) listed) f ds w:=jI i hi (bh hg) hd hN h0 hs hf hr hcl hx h
end
end
section
variable {P:Program} {N:Nat} {Q:Exit→Act→World→Prop} {f:Fr} {ds:List Deferred} {w:World} {y:Code} {ops:Array Oper} {l:List Oper} {id i:Nat}
end
section
variable {P:Program} {N:Nat} {Q:Exit→Act→World→Prop} {f:Fr} {ds:List Deferred} {w w':World} {o:Oper} {ops:Array Oper} {rest:List Oper} {d:Nat} {v:Value} {r:Option Nat} {n:Nat}
theorem R.w_v (hL:¬ LetsOut Q) (hx:Ex P N f ds o w v w') (h:G N (wpListIn (WF r) n P ops Q rest) ((d,v) :: f) ds w') (hg:o.guard=none:=by rfl) (hd:o.dst=some d:=by rfl) (hN:Nat.blt d N=true:=by rfl) (h0:iP o=false:=by rfl):G N (wpListIn (WF r) n P ops Q (o :: rest)) f ds w:=R.l_of h0 hL (aJ (bh hg) hd hN hx h)
end
structure HB (B:Prop):Prop where
 out:B
theorem aR {A B:Prop} (b:B) (h:HB B→A:=by intro k; (first | with_reducible refine iF ?_ | with_reducible refine cD ?_ | with_reducible refine jq ?_ | with_reducible refine g_seq ?_ | with_reducible refine g_skip ?_ | with_reducible refine g_block ?_ | with_reducible refine g_nil ?_ | with_reducible refine g_region ?_ | with_reducible refine RG ?_ | with_reducible refine g_ret ?_ | with_reducible refine ye ?_ | with_reducible refine IJ ?_ | with_reducible refine g_exit ?_ | with_reducible refine B2 ?_ | with_reducible refine IK ?_ | with_reducible refine Er ?_ | with_reducible refine FX (by decide) ?_ | refine cJ ?_ | refine Gs ?_ | refine w_v yq ?_ | refine w_v xn ?_ | refine w_v xe ?_ | refine bP ?_ | refine w_v Aw ?_ | refine ET (by assumption) 0 ?_ | refine ET (by assumption) 1 ?_ | refine ET (by assumption) 2 ?_ | refine ET (by assumption) 3 ?_ | refine ET (by assumption) 4 ?_ | refine ET (by assumption) 5 ?_ | refine ET (by assumption) 6 ?_ | refine ET (by assumption) 7 ?_ | refine ET (by assumption) 8 ?_ | refine ET (by assumption) 9 ?_ | refine ET (by assumption) 10 ?_); exact k.1):A:=h ⟨b⟩
theorem ae {A B:Prop} (b:B) (h:HB B→A:=by intro k; (iterate 2 refine aR ?_); exact k.1):A:=h ⟨b⟩
theorem aC {A B:Prop} (b:B) (h:HB B→A:=by intro k; (iterate 3 refine aR ?_); exact k.1):A:=h ⟨b⟩
theorem aE {A B:Prop} (b:B) (h:HB B→A:=by intro k; (iterate 4 refine aR ?_); exact k.1):A:=h ⟨b⟩
theorem aQ {A B:Prop} (b:B) (h:HB B→A:=by intro k; (iterate 5 refine aR ?_); exact k.1):A:=h ⟨b⟩
theorem a_ {A B:Prop} (b:B) (h:HB B→A:=by intro k; (iterate 6 refine aR ?_); exact k.1):A:=h ⟨b⟩
theorem cp {A B:Prop} (b:B) (h:HB B→A:=by intro k; (iterate 7 refine aR ?_); exact k.1):A:=h ⟨b⟩
theorem dz {A B:Prop} (b:B) (h:HB B→A:=by intro k; (iterate 8 refine aR ?_); exact k.1):A:=h ⟨b⟩
theorem eG {A B:Prop} (b:B) (h:HB B→A:=by intro k; (iterate 9 refine aR ?_); exact k.1):A:=h ⟨b⟩
theorem cS {A B:Prop} (b:B) (h:HB B→A:=by intro k; (iterate 10 refine aR ?_); exact k.1):A:=h ⟨b⟩
theorem io {A B:Prop} (b:B) (h:HB B→A:=by intro k; (iterate 11 refine aR ?_); exact k.1):A:=h ⟨b⟩
theorem jG {A B:Prop} (b:B) (h:HB B→A:=by intro k; (iterate 12 refine aR ?_); exact k.1):A:=h ⟨b⟩
theorem v_ {A B:Prop} (b:B) (h:HB B→A:=by intro k; (iterate 13 refine aR ?_); exact k.1):A:=h ⟨b⟩
theorem Qd {A B:Prop} (b:B) (h:HB B→A:=by intro k; (iterate 14 refine aR ?_); exact k.1):A:=h ⟨b⟩
theorem yM {A B:Prop} (b:B) (h:HB B→A:=by intro k; (iterate 15 refine aR ?_); exact k.1):A:=h ⟨b⟩
theorem Qc {A B:Prop} (b:B) (h:HB B→A:=by intro k; (iterate 16 refine aR ?_); exact k.1):A:=h ⟨b⟩
end Go.Proofs.YthmmfhdpkddniaaGreatDoor
