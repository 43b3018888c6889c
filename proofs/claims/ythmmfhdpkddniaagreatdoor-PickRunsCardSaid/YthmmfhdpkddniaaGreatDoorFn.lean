import Derived.Test.YthmmfhdpkddniaaGreatDoorFm
import Derived.Test.YthmmfhdpkddniaaGreatDoorBa
set_option linter.all false
namespace Go.Proofs.YthmmfhdpkddniaaGreatDoor
open Go.RowKit Go.Deep
abbrev vI (i:Int):Value:=.int .i64 i
abbrev vP (g:Nat):Value:=.pointer (some ⟨g,0,none⟩)
section
variable {P:Program} {N:Nat} {Q:Exit→Act→World→Prop} {f:Fr} {ds:List Deferred} {w:World} {ops:Array Oper} {md:Region.Mode} {C C0:World→Prop} {T:List Nat} {listed:Array Bool} {fuel:Nat} {f0:Fr} {d:Nat} {o:Oper} {v:Value} {L:List aD}
theorem Gn (i:Nat) (hi:ops[i]?=some o) (hx:∀ w,Ex P N f ds o w v w) (h:G N (cF P md ops (cR N f0 ds Q) C T fuel (listed.setIfInBounds i true)) ((d,v) :: f) ds w) (hC:∀ w,C w:=by exact fun _=>trivial) (hg:o.guard=none:=by rfl) (hd:o.dst=some d:=by rfl) (hN:Nat.blt d N=true:=by rfl) (h0:gt f0 d=none:=by rfl) (hB:(Region.noSelect ops && Region.free md ops listed i && (Region.ready md ops listed).contains i)=true:=by kernel_rfl):G N (cF P md ops (cR N f0 ds Q) C T (fuel+1) listed) f ds w:=by
 rw [Bool.and_eq_true,Bool.and_eq_true] at hB
 exact Ht i hi (bh hg) hd hN h0 hB.1.1 hB.1.2 hB.2 (.inr hC) hx h
theorem bG {i:Nat} (h:G N (bH P ops Q o (AK P md ops Q C T fuel listed i)) f ds w) (hr:Region.ready md ops listed=[i]:=by kernel_rfl) (hi:ops[i]?=some o:=by rfl):G N (cF P md ops Q C T (fuel+1) listed) f ds w:=vk hr hi h
theorem fP (h:G N (Q .normal) f ds w) (hr:Region.ready md ops listed=[]:=by kernel_rfl):G N (cF P md ops (cR N f0 ds Q) C T fuel listed) f ds w:=Px hr h
end
section
variable {P:Program} {N:Nat} {Q:Exit→Act→World→Prop} {K:Act→World→Prop} {f:Fr} {ds:List Deferred} {w:World} {ops:Array Oper} {d:Nat} {o:Oper} {v:Value} {L:List aD}
theorem ku {j:Nat} {b b':Bool} {oj:Oper} {dj:Nat} (h4:b'=!b) (h:G N K ((d,undef) :: f) ds w) (g0:o.guard=some (j,b):=by rfl) (g1:ops[j]?=some oj:=by rfl) (g2:oj.dst=some dj:=by rfl) (g3:gt f dj=some (.bool b'):=by rfl) (hd:o.dst=some d:=by rfl) (hN:Nat.blt d N=true:=by rfl):G N (bH P ops Q o K) f ds w:=GA (nY g0 g1 g2 g3 h4) hd hN h
theorem cz {g:FuncId} {vs:List Value} {args:Array Operand} {ts:Array TypeId} (H:S w L) (hc:Calls P g vs.toArray w (fun e w'=>e=.returned v∧S w' [aB w no])) (h:∀ w',S w' L→G N K ((d,v) :: f) ds w') (hg:o.guard=none:=by rfl) (ho:o.op=.call { callee:=.value (.func g),args:=args,argTypes:=ts }:=by rfl) (hv:rj f args.toList=some vs:=by rfl) (hcl:aI P g=true:=by kernel_rfl) (hd:o.dst=some d:=by rfl) (hN:Nat.blt d N=true:=by rfl):G N (bH P ops Q o K) f ds w:=bZ H (bh hg) (aP ho hv hcl) hc hd hN h
end
inductive Sp {α:Type}:List α→List α→Prop
 | n:Sp [] []
 | c {x:α} {l m:List α} (h:Sp l m):Sp (x :: l) (x :: m)
theorem Sp.eq {α:Type} {l m:List α} (h:Sp l m):l=m:=by
 induction h with
 | n=>rfl
 | c _ ih=>rw [ih]
theorem S.sp {w:World} {L M:List aD} (h:S w L) (e:Sp L M):S w M:=e.eq ▸ h
section
variable {w w1:World} {L M B R:List aD} {a b c d e f g:aD}
theorem S.ub (h:S w L) (ks:List Nat) (hn:ks.Nodup:=by decide) (hk:Au ks L=fN M :: B:=by rfl) (e:Sp (M++B) R:=by (repeat (apply Sp.c)); exact Sp.n):S w R:=(S.unbig (hk ▸ h.takes ks hn)).sp e
theorem S.b7 (h:S w L) (ks:List Nat) (hn:ks.Nodup:=by decide) (hk:Sp (Au ks L) (a :: b :: c :: d :: e :: f :: g :: B):=by (repeat (apply Sp.c)); exact Sp.n):S w (fN [a,b,c,d,e,f,g] :: B):=S.big (L:=[a,b,c,d,e,f,g]) ((h.takes ks hn).sp hk)
theorem S.b3 (h:S w L) (ks:List Nat) (hn:ks.Nodup:=by decide) (hk:Sp (Au ks L) (a :: b :: c :: B):=by (repeat (apply Sp.c)); exact Sp.n):S w (fN [a,b,c] :: B):=S.big (L:=[a,b,c]) ((h.takes ks hn).sp hk)
theorem S.aI1 (h:S w L) (ks:List Nat) (h1:S w1 (a :: [aB w (aT (Au ks L))])) (e:Sp (a :: jZ ks 0 L) M:=by (repeat (apply Sp.c)); exact Sp.n):S w1 M:=(h.absorbI (new:=[a]) ks h1).sp e
theorem S.aI2 (h:S w L) (ks:List Nat) (h1:S w1 (a :: b :: [aB w (aT (Au ks L))])) (e:Sp (a :: b :: jZ ks 0 L) M:=by (repeat (apply Sp.c)); exact Sp.n):S w1 M:=(h.absorbI (new:=[a,b]) ks h1).sp e
theorem S.aI3 (h:S w L) (ks:List Nat) (h1:S w1 (a :: b :: c :: [aB w (aT (Au ks L))])) (e:Sp (a :: b :: c :: jZ ks 0 L) M:=by (repeat (apply Sp.c)); exact Sp.n):S w1 M:=(h.absorbI (new:=[a,b,c]) ks h1).sp e
theorem S.ab1 (h:S w L) (h1:S w1 (a :: [aB w no])):S w1 (a :: L):=h.absorb (new:=[a]) h1
theorem S.ab2 (h:S w L) (h1:S w1 (a :: b :: [aB w no])):S w1 (a :: b :: L):=h.absorb (new:=[a,b]) h1
theorem S.aK {X:Nat→Prop} (h:S w L) (k:Nat) (h1:S w1 (a :: [aB w X])) (hX:∀ g,X g→∃ it,L[k]?=some it∧it.fp g:=by intro g hg; rw [List.mem_singleton] at hg; subst hg; exact ⟨_,rfl,rfl⟩) (e:Sp (a :: jZ [k] 0 L) M:=by (repeat (apply Sp.c)); exact Sp.n):S w1 M:=(h.absorbK (new:=[a]) [k] (fun g hg=>⟨k,by simp,hX g hg⟩) h1).sp e
theorem S.bu {X:aD} (h:S w [X]) (hX:X=fN [a,b,c,d,e,f,g]:=by rfl):S w [a,b,c,d,e,f,g,aB w (aT [X])]:=by
 have h1:=h.beginI
 subst hX
 exact S.unbig (L:=[a,b,c,d,e,f,g]) h1
end
section
variable {P:Program} {N:Nat} {Q:Exit→Act→World→Prop} {f:Fr} {ds:List Deferred} {w:World} {L:List aD}
theorem g_aS {id:Nat} {l:List Oper} (f0:Fr) (T:List Nat) (H:S w L) (h:∀ w,S w L→G N (cF P .any l.toArray (cR N f0 ds Q) (fun w=>S w L) T l.length (Array.replicate l.length false)) f ds w) (hm:P.follows .mixedOrders=true:=by kernel_rfl):G N ((Code.region id l.toArray true).wp P Q) f ds w:=g_any f0 (fun w=>S w L) T hm H h
theorem g_aM {id:Nat} {l:List Oper} {L1:List aD} (f0:Fr) (ks T:List Nat) (H:S w L) (h:∀ w,S w L→G N (cF P .any l.toArray (cR N f0 ds Q) (fun w=>S w L1) T l.length (Array.replicate l.length false)) f ds w) (hm:P.follows .mixedOrders=true:=by kernel_rfl) (h1:Sp (Au ks L) L1:=by (repeat (apply Sp.c)); exact Sp.n):G N ((Code.region id l.toArray true).wp P Q) f ds w:=g_any f0 (fun w=>S w L1) T hm H h
theorem PY {id:Nat} {l:List Oper} {L1 L0:List aD} (f0:Fr) (ks ks0 T:List Nat) (H:S w L) (h:∀ w,S w L→G N (db P .any l.toArray (cR N f0 ds Q) (fun w=>S w L1) (fun w=>S w L0) T l.length (Array.replicate l.length false)) f ds w) (hm:P.follows .mixedOrders=true:=by kernel_rfl) (h1:Sp (Au ks L) L1:=by (repeat (apply Sp.c)); exact Sp.n) (h0:Sp (Au ks0 L) L0:=by (repeat (apply Sp.c)); exact Sp.n):G N ((Code.region id l.toArray true).wp P Q) f ds w:=g_anyY f0 (fun w=>S w L1) (fun w=>S w L0) T hm H h
variable {g:FuncId} {fn:Func} {c:Code} {args:Array Value} {R:Ending→World→Prop}
theorem en (hf:P.funcs[g]?=some fn) (h:G N (c.wp P (bodyPost P fn R)) (j6 0 args.toList) [] w) (hb:fn.body=some c:=by rfl) (hN:fn.ntmps=N:=by rfl) (hA:Nat.ble args.size N=true:=by rfl):Calls P g args w R:=enter N hf hb hN hA h
theorem mG (hf:P.funcs[g]?=some fn) (h:G N (c.wp P (bodyPostD P fn R)) (j6 0 args.toList) [] w) (hb:fn.body=some c:=by rfl) (hN:fn.ntmps=N:=by rfl) (hA:Nat.ble args.size N=true:=by rfl):Calls P g args w R:=KX N hf hb hN hA h
def PD (f:Fr):List ResultVar→Option (List Value)
 | []=>some []
 | .tmp t :: r=>match gt f t,PD f r with
   | some v,some vs=>some (v :: vs)
   | _,_=>none
 | _=>none
theorem GY:∀ {rs:List ResultVar} {vs:List Value},PD f rs=some vs→pg P f w rs vs
 | [],vs,h=>by
   unfold PD at h; cases h; exact trivial
 | .tmp t :: r,vs,h=>by
   unfold PD at h
   split at h
   · rename_i v us h1 h2
     cases h
     exact ⟨h1,GY h2⟩
   · cases h
 | .cell a t :: r,vs,h=>by
   unfold PD at h; cases h
theorem af {rs:List ResultVar} {vs:List Value} (hR:R (.returned (dQ vs)) w) (hr:fn.results=rs.toArray:=by rfl) (hv:PD f rs=some vs:=by rfl):G N (bodyPost P fn R .ret) f [] w:=d5 rs vs hr (GY hv) hR
theorem dV {u:FrameMode} {cap:Array Value} {RD:Ending→FrameMode→World→Prop} (hc:CallsD P g (args++cap) u w RD)
   (h:∀ e u' w',RD e u' w'→match e with | .returned _=>GL N P fn R f ds (settle u') w' | .panicked c=>GL N P fn R f ds (raised u' c) w' | .outgrown=>R .outgrown w') (hu:u ≠ .run:=by simp) (hg:aI P g=true:=by kernel_rfl):GL N P fn R f ({ target:=.fn (.func g) cap,args:=args } :: ds) u w:=KL hu hg hc h
variable {a t i g1 t1 t2:Nat} {cs:Array Value} {e:TypeId} {fr:Nat × Nat} {v v1 v2:Value} {u:FrameMode}
theorem GB {ad:Addr} (hu:∃ dd,P.underlying t=some dd∧jF dd=false) (hc:w.cell? ad=some v):(loadVar t ad).run P w=.ok v w:=by
 obtain ⟨dd,h1,h2⟩:=hu
 exact dp h1 h2 hc
theorem fG (H:S w L) (k:Nat) (hR:R (.returned v) w) (hu:u=.returning:=by rfl) (hr:fn.results=#[.cell a t]:=by rfl) (ha:gt f a=some (.pointer (some ⟨g1,i,none⟩)):=by rfl) (hk:L[k]?=some (Ob g1 (.cells cs e fr)):=by rfl) (hv:cs[i]?=some v:=by rfl) (ht:∃ dd,P.underlying t=some dd∧jF dd=false:=by exact Me rfl):GL N P fn R f [] u w:=by
 subst hu
 exact Cv [.cell a t] [v] hr ⟨⟨_,ha,GB ht (H.cell hk hv)⟩,trivial⟩ hR
theorem jb (H:S w L) (k:Nat) (hR:R (.returned (.tuple #[v1,v])) w) (hu:u=.returning:=by rfl) (hr:fn.results=#[.tmp t1,.cell a t]:=by rfl) (h1:gt f t1=some v1:=by rfl) (ha:gt f a=some (.pointer (some ⟨g1,i,none⟩)):=by rfl) (hk:L[k]?=some (Ob g1 (.cells cs e fr)):=by rfl) (hv:cs[i]?=some v:=by rfl) (ht:∃ dd,P.underlying t=some dd∧jF dd=false:=by exact Me rfl):GL N P fn R f [] u w:=by
 subst hu
 exact Cv [.tmp t1,.cell a t] [v1,v] hr ⟨h1,⟨_,ha,GB ht (H.cell hk hv)⟩,trivial⟩ hR
theorem we (H:S w L) (k:Nat) (hR:R (.returned (.tuple #[v1,v2,v])) w) (hu:u=.returning:=by rfl) (hr:fn.results=#[.tmp t1,.tmp t2,.cell a t]:=by rfl) (h1:gt f t1=some v1:=by rfl) (h2:gt f t2=some v2:=by rfl) (ha:gt f a=some (.pointer (some ⟨g1,i,none⟩)):=by rfl) (hk:L[k]?=some (Ob g1 (.cells cs e fr)):=by rfl) (hv:cs[i]?=some v:=by rfl) (ht:∃ dd,P.underlying t=some dd∧jF dd=false:=by exact Me rfl):GL N P fn R f [] u w:=by
 subst hu
 exact Cv [.tmp t1,.tmp t2,.cell a t] [v1,v2,v] hr ⟨h1,h2,⟨_,ha,GB ht (H.cell hk hv)⟩,trivial⟩ hR
end
section
variable {P:Program} {N:Nat} {Q:Exit→Act→World→Prop} {K:Act→World→Prop} {f:Fr} {ds:List Deferred} {w:World} {ops:Array Oper} {d:Nat} {o:Oper} {v z:Value} {L:List aD} {t:TypeId} {x y:Operand}
theorem fS {n:Nat} {g:Nat} {cs:Array Value} {e:TypeId} {fr:Nat × Nat} (H:S w L) (k:Nat) (ho:o.op=.load t x:=by rfl) (hx:cy f x=some (.pointer (some ⟨g,0,none⟩)):=by rfl) (hk:L[k]?=some (Ob g (.cells cs e fr)):=by rfl) (hn:jW P t=some n:=by exact Pz rfl) (hu:(P.underlying t).elim false jF=true:=by kernel_rfl) (hs:Nat.beq cs.size n=true:=by rfl):Ex P N f ds o w (.agg cs) w:=by
 have hs:=Nat.eq_of_beq_eq_true hs
 cases e1:P.underlying t with
 | none=>rw [e1] at hu; cases hu
 | some dd =>
   rw [e1] at hu
   exact iN H k ho hx e1 hu hn hk (Nat.ble_eq_true_of_le (by omega)) (by subst hs; simp)
theorem pt {c:Operand} {b:Bool} (hb:b=true) (ho:o.op=.pick c x y:=by rfl) (hc:cy f c=some (.bool b):=by rfl) (hx:cy f x=some v:=by rfl):Ex P N f ds o w v w:=dH ho hc hb hx
theorem pf {c:Operand} {b:Bool} (hb:b=false) (ho:o.op=.pick c x y:=by rfl) (hc:cy f c=some (.bool b):=by rfl) (hx:cy f y=some v:=by rfl):Ex P N f ds o w v w:=cH ho hc hb hx
theorem cA (H:S w L) (hz:tw P t=some z) (h:∀ g w',S w' (Ob g (.cells z.cells t (0,0)) :: L)→G N K ((d,.pointer (some ⟨g,0,none⟩)) :: f) ds w') (hg:o.guard=none:=by rfl) (hd:o.dst=some d:=by rfl) (hN:Nat.blt d N=true:=by rfl) (ho:o.op=.alloc t:=by rfl):G N (bH P ops Q o K) f ds w:=J3 H (bh hg) hd hN ho hz h
theorem fq (H:S w L) (h:∀ g w',S w' (Ob g (.cells v.cells t (0,0)) :: L)→G N K ((d,.pointer (some ⟨g,0,none⟩)) :: f) ds w') (hg:o.guard=none:=by rfl) (hd:o.dst=some d:=by rfl) (hN:Nat.blt d N=true:=by rfl) (ho:o.op=.box t x:=by rfl) (hx:cy f x=some v:=by rfl):G N (bH P ops Q o K) f ds w:=Qj H (bh hg) hd hN ho hx h
theorem Gr {j:Nat} {b:Bool} {oj:Oper} {dj:Nat} {rest:List Oper} (h:G N (wpList P ops Q rest) ((d,undef) :: f) ds w) (g0:o.guard=some (j,b):=by rfl) (g1:ops[j]?=some oj:=by rfl) (g2:oj.dst=some dj:=by rfl) (g3:gt f dj=some undef:=by rfl) (hd:o.dst=some d:=by rfl) (hN:Nat.blt d N=true:=by rfl):G N (wpList P ops Q (o :: rest)) f ds w:=l_of (GA (Py g0 g1 g2 g3) hd hN h)
theorem eu {g i:Nat} {cs:Array Value} {e:TypeId} {l:List Value} (H:S w L) (k:Nat) (h:∀ w',S w' (L.set k (Ob g (.cells l.toArray e (0,0))))→G N K f ds w') (hg:o.guard=none:=by rfl) (hd:o.dst=none:=by rfl) (ho:o.op=.store t x y:=by rfl) (hx:cy f x=some (.pointer (some ⟨g,i,none⟩)):=by rfl)
   (hy:cy f y=some v:=by rfl) (hk:L[k]?=some (Ob g (.cells cs e (0,0))):=by rfl) (hn:jW P t=some v.cells.size:=by exact Pz rfl) (hl:Nat.ble (i+v.cells.size) cs.size=true:=by rfl) (h1:v.cells.toList.all (·.oneCell')=true:=by rfl)
   (hc:Sp (cs.toList.take i++v.cells.toList++cs.toList.drop (i+v.cells.size)) l:=by (repeat (apply Sp.c)); exact Sp.n):G N (bH P ops Q o K) f ds w:=b_ H k (bh hg) hd ho hx hy hk hn hl h1 (by rw [hc.eq]) h
end
section
variable {P:Program} {N:Nat} {Q:Exit→Act→World→Prop} {f:Fr} {ds:List Deferred} {w:World} {ops:Array Oper} {md:Region.Mode} {C C0:World→Prop} {T:List Nat} {listed:Array Bool} {fuel:Nat} {f0:Fr} {o:Oper}
theorem sf {i:Nat} (h:G N (bH P ops Q o (YK P md ops Q C C0 T fuel listed i w)) f ds w) (hr:Region.ready md ops listed=[i]:=by kernel_rfl) (hi:ops[i]?=some o:=by rfl):G N (db P md ops Q C C0 T (fuel+1) listed) f ds w:=Qa hr hi h
theorem Cb (h:G N (Q .normal) f ds w) (hr:Region.ready md ops listed=[]:=by kernel_rfl):G N (db P md ops (cR N f0 ds Q) C C0 T fuel listed) f ds w:=MX hr h
end
theorem R.g_aS {P:Program} {N:Nat} {Q:Exit→Act→World→Prop} {f:Fr} {ds:List Deferred} {w:World} {r:Option Nat} {n id:Nat} {l:List Oper} {L:List aD} (f0:Fr) (T:List Nat) (hL:¬ LetsOut Q) (H:S w L) (h:∀ w,S w L→G N (cF P .any l.toArray (cR N f0 ds Q) (fun w=>S w L) T l.length (Array.replicate l.length false)) f ds w) (hm:P.follows .mixedOrders=true:=by kernel_rfl) (hd:uc l=true:=by kernel_rfl):G N ((Code.region id l.toArray true).wpIn (WF r) n P Q) f ds w:=R.g_any f0 (fun w=>S w L) T hm hd hL H h
theorem R.g_aM {P:Program} {N:Nat} {Q:Exit→Act→World→Prop} {f:Fr} {ds:List Deferred} {w:World} {r:Option Nat} {n id:Nat} {l:List Oper} {L L1:List aD} (f0:Fr) (ks T:List Nat) (hL:¬ LetsOut Q) (H:S w L) (h:∀ w,S w L→G N (cF P .any l.toArray (cR N f0 ds Q) (fun w=>S w L1) T l.length (Array.replicate l.length false)) f ds w) (hm:P.follows .mixedOrders=true:=by kernel_rfl) (hd:uc l=true:=by kernel_rfl) (h1:Sp (Au ks L) L1:=by (repeat (apply Sp.c)); exact Sp.n):G N ((Code.region id l.toArray true).wpIn (WF r) n P Q) f ds w:=R.g_any f0 (fun w=>S w L1) T hm hd hL H h
theorem dt {p:Prop} [Decidable p] (h:p):decide p=true:=decide_eq_true h
theorem df {p:Prop} [Decidable p] (h:¬ p):decide p=false:=decide_eq_false h
def GG (ks:List Nat) (f:Fr):Fr:=ks.filterMap fun k=>(gt f k).map fun v=>(k,v)
theorem wV (f:Fr):∀ ks:List Nat,sub (GG ks f) f
 | []=>trivial
 | k :: r=>by
   unfold GG
   cases h:gt f k with
   | none=>simp only [List.filterMap_cons,h,Option.map_none]; exact wV f r
   | some v=>simp only [List.filterMap_cons,h,Option.map_some]; exact ⟨h,wV f r⟩
theorem ah {N:Nat} {K:Act→World→Prop} {f f':Fr} {ds:List Deferred} {w:World} (ks:List Nat) (h:G N K f' ds w) (hs:Sp (GG ks f) f':=by (repeat (apply Sp.c)); exact Sp.n):G N K f ds w:=sG f' (hs.eq ▸ wV f ks) h
theorem ef (b:Bool):b=true∨b=false:=Bool.eq_false_or_eq_true b
theorem S.oF {α:Type} {size e g:Nat} {enc:α→List Value} {cs:Array Value} {w:World} {L M:List aD} (E:mT size enc) (n:Nat) (l:List α) (h:S w L) (hk:L[0]?=some (Ob g (.cells cs e (0,0))):=by rfl) (hn:n=l.length:=by rfl) (hm:n≤maxLen:=by decide) (hc:cs.toList=fl enc l:=by rfl) (hs:Sp (L.set 0 (Rw e size (some ⟨g,0,none⟩) n n (fl enc l))) M:=by (repeat (apply Sp.c)); exact Sp.n):S w M:=(S.obFl E h hk hn hm hc).sp hs
theorem S.tj {w:World} {L M:List aD} (h:S w L) (ks:List Nat) (hn:ks.Nodup:=by decide) (hs:Sp (Au ks L) M:=by (repeat (apply Sp.c)); exact Sp.n):S w M:=(h.takes ks hn).sp hs
section
variable {P:Program} {N:Nat} {Q:Exit→Act→World→Prop} {K:Act→World→Prop} {f:Fr} {ds:List Deferred} {w w1:World} {ops:Array Oper} {o:Oper} {v v':Value} {dd:Nat} {L B:List aD} {a b c d e f' g:aD}
theorem EA:∀ (B:List aD) (n:Nat),jZ [0] (n+1) B=B
 | [],_=>rfl
 | it :: B,n=>by
   unfold jZ
   rw [if_neg (by simp),EA B (n+1)]
theorem fZ {gf:FuncId} {vs:List Value} {args:Array Operand} {ts:Array TypeId} (H:S w L) (ks:List Nat) (hc:S w [fN [a,b,c,d,e,f',g]]→Calls P gf vs.toArray w (fun z w'=>z=.returned v∧S w' (fN [a,b,c,d,e,f',g] :: [aB w (aT [fN [a,b,c,d,e,f',g]])])))
   (h:∀ w',S w' (a :: b :: c :: d :: e :: f' :: g :: B)→G N K ((dd,v) :: f) ds w') (hn:ks.Nodup:=by decide) (hk:Sp (Au ks L) (a :: b :: c :: d :: e :: f' :: g :: B):=by (repeat (apply Sp.c)); exact Sp.n) (hg:o.guard=none:=by rfl) (ho:o.op=.call { callee:=.value (.func gf),args:=args,argTypes:=ts }:=by rfl) (hv:rj f args.toList=some vs:=by rfl) (hcl:aI P gf=true:=by kernel_rfl) (hd:o.dst=some dd:=by rfl) (hN:Nat.blt dd N=true:=by rfl):G N (bH P ops Q o K) f ds w:=by
 have h1:S w (fN [a,b,c,d,e,f',g] :: B):=S.big (L:=[a,b,c,d,e,f',g]) ((H.takes ks hn).sp hk)
 refine aG (hc (h1.takes [0] (by decide))) (fun z w'' hR=>?_) hg ho hv hcl
 obtain ⟨rfl,h2⟩:=hR
 have h3:S w'' (fN [a,b,c,d,e,f',g] :: jZ [0] 1 B):=h1.absorbI (new:=[fN [a,b,c,d,e,f',g]]) [0] h2
 rw [EA] at h3
 exact wm hd hN (h _ (S.unbig (L:=[a,b,c,d,e,f',g]) h3))
variable {rest:List Oper} {j dj:Nat} {oj:Oper} {p:Prop} [Decidable p]
theorem Ju {c x y:Operand} (ho:o.op=.pick c x y:=by rfl) (hc:cy f c=some (.bool (decide p)):=by rfl) (hb:¬ p:=by omega) (hx:cy f y=some v:=by rfl):Ex P N f ds o w v w:=cH ho hc (decide_eq_false hb) hx
theorem Q9 {c x y:Operand} (ho:o.op=.pick c x y:=by rfl) (hc:cy f c=some (.bool (decide p)):=by rfl) (hb:p:=by omega) (hx:cy f x=some v:=by rfl):Ex P N f ds o w v w:=dH ho hc (decide_eq_true hb) hx
end
section
variable {P:Program} {N:Nat} {Q:Exit→Act→World→Prop} {f:Fr} {ds:List Deferred} {w:World} {ops:Array Oper} {md:Region.Mode} {C C0:World→Prop} {T:List Nat} {listed:Array Bool} {fuel:Nat} {f0:Fr} {d:Nat} {o:Oper} {v:Value} {L:List aD}
theorem aU (i:Nat) (hC:C w) (h:G N (cF P md ops (cR N f0 ds Q) C T fuel (listed.setIfInBounds i true)) ((d,v) :: f) ds w) (hi:ops[i]?=some o:=by rfl) (hx:∀ w,C w→Ex P N f ds o w v w:=by first | exact fun _ _=>xm | exact fun _ _=>xn | exact fun _ _=>yq | exact fun _ _=>xa | exact fun _ _=>xe) (hg:o.guard=none:=by rfl) (hd:o.dst=some d:=by rfl) (hN:Nat.blt d N=true:=by rfl) (h0:gt f0 d=none:=by rfl) (hB:(Region.noSelect ops && Region.free md ops listed i && (Region.ready md ops listed).contains i && vf md ops T i)=true:=by kernel_rfl):G N (cF P md ops (cR N f0 ds Q) C T (fuel+1) listed) f ds w:=bT i hi hC hx h hg hd hN h0 hB
theorem eY {t:TypeId} {x:Operand} {g ii:Nat} {cs:Array Value} {e:TypeId} {fr:Nat × Nat} (i:Nat) (k:Nat) (hC:S w L) (h:G N (cF P md ops (cR N f0 ds Q) (fun w=>S w L) T fuel (listed.setIfInBounds i true)) ((d,v) :: f) ds w) (hi:ops[i]?=some o:=by rfl) (ho:o.op=.load t x:=by rfl) (hx:cy f x=some (.pointer (some ⟨g,ii,none⟩)):=by rfl) (hu:∃ dd,P.underlying t=some dd∧jF dd=false:=by exact Me rfl) (hk:L[k]?=some (Ob g (.cells cs e fr)):=by rfl) (hv:cs[ii]?=some v:=by rfl) (hg:o.guard=none:=by rfl) (hd:o.dst=some d:=by rfl) (hN:Nat.blt d N=true:=by rfl) (h0:gt f0 d=none:=by rfl) (hB:(Region.noSelect ops && Region.free md ops listed i && (Region.ready md ops listed).contains i && vf md ops T i)=true:=by kernel_rfl):G N (cF P md ops (cR N f0 ds Q) (fun w=>S w L) T (fuel+1) listed) f ds w:=bT i hi hC (fun w H=>xl H k ho hx hu hk hv) h hg hd hN h0 hB
theorem Dw {t:TypeId} {x:Operand} {g ii:Nat} {cs:Array Value} {e:TypeId} {fr:Nat × Nat} (i:Nat) (k:Nat) (hC:S w L) (h:G N (db P md ops (cR N f0 ds Q) (fun w=>S w L) C0 T fuel (listed.setIfInBounds i true)) ((d,v) :: f) ds w) (hi:ops[i]?=some o:=by rfl) (ho:o.op=.load t x:=by rfl) (hx:cy f x=some (.pointer (some ⟨g,ii,none⟩)):=by rfl) (hu:∃ dd,P.underlying t=some dd∧jF dd=false:=by exact Me rfl) (hk:L[k]?=some (Ob g (.cells cs e fr)):=by rfl) (hv:cs[ii]?=some v:=by rfl) (hg:o.guard=none:=by rfl) (hd:o.dst=some d:=by rfl) (hN:Nat.blt d N=true:=by rfl) (h0:gt f0 d=none:=by rfl) (hs:Region.noSelect ops=true:=by kernel_rfl) (hf:Region.free md ops listed i=true:=by kernel_rfl) (hr:(Region.ready md ops listed).contains i=true:=by kernel_rfl) (hT:wt md ops T i=true:=by kernel_rfl) (hcl:jR md ops listed=true:=by kernel_rfl):G N (db P md ops (cR N f0 ds Q) (fun w=>S w L) C0 T (fuel+1) listed) f ds w:=yt i hi hC (fun w H=>xl H k ho hx hu hk hv) h hg hd hN h0 hs hf hr hT hcl
theorem fu (i:Nat) (h:G N (db P md ops (cR N f0 ds Q) C C0 T fuel (listed.setIfInBounds i true)) ((d,v) :: f) ds w) (hi:ops[i]?=some o:=by rfl) (hx:∀ w,Ex P N f ds o w v w:=by first | exact fun _=>xm | exact fun _=>xn | exact fun _=>yq | exact fun _=>xa | exact fun _=>xe) (hg:o.guard=none:=by rfl) (hd:o.dst=some d:=by rfl) (hN:Nat.blt d N=true:=by rfl) (h0:gt f0 d=none:=by rfl) (hs:Region.noSelect ops=true:=by kernel_rfl) (hf:Region.free md ops listed i=true:=by kernel_rfl) (hr:(Region.ready md ops listed).contains i=true:=by kernel_rfl) (hcl:jR md ops listed=true:=by kernel_rfl):G N (db P md ops (cR N f0 ds Q) C C0 T (fuel+1) listed) f ds w:=rE i hi hx h hg hd hN h0 hs hf hr hcl
theorem pT (i:Nat) (h:G N (cF P md ops (cR N f0 ds Q) C T fuel (listed.setIfInBounds i true)) ((d,v) :: f) ds w) (hi:ops[i]?=some o:=by rfl) (hx:∀ w,Ex P N f ds o w v w:=by first | exact fun _=>xm | exact fun _=>xn | exact fun _=>yq | exact fun _=>xa | exact fun _=>xe) (hC:∀ w,C w:=by exact fun _=>trivial) (hg:o.guard=none:=by rfl) (hd:o.dst=some d:=by rfl) (hN:Nat.blt d N=true:=by rfl) (h0:gt f0 d=none:=by rfl) (hB:(Region.noSelect ops && Region.free md ops listed i && (Region.ready md ops listed).contains i)=true:=by kernel_rfl):G N (cF P md ops (cR N f0 ds Q) C T (fuel+1) listed) f ds w:=Gn i hi hx h hC hg hd hN h0 hB
end
section
variable {P:Program} {N:Nat} {Q:Exit→Act→World→Prop} {K:Act→World→Prop} {f:Fr} {ds:List Deferred} {w w1:World} {o:Oper} {v:Value} {d:Nat} {L M R:List aD} {c:Code}
theorem S.au (h:S w L) (h1:S w1 (fN M :: [aB w (aT (Au [0] L))])) (e:Sp (M++jZ [0] 0 L) R:=by (repeat (apply Sp.c)); exact Sp.n):S w1 R:=(S.unbig (h.absorbI (new:=[fN M]) [0] h1)).sp e
theorem bW (h:G N K ((d,v) :: f) ds w) (hd:o.dst=some d:=by rfl) (hN:Nat.blt d N=true:=by rfl):Gx N o K Q f ds (.returned v) w:=wm hd hN h
theorem cQ {ι:Type} (F:ι→Fr) (I:ι→World→Prop) (μ:ι→Nat) (i0:ι) (h0:I i0 w) (round:∀ i w,I i w→G N (c.wp P (Exit.then (fun a' w'=>∃ j,(jX N a' (F j) ds∧I j w')∧μ j<μ i) Q)) (F i) ds w) (hs:sub (F i0) f:=by (repeat (refine ⟨rfl,?_⟩)); exact trivial):G N ((Code.loop c).wp P Q) f ds w:=g_loop F I μ i0 hs h0 round
end
theorem fE {N:Nat} {K:Act→World→Prop} {f:Fr} {ds:List Deferred} {w:World} {o:Oper} {L:List aD} {t e size n c:Nat} {x:Operand} {p:Option Addr} {α:Type} {enc:α→List Value} {ops:Array Oper} {Q:Exit→Act→World→Prop} {d bytes m sc g:Nat} {s:Operand} {z:Value} {l:List α} {cs:Array Value} (hi:kf Tryz.prog e=some (some z,size,bytes)) (l2:List α) (E:mT size enc) (H:S w L) (k j0:Nat)
   (h:∀ p' c' w',S w' (L.set k (Rw e size p' (l++l2).length c' (fl enc (l++l2))))→G N K ((d,.slice p' (l++l2).length c') :: f) ds w') (hg:o.guard=none:=by rfl) (hd:o.dst=some d:=by rfl) (hN:Nat.blt d N=true:=by rfl) (ho:o.op=.call { callee:=.builtin .append,args:=#[s,x],argTypes:=#[t,t] }:=by rfl) (hs:cy f s=some (.slice p n sc):=by rfl) (hx:cy f x=some (.slice (some ⟨g,0,none⟩) m c):=by rfl)
   (hk:L[k]?=some (Rw e size p n sc (fl enc l)):=by rfl) (hj:L[j0]?=some (Ob g (.cells cs e (0,0))):=by rfl) (hcs:cs.toList=fl enc l2:=by rfl) (hm:m=l2.length∧m≤c:=by exact ⟨rfl,Nat.le_refl _⟩) (ht:Tryz.prog.underlying t=some (.slice e):=by exact PC rfl) (hz:z.cells.size=size:=by rfl) (hb0:0<bytes:=by decide) (hb:(n+m) * bytes≤140737488355328:=by omega):G N (bH Tryz.prog ops Q o K) f ds w:=
 Qk hi l2 E H k j0 hb h hg hd hN ho hs hx hk hj hcs hm ht hz hb0
theorem j4 {P:Program} {N:Nat} {f:Fr} {ds:List Deferred} {w:World} {o:Oper} {t:TypeId} {ps:Array (Nat × Operand)} {vs:List Value} {cells:Array Value} (ho:o.op=.build t ps:=by rfl) (hx:rj f (ps.toList.map (·.2))=some vs:=by rfl) (hb:P.built t ((ps.toList.map (·.1)).zip vs)=some cells:=by kernel_rfl):Ex P N f ds o w (.agg cells) w:=JF ho hx hb
end Go.Proofs.YthmmfhdpkddniaaGreatDoor
