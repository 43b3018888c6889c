import Derived.Test.YthmmfhdpkddniaaGreatDoorFc
import Derived.Laws.Externs
import Derived.LoopN
set_option linter.all false
namespace Go.Proofs.YthmmfhdpkddniaaGreatDoor
open Go.RowKit
def Si {α:Type} (b:Nat) (J Jx:List α→List aD→Prop) (base I K:aD) (xs:List α):Exit→Act→World→Prop
 | .normal,_,W=>∃ Lx,J xs Lx∧S W (base :: I :: K :: Lx)
 | .exit b',_,W=>b'=b∧∃ Lx,Jx xs Lx∧S W (base :: I :: K :: Lx)
 | _,_,_=>False
section
variable {P:Program} {N:Nat} {Q:Exit→Act→World→Prop} {f:Fr} {ds:List Deferred} {w:World} {n:Nat} {ops:Array Oper} {rest:List Oper} {o:Oper} {L:List aD}
end
def j9 (P:Program) (fn:Func) (tmps:Array Value) (R:Ending→World→Prop):List Deferred→FrameMode→World→Prop
 | [],u,w=>Leaves P fn tmps R [] u w
 | d :: ds,u,w=>u ≠ .run ∧
     ((∃ r w',d.target=.collected r∧(Instr.takeDeferred r).run P w=.ok [] w'∧j9 P fn tmps R ds u w') ∨
      (∃ fv cap f args,d.target=.fn fv cap∧(invoke d.target d.args).run P w=.ok (.enter f args) w ∧
       CallsD P f args u w fun
         | .returned _,u',w'=>j9 P fn tmps R ds (settle u') w'
         | .panicked chain,u',w'=>j9 P fn tmps R ds (raised u' chain) w'
         | .outgrown,_,w'=>R .outgrown w'))
section
variable {P:Program}
theorem mO {fn:Func} {tmps:Array Value} {R:Ending→World→Prop}:∀ (ds:List Deferred) (u:FrameMode) (w:World) (fr:Frame)
   (cs:List Frame),fr.mode=u→fr.defers=ds→fr.tmps=tmps→P.funcs[fr.fn]?=some fn→fr.kind=.normal→j9 P fn tmps R ds u w →
   ∃ e w' fr',R e w'∧Comes P (lone fr cs w) (lone fr' cs w') e∧fr'.fn=fr.fn∧fr'.leaving P w' e:=by
 intro ds
 induction ds with
 | nil=>exact fun u w fr cs hu hd ht hf hk h=>leaves_steps [] u w fr cs hu hd ht hf hk h
 | cons d ds ih =>
   intro u w fr cs hu hd ht hf hk h
   obtain ⟨hrun,h⟩:=h
   rcases h with ⟨r,w',htar,htake,hrest⟩ | ⟨fv,cap,f,args,htar,hinv,hcall⟩
   · have h1:=step_collected (cs:=cs) (hu ▸ hrun) hd htar htake
     obtain ⟨e',w'',fr',hR',hs',hfn',hl'⟩:=ih u w' { fr with defers:=[]++ds } cs hu rfl ht hf hk hrest
     exact ⟨e',w'',fr',hR',Comes.of_steps (.one h1) hs',hfn',hl'⟩
   · have h1:=step_defer (cs:=cs) (hu ▸ hrun) hd htar hinv
     obtain ⟨e,u',w',frX,hR,hsteps,hkX,hgo⟩:=hcall { fr with defers:=ds } cs hu
     cases e with
     | returned v =>
       have h2:=step_going_returned (c:={ { fr with defers:=ds } with mode:=u' }) (cs:=cs) hkX hgo
       obtain ⟨e',w'',fr',hR',hs',hfn',hl'⟩:=ih (settle u') w' { { { fr with defers:=ds } with mode:=u' } with mode:=settle u' } cs rfl rfl ht hf hk hR
       exact ⟨e',w'',fr',hR',Comes.of_steps (.head h1 (Steps.trans hsteps (.one h2))) hs',hfn',hl'⟩
     | panicked chain =>
       have h2:=step_going_panicked (c:={ { fr with defers:=ds } with mode:=u' }) (cs:=cs) hgo
       obtain ⟨e',w'',fr',hR',hs',hfn',hl'⟩:=ih (raised u' chain) w' { { { fr with defers:=ds } with mode:=u' } with mode:=raised u' chain } cs rfl rfl ht hf hk hR
       exact ⟨e',w'',fr',hR',Comes.of_steps (.head h1 (Steps.trans hsteps (.one h2))) hs',hfn',hl'⟩
     | outgrown=>exact ⟨.outgrown,w',fr,hR,Outgrown.of_steps (.one h1) hsteps,rfl,trivial⟩
def gU (P:Program) (fn:Func) (R:Ending→World→Prop):Exit→Act→World→Prop
 | .normal,a,w | .ret,a,w=>j9 P fn a.tmps R a.defers .returning w
 | .panic chain,a,w=>j9 P fn a.tmps R a.defers (.panicking chain) w
 | .outgrown,_,w=>R .outgrown w
 | _,_,_=>False
theorem yH {n:Nat} {f:FuncId} {fn:Func} {c:Code} {args:Array Value} {w:World} {R:Ending→World→Prop}
   (hf:P.funcs[f]?=some fn) (hb:fn.body=some c)
   (h:c.wpIn Fence.wide n P (gU P fn R) { tmps:=args++Array.replicate (fn.ntmps - args.size) undef,defers:=[] } w):Calls P f args w R:=by
 intro cs
 let b:Frame:={ (default:Frame) with fn:=f,kind:=.normal,roundOf:=none }
 have henter:Frame.enter P f args .normal =
     b.atR { tmps:=args++Array.replicate (fn.ntmps - args.size) undef,defers:=[] } [.code c]:=by
   simp [Frame.enter,Frame.atR,hf,hb,b]
 have hr:Fence.wide.room (cs.length+1+n):=room_wide _
 have hF:Fence.wide.fn b.fn:=trivial
 obtain ⟨e,a',w',hq,harr⟩:=h b [] cs rfl hF hr
 rw [← henter] at harr
 cases e with
 | normal =>
   obtain ⟨e',w'',fr',hR,hs,hfn,hl⟩:=mO a'.defers .returning w' { b.atR a' [] with mode:=.returning } cs rfl rfl rfl hf rfl hq
   exact ⟨e',w'',fr',hR,Comes.of_steps (stepsIn_wide.1 (StepsIn.trans harr (.one (fenced_calm (fr:=b.atR a' []) hF hr rfl) (stepR_end rfl)))) hs,hfn,hl⟩
 | ret =>
   obtain ⟨todo,hs₀⟩:=harr.1 rfl
   obtain ⟨e',w'',fr',hR,hs,hfn,hl⟩:=mO a'.defers .returning w' { b.atR a' todo with mode:=.returning } cs rfl rfl rfl hf rfl hq
   exact ⟨e',w'',fr',hR,Comes.of_steps (stepsIn_wide.1 hs₀) hs,hfn,hl⟩
 | panic chain =>
   obtain ⟨todo,hs₀⟩:=harr
   obtain ⟨e',w'',fr',hR,hs,hfn,hl⟩:=mO a'.defers (.panicking chain) w' { b.atR a' todo with mode:=.panicking chain } cs rfl rfl rfl hf rfl hq
   exact ⟨e',w'',fr',hR,Comes.of_steps (stepsIn_wide.1 hs₀) hs,hfn,hl⟩
 | exit id=>exact hq.elim
 | goto l=>exact hq.elim
 | outgrown=>exact ⟨.outgrown,w',b,hq,harr.resolve_left (by simp [b]),rfl,trivial⟩
end
section
variable {P:Program} {N:Nat} {f:Fr} {ds:List Deferred} {w:World} {L:List aD}
theorem Ag {g:FuncId} {fn:Func} {c:Code} {args:Array Value} {R':Ending→World→Prop} (N:Nat) (hf:P.funcs[g]?=some fn) (hb:fn.body=some c) (hN:fn.ntmps=N) (hA:Nat.ble args.size N=true)
   (h:G N (c.wpIn (WF none) 9 P (gU P fn R')) (j6 0 args.toList) [] w):Calls P g args w R':=by
 refine yH (n:=9) hf hb (h _ ⟨?_,fun t v ht=>?_,rfl⟩)
 · have:args.size≤N:=Nat.le_of_ble_eq_true hA
   simp [hN]; omega
 obtain ⟨_,h2⟩:=jv _ 0 t v ht
 have h3:args[t]?=some v:=by simpa using h2
 have h4:t<args.size:=(Array.getElem?_eq_some_iff.1 h3).1
 show (args++_)[t]?=_
 rw [Array.getElem?_append_left h4]; exact h3
def Gq (N:Nat) (P:Program) (fn:Func) (R:Ending→World→Prop) (f:Fr) (ds:List Deferred) (u:FrameMode) (w:World):Prop:=∀ a,jX N a f a.defers→j9 P fn a.tmps R ds u w
theorem IM {fn:Func} {R:Ending→World→Prop} (h:Gq N P fn R f ds .returning w):G N (gU P fn R .ret) f ds w:=fun a ha=>by
 have:=h a ⟨ha.size,ha.get,rfl⟩
 show j9 P fn a.tmps R a.defers .returning w
 rw [ha.defers]; exact this
theorem IP {fn:Func} {R:Ending→World→Prop} (h:Gq N P fn R f ds .returning w):G N (gU P fn R .normal) f ds w:=fun a ha=>by
 have:=h a ⟨ha.size,ha.get,rfl⟩
 show j9 P fn a.tmps R a.defers .returning w
 rw [ha.defers]; exact this
theorem yg {fn:Func} {R:Ending→World→Prop} {c:List PanicEntry} (h:Gq N P fn R f ds (.panicking c) w):G N (gU P fn R (.panic c)) f ds w:=fun a ha=>by
 have:=h a ⟨ha.size,ha.get,rfl⟩
 show j9 P fn a.tmps R a.defers (.panicking c) w
 rw [ha.defers]; exact this
theorem Br {fn:Func} {R:Ending→World→Prop} {u:FrameMode} {g:FuncId} {args cap:Array Value} {RD:Ending→FrameMode→World→Prop} (hu:u ≠ .run) (hg:aI P g=true) (hc:CallsD P g (args++cap) u w RD)
   (h:∀ e u' w',RD e u' w'→match e with | .returned _=>Gq N P fn R f ds (settle u') w' | .panicked c=>Gq N P fn R f ds (raised u' c) w' | .outgrown=>R .outgrown w') :
   Gq N P fn R f ({ target:=.fn (.func g) cap,args:=args } :: ds) u w:=fun a ha=>by
 refine ⟨hu,.inr ⟨.func g,cap,g,args++cap,rfl,?_,hc.mono fun e u' w' hR=>?_⟩⟩
 · show (callFunc g (args++cap)).run P w=_
   exact jV hg _
 have:=h e u' w' hR
 cases e with
 | returned v=>exact this a ha
 | panicked c=>exact this a ha
 | outgrown=>exact this
theorem xr {fn:Func} {R:Ending→World→Prop} {u:FrameMode} {D k:Nat} (hu:u ≠ .run) (H:S w L) (hk:L[k]?=some (Ob D (.deferred (some [])))) (h:∀ w',S w' (L.set k (Ob D (.deferred none)))→Gq N P fn R f ds u w') :
   Gq N P fn R f (vX D :: ds) u w:=fun a ha=>by
 have hD:w.heap[D]?=some (.deferred (some [])):=H.ob hk
 have hlt:D<w.heap.size:=(Array.getElem?_eq_some_iff.1 hD).1
 have hS:=H.write hk (kq w D (.deferred none)) (World.putObj_heap_same hlt)
 exact ⟨hu,.inl ⟨D,_,rfl,run_takeDeferred hD,h _ hS a ha⟩⟩
theorem Ac {fn:Func} {R:Ending→World→Prop} (rs:List ResultVar) (vs:List Value) (hr:fn.results=rs.toArray) (h:pg P f w rs vs) (hR:R (.returned (dQ vs)) w):Gq N P fn R f [] .returning w:=fun a ha =>
 ⟨_,jB ha hr h,hR⟩
theorem FV {fn:Func} {R:Ending→World→Prop} {c:List PanicEntry} (hR:R (.panicked c) w):Gq N P fn R f [] (.panicking c) w:=fun a ha=>hR
theorem Kv {n:Nat} {Q:Exit→Act→World→Prop} {ops:Array Oper} {rest:List Oper} {o:Oper} {w':World} {d:Deferred} (hw:Wt ops f o) (hd:o.dst=none) (hx:Rl P N f ds o w d w') (h:G N (wpListIn (WF none) n P ops Q rest) f (d :: ds) w'):G N (wpListIn (WF none) n P ops Q (o :: rest)) f ds w:=fun a ha=>by
 unfold wpListIn
 rw [if_pos (hw.wanted ha)]
 refine ⟨fun _ _=>trivial,?_⟩
 rw [Oper.semAt_none,hx a ha,Oper.uponIn_defer,wZ hd]
 exact h _ ⟨ha.size,ha.get,by rw [← ha.defers]⟩
end
open Go.Maps (Keyed)
open Go.ChangeMaps (setBlock)
section
variable {κ α:Type} {ek:κ→Value} {va:α→Value} {ok:κ→Prop} {M:κ→Option α} {es:Array MapEntry} {c:Nat} {kv:List (κ × α)}
def vb (es:Array MapEntry) (kv:List (κ × α)) (seen:Array Nat):List (MapEntry × (κ × α)):=(es.toList.zip kv).filter (fun z=>!seen.contains z.1.born)
def nh (es:Array MapEntry) (kv:List (κ × α)) (seen:Array Nat):List (κ × α):=(vb es kv seen).map Prod.snd
theorem KV.zip_at (h:KV ek va ok M es c kv) {z:MapEntry × (κ × α)} (hz:z∈es.toList.zip kv):∃ j:Nat,es.toList[j]?=some z.1∧kv[j]?=some z.2∧z.1.key=ek z.2.1∧z.1.val=va z.2.2:=by
 obtain ⟨j,hj⟩:=List.getElem?_of_mem hz
 rw [List.getElem?_zip_eq_some] at hj
 obtain ⟨p,hp,h1,h2⟩:=h.at hj.1
 rw [hj.2] at hp
 cases hp
 exact ⟨j,hj.1,hj.2,h1,h2⟩
theorem KV.fst_zip (h:KV ek va ok M es c kv):(es.toList.zip kv).map Prod.fst=es.toList:=List.map_fst_zip (by have:=h.len; simp; omega)
theorem KV.left (h:KV ek va ok M es c kv) (seen:Array Nat):(leftOf es seen).toList=(vb es kv seen).map Prod.fst:=by
 unfold leftOf vb
 rw [Array.toList_filter]
 conv=>lhs; rw [← h.fst_zip]
 rw [List.filter_map]; rfl
theorem Ij {β:Type} {l:List β} {γ:Type} {f:β→γ} (hn:(l.map f).Nodup) {i j:Nat} {x y:β} (hi:l[i]?=some x) (hj:l[j]?=some y) (h:f x=f y):i=j:=by
 obtain ⟨hi1,hi2⟩:=List.getElem?_eq_some_iff.1 hi
 obtain ⟨hj1,hj2⟩:=List.getElem?_eq_some_iff.1 hj
 have hw:=List.pairwise_iff_getElem.1 hn
 rcases Nat.lt_trichotomy i j with hl | hl | hl
 · exact absurd (show (l.map f)[i]'(by simpa using hi1)=(l.map f)[j]'(by simpa using hj1) from by simp [hi2,hj2,h]) (hw i j (by simpa using hi1) (by simpa using hj1) hl)
 · exact hl
 · exact absurd (show (l.map f)[j]'(by simpa using hj1)=(l.map f)[i]'(by simpa using hi1) from by simp [hi2,hj2,h]) (hw j i (by simpa using hj1) (by simpa using hi1) hl)
theorem KV.rem_next (h:KV ek va ok M es c kv) {seen:Array Nat} {e:MapEntry} (he:e∈(leftOf es seen).toList) :
   ∃ p,p∈nh es kv seen∧e∈es.toList∧e.key=ek p.1∧e.val=va p.2∧(∀ q,q∈nh es kv (seen.push e.born) ↔ q∈nh es kv seen∧q ≠ p)∧(nh es kv (seen.push e.born)).length<(nh es kv seen).length:=by
 rw [h.left,List.mem_map] at he
 obtain ⟨z,hz,rfl⟩:=he
 have hz':=List.mem_filter.1 hz
 obtain ⟨j,h1,h2,h3,h4⟩:=h.zip_at hz'.1
 have key:∀ y∈es.toList.zip kv,(y.1.born=z.1.born ↔ y.2=z.2):=fun y hy=>by
   obtain ⟨i,i1,i2,_,_⟩:=h.zip_at hy
   constructor
   · intro e
     have:=Ij (f:=fun x:MapEntry=>x.born) h.born i1 h1 e
     subst this
     rw [i2] at h2; exact Option.some.inj h2
   · intro e
     have:=uS h.nodup i2 h2 (by rw [e])
     subst this
     rw [i1] at h1; rw [Option.some.inj h1]
 have hf:vb es kv (seen.push z.1.born)=(vb es kv seen).filter (fun y=>!(y.1.born == z.1.born)):=by
   unfold vb
   rw [List.filter_filter]
   refine List.filter_congr fun y hy=>?_
   simp only [Array.contains_push,Bool.not_or]
   rw [Bool.and_comm]
 refine ⟨z.2,List.mem_map.2 ⟨z,hz,rfl⟩,List.mem_of_getElem? h1,h3,h4,fun q=>?_,?_⟩
 · unfold nh
   rw [hf]
   constructor
   · intro hq
     obtain ⟨y,hy,rfl⟩:=List.mem_map.1 hq
     obtain ⟨y1,y2⟩:=List.mem_filter.1 hy
     have y3:=(List.mem_filter.1 y1).1
     refine ⟨List.mem_map.2 ⟨y,y1,rfl⟩,fun e=>?_⟩
     have:=(key y y3).2 e
     simp [this] at y2
   rintro ⟨hq,hne⟩
   obtain ⟨y,hy,rfl⟩:=List.mem_map.1 hq
   have y3:=(List.mem_filter.1 hy).1
   refine List.mem_map.2 ⟨y,List.mem_filter.2 ⟨hy,?_⟩,rfl⟩
   have:¬ y.1.born=z.1.born:=fun e=>hne ((key y y3).1 e)
   simp [this]
 unfold nh
 rw [hf,List.length_map,List.length_map]
 exact List.length_filter_lt_length_iff_exists.2 ⟨z,hz,by simp⟩
def MJ (ek:κ→Value) (va:α→Value) (es:Array MapEntry) (seen:Array Nat):Option (κ × α)→Prop
 | none=>True
 | some p=>∃ (seen0:Array Nat) (e:MapEntry),seen=seen0.push e.born∧e∈es.toList∧e.key=ek p.1∧e.val=va p.2
def MN (ek:κ→Value) (va:α→Value) (ok:κ→Prop) (g r:Nat) (M:κ→Option α) (rem:List (κ × α)) (cur:Option (κ × α)):aD:=
 ⟨fun j=>j=g∨j=r,fun w=>g ≠ r∧∃ es c kv seen since st,w.heap[g]?=some (.map es c)∧KV ek va ok M es c kv∧w.heap[r]?=some (.mapIter (some g) since seen st)∧(∀ e∈es.toList,e.born<since)∧(since≤st∧since≤c)∧rem=nh es kv seen∧(cur.isSome=true→st=c)∧MJ ek va es seen cur,fun h k=>by
   obtain ⟨hn,es,c,kv,seen,since,st,h1,h2,h3,h4⟩:=k
   exact ⟨hn,es,c,kv,seen,since,st,(h.block g (.inl rfl)).trans h1,h2,(h.block r (.inr rfl)).trans h3,h4⟩⟩
variable {P:Program} {N:Nat} {Q:Exit→Act→World→Prop} {f:Fr} {ds:List Deferred} {w w':World} {o:Oper} {ops:Array Oper} {L:List aD} {K:Act→World→Prop}
theorem S.unR {k0 g r:Nat} {rem:List (κ × α)} {cur:Option (κ × α)} (H:S w L) (hk:L[k0]?=some (MN ek va ok g r M rem cur)):S w (L.set k0 (Mp ek va ok g M)):=by
 have h:=H.at hk
 obtain ⟨hn,es,c,kv,seen,since,st,h1,h2,h3,h4⟩:=h
 refine H.turn hk iY.rfl' ⟨es,c,kv,h1,h2⟩ (fun j hj=>?_)
 have hj:j=g:=hj
 exact ⟨.inl (.inl hj),H.lt hk (.inl hj)⟩
theorem GX {d:TypeId} {y:Operand} {g r:Nat} {rem:List (κ × α)} {cur:Option (κ × α)} (H:S w L) (k0:Nat) (hw:Wt ops f o) (hd:o.dst=some d) (hN:Nat.blt d N=true) (hk:L[k0]?=some (MN ek va ok g r M rem cur)) (ho:o.op=.next y false) (hy:cy f y=some (.pointer (some ⟨r,0,none⟩)))
   (h0:rem=[]→G N K ((d,.tuple #[.bool false]) :: f) ds w)
   (h1:∀ p rem' w',p∈rem→ok p.1→M p.1=some p.2→(∀ q,q∈rem' ↔ q∈rem∧q ≠ p)→rem'.length<rem.length→S w' (L.set k0 (MN ek va ok g r M rem' (some p)))→G N K ((d,.tuple #[.bool true,ek p.1,va p.2]) :: f) ds w'):G N (bH P ops Q o K) f ds w:=by
 obtain ⟨hn,es,c,kv,seen,since,st,hb,hkv,hr,hold,hsc,hrem,_,hcur⟩:=H.at hk
 rcases run_next_at (P:=P) w o.type r g since st seen es c hr hb hold hsc.1 with ⟨h2,h3⟩ | ⟨e,he,w1,hw1,h3⟩
 · refine aJ hw hd hN (fH (x:=Instr.next (.pointer (some ⟨r,0,none⟩)) false o.type) (fun a ha=>by unfold execOp; simp only [ho,ha.eval hy]) h3) (h0 ?_)
   rw [hrem]
   unfold nh
   have h4:=hkv.left seen
   have h5:(leftOf es seen).toList=[]:=by
     have:(leftOf es seen).toList.length=0:=by simpa using h2
     exact List.eq_nil_of_length_eq_zero this
   rw [h5] at h4
   have:vb es kv seen=[]:=List.map_eq_nil_iff.1 h4.symm
   rw [this]; rfl
 obtain ⟨p,p1,p2,p3,p4,p5,p6⟩:=hkv.rem_next he
 have hpk:p∈kv:=by
   obtain ⟨z,hz,rfl⟩:=List.mem_map.1 p1
   obtain ⟨j,_,j2,_⟩:=hkv.zip_at (List.mem_filter.1 hz).1
   exact List.mem_of_getElem? j2
 have hp:=(hkv.is p).1 hpk
 rw [p3,p4] at h3
 refine aJ hw hd hN (fH (x:=Instr.next (.pointer (some ⟨r,0,none⟩)) false o.type) (fun a ha=>by unfold execOp; simp only [ho,ha.eval hy]) h3) (h1 p (nh es kv (seen.push e.born)) _ (hrem ▸ p1) hp.1 hp.2 (by rw [hrem]; exact p5) (by rw [hrem]; exact p6) ?_)
 have hw1h:w1.heap=w.heap:=by rcases hw1 with rfl | rfl <;> rfl
 have hr1:w1.heap[r]?=some (.mapIter (some g) since seen st):=by rw [hw1h]; exact hr
 have hS1:S w1 L:=by
   rcases hw1 with rfl | rfl
   · exact H
   · exact H.drew
 refine hS1.turn hk ((gG w1 r _).less fun j hj=>fun e=>hj.2 (.inr e)) ⟨hn,es,c,kv,_,since,c,?_,hkv,mP hr1,hold,⟨hsc.2,hsc.2⟩,rfl,fun _=>rfl,seen,e,rfl,p2,p3,p4⟩ (fun j hj=>⟨.inl hj,?_⟩)
 · rw [(gG w1 r _).block g hn,hw1h]; exact hb
 exact Nat.lt_of_lt_of_le (hS1.lt hk hj) (gG w1 r _).size
theorem DO {t k e0:TypeId} {y:Operand} {g r:Nat} {rem:List (κ × α)} {p:κ × α} (H:S w L) (k0:Nat) (hk:L[k0]?=some (MN ek va ok g r M rem (some p))) (ho:o.op=.entry y) (hy:cy f y=some (.pointer (some ⟨r,0,none⟩))):Ex P N f ds o w (.tuple #[ek p.1,va p.2]) w:=
 fH (x:=Instr.entry (.pointer (some ⟨r,0,none⟩))) (fun a ha=>by unfold execOp; simp only [ho,ha.eval hy]) (by
   obtain ⟨hn,es,c,kv,seen,since,st,hb,hkv,hr,hold,hsc,hrem,hst,seen0,e,rfl,h2,h3,h4⟩:=H.at hk
   have hst:=hst rfl
   subst hst
   rw [run_entry_at w r g since seen0 es _ e hr hb h2 hkv.born,h3,h4])
end
end Go.Proofs.YthmmfhdpkddniaaGreatDoor
namespace Go.Proofs.YthmmfhdpkddniaaGreatDoor
open Go.RowKit
section
variable {P:Program} {N:Nat} {f:Fr} {ds:List Deferred} {w:World} {ops:Array Oper} {Q:Exit→Act→World→Prop} {K:Act→World→Prop} {o:Oper} {L:List aD}
theorem yE {d t e size bytes n m c:Nat} {s x:Operand} {z:Value} {xs news:List Value} {p q:Option Addr} (H:S w L) (hw:Wt ops f o) (hd:o.dst=some d) (hN:Nat.blt d N=true)
   (ho:o.op=.call { callee:=.builtin .append,args:=#[s,x],argTypes:=#[t,t] }) (hs:cy f s=some (.slice p n n)) (hx:cy f x=some (.slice q m c)) (hr0:bz w p n n size xs) (hp:∃ a,p=some a)
   (ht:P.underlying t=some (.slice e)) (hi:kf P e=some (some z,size,bytes)) (hz:z.cells.size=size) (hsz:0<size) (H3:0<bytes) (hr:bz w q m c size news) (hm:0<m) (h1:news.all (·.oneCell')=true)
   (hb:(n+m) * bytes≤140737488355328)
   (h:∀ p' c' w',S w' (Rw e size p' (n+m) c' (xs++news) :: L)→G N K ((d,.slice p' (n+m) c') :: f) ds w'):G N (bH P ops Q o K) f ds w:=by
 obtain ⟨i,hi1,hi2,hi3,hi4⟩:=zU hi
 have H2:n+m≤maxLen:=by
   have:n+m≤(n+m) * bytes:=Nat.le_mul_of_pos_right _ H3
   unfold maxLen; omega
 obtain ⟨k1,_,k3⟩:=hr0
 obtain ⟨a,rfl⟩:=hp
 have hold:∀ j u,xs[j]?=some u→w.cell? (a.add j)=some u:=fun j u hu=>by
   rcases Nat.eq_zero_or_pos n with h0 | h0
   · subst h0
     have:xs=[]:=List.eq_nil_of_length_eq_zero (by rw [k1,Nat.zero_mul])
     rw [this] at hu; simp at hu
   · obtain ⟨a',ha,hc⟩:=k3 h0
     cases ha; exact hc j u hu
 obtain ⟨q1,_,q3⟩:=hr
 obtain ⟨ad,rfl,hnews⟩:=q3 hm
 have hlen:(xs++news).length=(n+m) * size:=by rw [List.length_append,k1,q1,Nat.add_mul]
 obtain ⟨v',w',hr,hown,hg⟩:=run_append_arg_grows (P:=P) w t o.type e i z size bytes ht hi1 hi2 hi3 hi4 hz hsz a n n xs k1 hold ad m c news q1 hnews (by omega) H2 hb
 rcases hown.2 with ⟨_,h0⟩ | ⟨g,cap,cur,rfl,hge,hgg,hle,hmx,hcs,htk⟩
 · omega
 have hS:S w' (Rw e size (some ⟨g,0,none⟩) (n+m) cap (xs++news) :: L):=by
   refine (H.move ⟨hg.os,hg.tape,hg.output,hg.size,fun b hb=>hg.block b hb (by simp),BE ht hi1 hi2 hi3 hi4 k1 hold q1 hnews (by omega) H2 hb hr⟩).cons ⟨hlen,hle,hmx,.inr ⟨g,0,cur,rfl,hgg,by omega,fun j u hu=>?_⟩⟩ (fun b hb=>?_) (fun x hx b hb hb'=>?_)
   · rw [Nat.zero_add,← Array.getElem?_toList]
     rw [← htk,List.getElem?_take] at hu
     split at hu
     · exact hu
     cases hu
   · obtain ⟨q,hq⟩:=hb; cases hq
     exact (Array.getElem?_eq_some_iff.1 hgg).1
   · obtain ⟨q,hq⟩:=hb; cases hq
     have:=(H.1 x hx).2 _ hb'
     omega
 exact aJ hw hd hN (fW (vs:=[.slice (some a) n n,.slice (some ad) m c]) ho (by simp only [Array.toList,rj,hs,hx]) (fun cs=>by
   simp only [builtin,Sem.run_bind,hr,Result.andThen_ok,Sem.run_pure])) (h _ _ w' hS)
end
theorem bz.take {w:World} {p:Option Addr} {n c size:Nat} {xs:List Value} (hr:bz w p n c size xs) (k:Nat) (hk:k≤n):bz w p k c size (xs.take (k * size)):=by
 obtain ⟨k1,k2,k3⟩:=hr
 have hx:k * size≤n * size:=Nat.mul_le_mul_right _ hk
 refine ⟨by rw [List.length_take,k1]; omega,by omega,fun h0=>?_⟩
 obtain ⟨a,ha,hc⟩:=k3 (by omega)
 refine ⟨a,ha,fun j u hu=>hc j u ?_⟩
 have hj:=(List.getElem?_eq_some_iff.1 hu).1
 rw [List.length_take] at hj
 rwa [List.getElem?_take_of_lt (by omega)] at hu
def tJ (p:Option Addr) (k size:Nat):Option Addr:=if k=0 then p else p.map fun q=>q.add (0 * size)
theorem bz.clip {w:World} {p:Option Addr} {n c size:Nat} {xs:List Value} (hr:bz w p n c size xs) (k:Nat) (hk:k≤n):bz w (tJ p k size) k k size (xs.take (k * size)):=by
 obtain ⟨k1,k2,k3⟩:=hr.take k hk
 refine ⟨k1,Nat.le_refl _,fun h0=>?_⟩
 obtain ⟨a,rfl,hc⟩:=k3 h0
 refine ⟨a.add (0 * size),by unfold tJ; rw [if_neg (by omega)]; rfl,fun j u hu=>?_⟩
 rw [qz,Nat.zero_mul,Nat.zero_add]
 exact hc j u hu
section
variable {P:Program} {N:Nat} {Q:Exit→Act→World→Prop} {f:Fr} {ds:List Deferred} {w w':World} {o:Oper} {ops:Array Oper} {L:List aD} {K:Act→World→Prop}
variable {κ α:Type} {ek:κ→Value} {va:α→Value} {ok:κ→Prop} {M:κ→Option α}
end
open Go.Maps (Keyed)
def cO (x:Int):Prop:=-9223372036854775808≤x∧x≤9223372036854775807
theorem zM {x:Int} (h:cO x):(Lit.int .i64 x).wf=true:=by
 have h1:IntKind.i64.min=-9223372036854775808:=by decide
 have h2:IntKind.i64.max=9223372036854775807:=by decide
 obtain ⟨a,b⟩:=h
 simp [Lit.wf,h1,h2]; omega
theorem M7 {x:Int} (h:(Lit.int .i64 x).wf=true):cO x:=by
 have h1:IntKind.i64.min=-9223372036854775808:=by decide
 have h2:IntKind.i64.max=9223372036854775807:=by decide
 simp [Lit.wf,h1,h2] at h
 exact h
theorem iG {P:Program} {t k e:TypeId} (ht:P.underlying t=some (.map k e)) (hk:P.underlying k=some (.int .i64)):rP P t k e (Value.int .i64) cO:=
 ⟨ht,Go.Maps.int_keyed hk,fun x hx=>⟨_,Go.Maps.keyOf_int_mk hk (zM hx)⟩,fun x y _ _ h=>by cases h; rfl⟩
theorem Cq (x:Option Bool):(x.map Value.bool).getD (.bool false)=.bool (x.getD false):=by cases x <;> rfl
end Go.Proofs.YthmmfhdpkddniaaGreatDoor
namespace Go.Proofs.YthmmfhdpkddniaaGreatDoor
open Go.RowKit
open Go.ChangeMaps (setBlock)
section
variable {P:Program} {N:Nat} {Q:Exit→Act→World→Prop} {f:Fr} {ds:List Deferred} {w w':World} {o:Oper} {ops:Array Oper} {L:List aD} {K:Act→World→Prop}
theorem IH {c:Code} (n:Nat) (h:G N (Code.rounds P c Q n) f ds w):G N ((Code.loop c).wp P Q) f ds w:=fun a ha=>wp_loop_rounds n (h a ha)
theorem Bt {c:Code} {n:Nat} (h:G N (c.wp P (Exit.then (Code.rounds P c Q n) Q)) f ds w):G N (Code.rounds P c Q (n+1)) f ds w:=h
theorem E6 {z:Value} {n:Nat} (h1:z.cells.toList.all (·.oneCell')=true) (hs:0<z.cells.size):∀ v∈(Builtin.zeroCells z.cells n).toList,v.oneCell'=true:=fun v hv=>by
 unfold Builtin.zeroCells at hv
 rw [Array.toList_map] at hv
 obtain ⟨i,_,rfl⟩:=List.mem_map.1 hv
 have hi:i % z.cells.size<z.cells.size:=Nat.mod_lt _ hs
 rw [getElem!_pos z.cells _ hi]
 exact List.all_eq_true.1 h1 _ (by simp)
theorem AO (cs:Array Value) (n:Nat):(Builtin.zeroCells cs n).toList.length=n * cs.size:=by unfold Builtin.zeroCells; simp
theorem J2 {t e size n c i:Nat} {x:Operand} {z:Value} {p:Option Addr} {xs:List Value} (H:S w L) (k:Nat) (hw:Wt ops f o) (hd:o.dst=none) (ho:o.op=.call { callee:=.builtin .clear,args:=#[x],argTypes:=#[t] })
   (hx:cy f x=some (.slice (kA p i c size) (n - i) (c - i))) (hk:L[k]?=some (Rw e size p n c xs)) (ht:P.underlying t=some (.slice e)) (hz:tw P e=some z) (hzs:z.cells.size=size) (h1:z.cells.toList.all (·.oneCell')=true) (hs:0<size) (hi:i≤n)
   (h:∀ w',S w' (L.set k (Rw e size p i c (xs.take (i * size))))→G N K f ds w'):G N (bH P ops Q o K) f ds w:=by
 obtain ⟨k1,k2,k3,k4⟩:=H.rw hk
 have his:i * size≤n * size:=Nat.mul_le_mul_right _ hi
 have hic:i * size≤c * size:=Nat.mul_le_mul_right _ (Nat.le_trans hi k2)
 have hns:n * size≤c * size:=Nat.mul_le_mul_right _ k2
 have hl:(xs.take (i * size)).length=i * size:=by rw [List.length_take]; omega
 have hxt:∀ j u,(xs.take (i * size))[j]?=some u→j<i * size∧xs[j]?=some u:=fun j u hu=>by
   rw [List.getElem?_take] at hu
   split at hu
   · rename_i hj; exact ⟨hj,hu⟩
   · cases hu
 rcases Nat.eq_zero_or_pos (n - i) with h0 | h0
 · rw [h0] at hx
   have hr:∀ ty,(Builtin.clear_ #[t] ty #[.slice (kA p i c size) 0 (c - i)]).run P w=.ok (.tuple #[]) w:=fun ty=>by
     cases kA p i c size <;> simp [Builtin.clear_,run_underlying ht]
   refine Cl hw hd (fW (vs:=[.slice (kA p i c size) 0 (c - i)]) (v:=.tuple #[]) (w':=w) ho (by simp only [rj,hx]) (fun cs=>by simp [builtin,hr])) (h _ ?_)
   refine H.turn hk ⟨rfl,rfl,rfl,Nat.le_refl _,fun _ _=>rfl,Nat.le_refl _⟩ ⟨hl,by omega,k3,?_⟩ (fun g hg=>⟨.inl hg,H.lt hk hg⟩)
   rcases k4 with ⟨q1,q2,q3⟩ | ⟨g,off,cur,q1,q2,q3,q4⟩
   · exact .inl ⟨q1,by omega,q3⟩
   exact .inr ⟨g,off,cur,q1,q2,q3,fun j u hu=>q4 j u (hxt j u hu).2⟩
 rcases k4 with ⟨_,q2,_⟩ | ⟨g,off,cur,rfl,q2,q3,q4⟩
 · omega
 have hc:kA (some ⟨g,off,none⟩) i c size=some ⟨g,off+i * size,none⟩:=by
   unfold kA
   rw [if_neg (by omega),Option.map_some,iL]
 rw [hc] at hx
 have hnl:(n - i) * size=n * size - i * size:=Nat.sub_mul n i size
 have hst:=run_storeCells_at P g (off+i * size) e (Builtin.zeroCells z.cells (n - i)).toList 0 cur w q2 (by rw [AO,hzs,hnl]; omega) (E6 h1 (by omega))
 have hr:∀ ty,(Builtin.clear_ #[t] ty #[.slice (some ⟨g,off+i * size,none⟩) (n - i) (c - i)]).run P w=.ok (.tuple #[]) (w.setRow g (cur.toList.take (off+i * size)++(Builtin.zeroCells z.cells (n - i)).toList++cur.toList.drop (off+i * size+(Builtin.zeroCells z.cells (n - i)).toList.length)).toArray):=fun ty=>by
   obtain ⟨m,hm⟩:∃ m,n - i=m+1:=⟨n - i - 1,by omega⟩
   rw [hm] at hst ⊢
   simp only [Nat.add_zero] at hst
   simp [Builtin.clear_,run_underlying ht,zJ hz,hst]
 refine Cl hw hd (fW (vs:=[.slice (some ⟨g,off+i * size,none⟩) (n - i) (c - i)]) (v:=.tuple #[]) (w':=w.setRow g (cur.toList.take (off+i * size)++(Builtin.zeroCells z.cells (n - i)).toList++cur.toList.drop (off+i * size+(Builtin.zeroCells z.cells (n - i)).toList.length)).toArray) ho (by simp only [rj,hx]) (fun cs=>by simp only [builtin,hr,Sem.run_bind,Result.andThen_ok,Sem.run_pure])) (h _ ?_)
 have hlt:g<w.heap.size:=(Array.getElem?_eq_some_iff.1 q2).1
 have hcl:cur.toList.length=cur.size:=by simp
 refine H.turn hk ((kn w g _).less fun b hb he=>hb.2 ⟨off,by rw [he]⟩) ⟨hl,by omega,k3,.inr ⟨g,off,_,rfl,by simp only [World.setRow,Array.getElem?_modify,if_true,q2,Option.map_some]; rfl,?_,fun j u hu=>?_⟩⟩ (fun b hb=>⟨.inl hb,?_⟩)
 · simp only [List.size_toArray,List.length_append,List.length_take,List.length_drop,AO,hzs,hnl,hcl]; omega
 · obtain ⟨hj,hu⟩:=hxt j u hu
   simp only [List.getElem?_toArray]
   rw [List.append_assoc,List.getElem?_append,List.length_take,hcl,if_pos (by omega),List.getElem?_take,if_pos (by omega),Array.getElem?_toList]
   exact q4 j u hu
 obtain ⟨o',ho'⟩:=hb
 have:b=g:=by cases ho'; rfl
 rw [this]
 exact Nat.lt_of_lt_of_le hlt (kn w g _).size
end
section
variable {κ α:Type} {ek:κ→Value} {va:α→Value} {ok:κ→Prop}
theorem nJ {α β:Type} (f:α→β):∀ (l:List α) (j:Nat),(l.eraseIdx j).map f=(l.map f).eraseIdx j
 | [],_=>rfl
 | a :: l,0=>rfl
 | a :: l,j+1=>by simp only [List.eraseIdx_cons_succ,List.map_cons,nJ f l j]
theorem td (es:Array MapEntry) (j:Nat):(es.eraseIdxIfInBounds j).toList=es.toList.eraseIdx j:=by
 unfold Array.eraseIdxIfInBounds
 split
 · simp
 · rename_i h
   rw [List.eraseIdx_of_length_le (by simpa using h)]
def pX {κ α:Type} [DecidableEq κ] (M:κ→Option α) (x:κ):κ→Option α:=fun y=>if y=x then none else M y
theorem KV.del {κ α:Type} [DecidableEq κ] {ek:κ→Value} {va:α→Value} {ok:κ→Prop} {M:κ→Option α} {es:Array MapEntry} {c:Nat} {kv:List (κ × α)} (h:KV ek va ok M es c kv) {x:κ} {b:α} {j:Nat} (hj:kv[j]?=some (x,b)):KV ek va ok (pX M x) (es.eraseIdxIfInBounds j) c (kv.eraseIdx j):=by
 refine ⟨?_,?_,?_,?_,?_,?_⟩
 · rw [td,nJ,nJ,h.same]
 · rw [nJ]; exact h.nodup.sublist (List.eraseIdx_sublist _ _)
 · exact fun p hp=>h.oks p (List.mem_of_mem_eraseIdx hp)
 · rw [td,nJ]; exact h.born.sublist (List.eraseIdx_sublist _ _)
 · intro e he
   rw [td] at he
   exact h.old e (List.mem_of_mem_eraseIdx he)
 intro p
 unfold pX
 constructor
 · intro hp
   obtain ⟨i,hi,hpi⟩:=List.mem_eraseIdx_iff_getElem?.1 hp
   obtain ⟨h1,h2⟩:=(h.is p).1 (List.mem_of_getElem? hpi)
   refine ⟨h1,?_⟩
   rw [if_neg (fun e=>hi (uS h.nodup hpi hj e))]
   exact h2
 rintro ⟨h1,h2⟩
 split at h2
 · cases h2
 rename_i hne
 obtain ⟨i,hi⟩:=List.getElem?_of_mem ((h.is p).2 ⟨h1,h2⟩)
 refine List.mem_eraseIdx_iff_getElem?.2 ⟨i,fun e=>?_,hi⟩
 subst e
 rw [hj] at hi
 cases hi
 exact hne rfl
theorem KV.delNone {κ α:Type} [DecidableEq κ] {ek:κ→Value} {va:α→Value} {ok:κ→Prop} {M:κ→Option α} {es:Array MapEntry} {c:Nat} {kv:List (κ × α)} (h:KV ek va ok M es c kv) {x:κ} (hM:M x=none):KV ek va ok (pX M x) es c kv:=by
 have e:pX M x=M:=by
   funext y
   unfold pX
   split
   · rename_i h; rw [h,hM]
   · rfl
 rw [e]; exact h
variable {P:Program} {N:Nat} {Q:Exit→Act→World→Prop} {f:Fr} {ds:List Deferred} {w w':World} {o:Oper} {ops:Array Oper} {L:List aD} {K:Act→World→Prop} {M:κ→Option α}
theorem wW {κ α:Type} [DecidableEq κ] {ek:κ→Value} {va:α→Value} {ok:κ→Prop} {M:κ→Option α} {t k e:TypeId} {m y:Operand} {g:Nat} {x:κ} (T:rP P t k e ek ok) (H:S w L) (k0:Nat) (hw:Wt ops f o) (hd:o.dst=none) (hk:L[k0]?=some (Mp ek va ok g M))
   (ho:o.op=.call { callee:=.builtin .delete,args:=#[m,y],argTypes:=#[t,k] }) (hm:cy f m=some (.map (some g))) (hy:cy f y=some (ek x)) (hx:ok x)
   (h:∀ w',S w' (L.set k0 (Mp ek va ok g (pX M x)))→G N K f ds w'):G N (bH P ops Q o K) f ds w:=by
 obtain ⟨es,c,kv,hb,hkv⟩:=H.mp hk
 obtain ⟨l,hl⟩:=T.key x hx
 have hrun:∃ es' kv',(∀ ty,(Builtin.delete_ #[t,k] ty #[.map (some g),ek x]).run P w=.ok (.tuple #[]) (setBlock w g (.map es' c)))∧KV ek va ok (pX M x) es' c kv':=by
   rcases hkv.find T w hx with ⟨h1,h2⟩ | ⟨j,b,h1,h2,h3,q,hq,hqk⟩
   · refine ⟨es,kv,fun ty=>?_,hkv.delNone h1⟩
     simp [Builtin.delete_,run_underlying T.ht,MapKept.run_getObj_map hb,T.K.check w _ hl,h2,MapKept.run_setObj_map _ hb,Result.andThen,setBlock]
   · refine ⟨_,_,fun ty=>?_,hkv.del h2⟩
     simp [Builtin.delete_,run_underlying T.ht,MapKept.run_getObj_map hb,T.K.check w _ hl,h3,MapKept.run_setObj_map _ hb,Result.andThen,setBlock]
 obtain ⟨es',kv',hrun,hkv'⟩:=hrun
 refine Cl hw hd (fW (vs:=[.map (some g),ek x]) (v:=.tuple #[]) (w':=setBlock w g (.map es' c)) ho (by simp only [rj,hm,hy]) (fun cs=>by simp only [builtin,hrun,Sem.run_bind,Result.andThen_ok,Sem.run_pure])) (h _ ?_)
 exact H.turn hk ((gG w g _).less fun j hj=>hj.2) ⟨es',c,kv',mP hb,hkv'⟩ (fun j hj=>by
   have:j=g:=hj
   exact ⟨.inl this,Nat.lt_of_lt_of_le (H.lt hk this) (gG w g _).size⟩)
end
end Go.Proofs.YthmmfhdpkddniaaGreatDoor
