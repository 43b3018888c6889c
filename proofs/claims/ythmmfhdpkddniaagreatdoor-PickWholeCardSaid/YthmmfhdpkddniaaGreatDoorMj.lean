import Derived.Test.YthmmfhdpkddniaaGreatDoorFc
import Derived.Laws.Externs
set_option linter.unusedSimpArgs false
set_option linter.unusedVariables false
namespace Go.Proofs.YthmmfhdpkddniaaGreatDoor
open Go.RowKit
def RoundX {α:Type} (b:Nat) (J Jx:List α→List Item→Prop) (base I K:Item) (xs:List α):Exit→Act→World→Prop
 | .normal,_,W=>∃ Lx,J xs Lx∧S W (base :: I :: K :: Lx)
 | .exit b',_,W=>b'=b∧∃ Lx,Jx xs Lx∧S W (base :: I :: K :: Lx)
 | _,_,_=>False
section
variable {P:Program} {N:Nat} {Q:Exit→Act→World→Prop} {f:Fr} {ds:List Deferred} {w:World} {n:Nat} {ops:Array Oper} {rest:List Oper} {o:Oper} {L:List Item}
end
def LeavesW (P:Program) (fn:Func) (tmps:Array Value) (R:Ending→World→Prop):List Deferred→FrameMode→World→Prop
 | [],u,w=>Leaves P fn tmps R [] u w
 | d :: ds,u,w=>u ≠ .run ∧
     ((∃ r w',d.target=.collected r∧(Instr.takeDeferred r).run P w=.ok [] w'∧LeavesW P fn tmps R ds u w') ∨
      (∃ fv cap f args,d.target=.fn fv cap∧(invoke d.target d.args).run P w=.ok (.enter f args) w ∧
       CallsD P f args u w fun
         | .returned _,u',w'=>LeavesW P fn tmps R ds (settle u') w'
         | .panicked chain,u',w'=>LeavesW P fn tmps R ds (raised u' chain) w'
         | .outgrown,_,w'=>R .outgrown w'))
section
variable {P:Program}
theorem leaves_stepsW {fn:Func} {tmps:Array Value} {R:Ending→World→Prop}:∀ (ds:List Deferred) (u:FrameMode) (w:World) (fr:Frame)
   (cs:List Frame),fr.mode=u→fr.defers=ds→fr.tmps=tmps→P.funcs[fr.fn]?=some fn→fr.kind=.normal→LeavesW P fn tmps R ds u w →
   ∃ e w' fr',R e w'∧Comes P (lone fr cs w) (lone fr' cs w') e∧fr'.fn=fr.fn∧fr'.leaving P w' e:=by
 intro ds
 induction ds with
 | nil=>exact fun u w fr cs hu hd ht hf hk h=>leaves_steps [] u w fr cs hu hd ht hf hk h
 | cons d ds ih =>
   intro u w fr cs hu hd ht hf hk h
   obtain ⟨hrun,h⟩:=h
   rcases h with ⟨r,w',htar,htake,hrest⟩ | ⟨fv,cap,f,args,htar,hinv,hcall⟩
   · have h1:=step_collected (cs:=cs) (hu ▸ hrun) hd htar htake
     obtain ⟨e',w'',fr',hR',hs',hfn',hl'⟩:=ih u w' { fr with defers:=[]++ds } cs hu rfl ht hf hk hrest
     exact ⟨e',w'',fr',hR',Comes.of_steps (.one h1) hs',hfn',hl'⟩
   · have h1:=step_defer (cs:=cs) (hu ▸ hrun) hd htar hinv
     obtain ⟨e,u',w',frX,hR,hsteps,hkX,hgo⟩:=hcall { fr with defers:=ds } cs hu
     cases e with
     | returned v =>
       have h2:=step_going_returned (c:={ { fr with defers:=ds } with mode:=u' }) (cs:=cs) hkX hgo
       obtain ⟨e',w'',fr',hR',hs',hfn',hl'⟩:=ih (settle u') w' { { { fr with defers:=ds } with mode:=u' } with mode:=settle u' } cs rfl rfl ht hf hk hR
       exact ⟨e',w'',fr',hR',Comes.of_steps (.head h1 (Steps.trans hsteps (.one h2))) hs',hfn',hl'⟩
     | panicked chain =>
       have h2:=step_going_panicked (c:={ { fr with defers:=ds } with mode:=u' }) (cs:=cs) hgo
       obtain ⟨e',w'',fr',hR',hs',hfn',hl'⟩:=ih (raised u' chain) w' { { { fr with defers:=ds } with mode:=u' } with mode:=raised u' chain } cs rfl rfl ht hf hk hR
       exact ⟨e',w'',fr',hR',Comes.of_steps (.head h1 (Steps.trans hsteps (.one h2))) hs',hfn',hl'⟩
     | outgrown=>exact ⟨.outgrown,w',fr,hR,Outgrown.of_steps (.one h1) hsteps,rfl,trivial⟩
def bodyPostW (P:Program) (fn:Func) (R:Ending→World→Prop):Exit→Act→World→Prop
 | .normal,a,w | .ret,a,w=>LeavesW P fn a.tmps R a.defers .returning w
 | .panic chain,a,w=>LeavesW P fn a.tmps R a.defers (.panicking chain) w
 | .outgrown,_,w=>R .outgrown w
 | _,_,_=>False
theorem calls_of_wp_W {n:Nat} {f:FuncId} {fn:Func} {c:Code} {args:Array Value} {w:World} {R:Ending→World→Prop}
   (hf:P.funcs[f]?=some fn) (hb:fn.body=some c)
   (h:c.wpIn Fence.wide n P (bodyPostW P fn R) { tmps:=args++Array.replicate (fn.ntmps - args.size) undef,defers:=[] } w):Calls P f args w R:=by
 intro cs
 let b:Frame:={ (default:Frame) with fn:=f,kind:=.normal,roundOf:=none }
 have henter:Frame.enter P f args .normal =
     b.atR { tmps:=args++Array.replicate (fn.ntmps - args.size) undef,defers:=[] } [.code c]:=by
   simp [Frame.enter,Frame.atR,hf,hb,b]
 have hr:Fence.wide.room (cs.length+1+n):=room_wide _
 have hF:Fence.wide.fn b.fn:=trivial
 obtain ⟨e,a',w',hq,harr⟩:=h b [] cs rfl hF hr
 rw [← henter] at harr
 cases e with
 | normal =>
   obtain ⟨e',w'',fr',hR,hs,hfn,hl⟩:=leaves_stepsW a'.defers .returning w' { b.atR a' [] with mode:=.returning } cs rfl rfl rfl hf rfl hq
   exact ⟨e',w'',fr',hR,Comes.of_steps (stepsIn_wide.1 (StepsIn.trans harr (.one (fenced_calm (fr:=b.atR a' []) hF hr rfl) (stepR_end rfl)))) hs,hfn,hl⟩
 | ret =>
   obtain ⟨todo,hs₀⟩:=harr.1 rfl
   obtain ⟨e',w'',fr',hR,hs,hfn,hl⟩:=leaves_stepsW a'.defers .returning w' { b.atR a' todo with mode:=.returning } cs rfl rfl rfl hf rfl hq
   exact ⟨e',w'',fr',hR,Comes.of_steps (stepsIn_wide.1 hs₀) hs,hfn,hl⟩
 | panic chain =>
   obtain ⟨todo,hs₀⟩:=harr
   obtain ⟨e',w'',fr',hR,hs,hfn,hl⟩:=leaves_stepsW a'.defers (.panicking chain) w' { b.atR a' todo with mode:=.panicking chain } cs rfl rfl rfl hf rfl hq
   exact ⟨e',w'',fr',hR,Comes.of_steps (stepsIn_wide.1 hs₀) hs,hfn,hl⟩
 | exit id=>exact hq.elim
 | goto l=>exact hq.elim
 | outgrown=>exact ⟨.outgrown,w',b,hq,harr.resolve_left (by simp [b]),rfl,trivial⟩
end
section
variable {P:Program} {N:Nat} {f:Fr} {ds:List Deferred} {w:World} {L:List Item}
theorem enter_w {g:FuncId} {fn:Func} {c:Code} {args:Array Value} {R':Ending→World→Prop} (N:Nat) (hf:P.funcs[g]?=some fn) (hb:fn.body=some c) (hN:fn.ntmps=N) (hA:Nat.ble args.size N=true)
   (h:G N (c.wpIn (WF none) 9 P (bodyPostW P fn R')) (argsFr 0 args.toList) [] w):Calls P g args w R':=by
 refine calls_of_wp_W (n:=9) hf hb (h _ ⟨?_,fun t v ht=>?_,rfl⟩)
 · have:args.size≤N:=Nat.le_of_ble_eq_true hA
   simp [hN]; omega
 · obtain ⟨_,h2⟩:=argsFr_get _ 0 t v ht
   have h3:args[t]?=some v:=by simpa using h2
   have h4:t<args.size:=(Array.getElem?_eq_some_iff.1 h3).1
   show (args++_)[t]?=_
   rw [Array.getElem?_append_left h4]; exact h3
def GLW (N:Nat) (P:Program) (fn:Func) (R:Ending→World→Prop) (f:Fr) (ds:List Deferred) (u:FrameMode) (w:World):Prop:=∀ a,Rds N a f a.defers→LeavesW P fn a.tmps R ds u w
theorem fin_wend {fn:Func} {R:Ending→World→Prop} (h:GLW N P fn R f ds .returning w):G N (bodyPostW P fn R .normal) f ds w:=fun a ha=>by
 have:=h a ⟨ha.size,ha.get,rfl⟩
 show LeavesW P fn a.tmps R a.defers .returning w
 rw [ha.defers]; exact this
theorem fin_wpanic {fn:Func} {R:Ending→World→Prop} {c:List PanicEntry} (h:GLW N P fn R f ds (.panicking c) w):G N (bodyPostW P fn R (.panic c)) f ds w:=fun a ha=>by
 have:=h a ⟨ha.size,ha.get,rfl⟩
 show LeavesW P fn a.tmps R a.defers (.panicking c) w
 rw [ha.defers]; exact this
theorem glw_mark {fn:Func} {R:Ending→World→Prop} {u:FrameMode} {D k:Nat} (hu:u ≠ .run) (H:S w L) (hk:L[k]?=some (Ob D (.deferred (some [])))) (h:∀ w',S w' (L.set k (Ob D (.deferred none)))→GLW N P fn R f ds u w') :
   GLW N P fn R f (mark D :: ds) u w:=fun a ha=>by
 have hD:w.heap[D]?=some (.deferred (some [])):=H.ob hk
 have hlt:D<w.heap.size:=(Array.getElem?_eq_some_iff.1 hD).1
 have hS:=H.write hk (same_putObj w D (.deferred none)) (World.putObj_heap_same hlt)
 exact ⟨hu,.inl ⟨D,_,rfl,run_takeDeferred hD,h _ hS a ha⟩⟩
theorem glw_ret {fn:Func} {R:Ending→World→Prop} (rs:List ResultVar) (vs:List Value) (hr:fn.results=rs.toArray) (h:resOk P f w rs vs) (hR:R (.returned (tupled vs)) w):GLW N P fn R f [] .returning w:=fun a ha =>
 ⟨_,results_run ha hr h,hR⟩
theorem glw_panic {fn:Func} {R:Ending→World→Prop} {c:List PanicEntry} (hR:R (.panicked c) w):GLW N P fn R f [] (.panicking c) w:=fun a ha=>hR
end
open Go.Maps (Keyed)
open Go.ChangeMaps (setBlock)
section
variable {κ α:Type} {ek:κ→Value} {va:α→Value} {ok:κ→Prop} {M:κ→Option α} {es:Array MapEntry} {c:Nat} {kv:List (κ × α)}
def zipOf (es:Array MapEntry) (kv:List (κ × α)) (seen:Array Nat):List (MapEntry × (κ × α)):=(es.toList.zip kv).filter (fun z=>!seen.contains z.1.born)
def remOf (es:Array MapEntry) (kv:List (κ × α)) (seen:Array Nat):List (κ × α):=(zipOf es kv seen).map Prod.snd
theorem KV.zip_at (h:KV ek va ok M es c kv) {z:MapEntry × (κ × α)} (hz:z∈es.toList.zip kv):∃ j:Nat,es.toList[j]?=some z.1∧kv[j]?=some z.2∧z.1.key=ek z.2.1∧z.1.val=va z.2.2:=by
 obtain ⟨j,hj⟩:=List.getElem?_of_mem hz
 rw [List.getElem?_zip_eq_some] at hj
 obtain ⟨p,hp,h1,h2⟩:=h.at hj.1
 rw [hj.2] at hp
 cases hp
 exact ⟨j,hj.1,hj.2,h1,h2⟩
theorem KV.fst_zip (h:KV ek va ok M es c kv):(es.toList.zip kv).map Prod.fst=es.toList:=List.map_fst_zip (by have:=h.len; simp; omega)
theorem KV.left (h:KV ek va ok M es c kv) (seen:Array Nat):(leftOf es seen).toList=(zipOf es kv seen).map Prod.fst:=by
 unfold leftOf zipOf
 rw [Array.toList_filter]
 conv=>lhs; rw [← h.fst_zip]
 rw [List.filter_map]; rfl
theorem nodup_at {β:Type} {l:List β} {γ:Type} {f:β→γ} (hn:(l.map f).Nodup) {i j:Nat} {x y:β} (hi:l[i]?=some x) (hj:l[j]?=some y) (h:f x=f y):i=j:=by
 obtain ⟨hi1,hi2⟩:=List.getElem?_eq_some_iff.1 hi
 obtain ⟨hj1,hj2⟩:=List.getElem?_eq_some_iff.1 hj
 have hw:=List.pairwise_iff_getElem.1 hn
 rcases Nat.lt_trichotomy i j with hl | hl | hl
 · exact absurd (show (l.map f)[i]'(by simpa using hi1)=(l.map f)[j]'(by simpa using hj1) from by simp [hi2,hj2,h]) (hw i j (by simpa using hi1) (by simpa using hj1) hl)
 · exact hl
 · exact absurd (show (l.map f)[j]'(by simpa using hj1)=(l.map f)[i]'(by simpa using hi1) from by simp [hi2,hj2,h]) (hw j i (by simpa using hj1) (by simpa using hi1) hl)
theorem KV.rem_next (h:KV ek va ok M es c kv) {seen:Array Nat} {e:MapEntry} (he:e∈(leftOf es seen).toList) :
   ∃ p,p∈remOf es kv seen∧e∈es.toList∧e.key=ek p.1∧e.val=va p.2∧(∀ q,q∈remOf es kv (seen.push e.born) ↔ q∈remOf es kv seen∧q ≠ p)∧(remOf es kv (seen.push e.born)).length<(remOf es kv seen).length:=by
 rw [h.left,List.mem_map] at he
 obtain ⟨z,hz,rfl⟩:=he
 have hz':=List.mem_filter.1 hz
 obtain ⟨j,h1,h2,h3,h4⟩:=h.zip_at hz'.1
 have key:∀ y∈es.toList.zip kv,(y.1.born=z.1.born ↔ y.2=z.2):=fun y hy=>by
   obtain ⟨i,i1,i2,_,_⟩:=h.zip_at hy
   constructor
   · intro e
     have:=nodup_at (f:=fun x:MapEntry=>x.born) h.born i1 h1 e
     subst this
     rw [i2] at h2; exact Option.some.inj h2
   · intro e
     have:=nodup_fst h.nodup i2 h2 (by rw [e])
     subst this
     rw [i1] at h1; rw [Option.some.inj h1]
 have hf:zipOf es kv (seen.push z.1.born)=(zipOf es kv seen).filter (fun y=>!(y.1.born == z.1.born)):=by
   unfold zipOf
   rw [List.filter_filter]
   refine List.filter_congr fun y hy=>?_
   simp only [Array.contains_push,Bool.not_or]
   rw [Bool.and_comm]
 refine ⟨z.2,List.mem_map.2 ⟨z,hz,rfl⟩,List.mem_of_getElem? h1,h3,h4,fun q=>?_,?_⟩
 · unfold remOf
   rw [hf]
   constructor
   · intro hq
     obtain ⟨y,hy,rfl⟩:=List.mem_map.1 hq
     obtain ⟨y1,y2⟩:=List.mem_filter.1 hy
     have y3:=(List.mem_filter.1 y1).1
     refine ⟨List.mem_map.2 ⟨y,y1,rfl⟩,fun e=>?_⟩
     have:=(key y y3).2 e
     simp [this] at y2
   · rintro ⟨hq,hne⟩
     obtain ⟨y,hy,rfl⟩:=List.mem_map.1 hq
     have y3:=(List.mem_filter.1 hy).1
     refine List.mem_map.2 ⟨y,List.mem_filter.2 ⟨hy,?_⟩,rfl⟩
     have:¬ y.1.born=z.1.born:=fun e=>hne ((key y y3).1 e)
     simp [this]
 · unfold remOf
   rw [hf,List.length_map,List.length_map]
   exact List.length_filter_lt_length_iff_exists.2 ⟨z,hz,by simp⟩
def CurOk (ek:κ→Value) (va:α→Value) (es:Array MapEntry) (seen:Array Nat):Option (κ × α)→Prop
 | none=>True
 | some p=>∃ (seen0:Array Nat) (e:MapEntry),seen=seen0.push e.born∧e∈es.toList∧e.key=ek p.1∧e.val=va p.2
def MpR (ek:κ→Value) (va:α→Value) (ok:κ→Prop) (g r:Nat) (M:κ→Option α) (rem:List (κ × α)) (cur:Option (κ × α)):Item:=
 ⟨fun j=>j=g∨j=r,fun w=>g ≠ r∧∃ es c kv seen since st,w.heap[g]?=some (.map es c)∧KV ek va ok M es c kv∧w.heap[r]?=some (.mapIter (some g) since seen st)∧(∀ e∈es.toList,e.born<since)∧(since≤st∧since≤c)∧rem=remOf es kv seen∧(cur.isSome=true→st=c)∧CurOk ek va es seen cur,fun h k=>by
   obtain ⟨hn,es,c,kv,seen,since,st,h1,h2,h3,h4⟩:=k
   exact ⟨hn,es,c,kv,seen,since,st,(h.block g (.inl rfl)).trans h1,h2,(h.block r (.inr rfl)).trans h3,h4⟩⟩
variable {P:Program} {N:Nat} {Q:Exit→Act→World→Prop} {f:Fr} {ds:List Deferred} {w w':World} {o:Oper} {ops:Array Oper} {L:List Item} {K:Act→World→Prop}
theorem S.unR {k0 g r:Nat} {rem:List (κ × α)} {cur:Option (κ × α)} (H:S w L) (hk:L[k0]?=some (MpR ek va ok g r M rem cur)):S w (L.set k0 (Mp ek va ok g M)):=by
 have h:=H.at hk
 obtain ⟨hn,es,c,kv,seen,since,st,h1,h2,h3,h4⟩:=h
 refine H.turn hk Same.rfl' ⟨es,c,kv,h1,h2⟩ (fun j hj=>?_)
 have hj:j=g:=hj
 exact ⟨.inl (.inl hj),H.lt hk (.inl hj)⟩
theorem s_next {d:TypeId} {y:Operand} {g r:Nat} {rem:List (κ × α)} {cur:Option (κ × α)} (H:S w L) (k0:Nat) (hw:Wt ops f o) (hd:o.dst=some d) (hN:Nat.blt d N=true) (hk:L[k0]?=some (MpR ek va ok g r M rem cur)) (ho:o.op=.next y false) (hy:evo f y=some (.pointer (some ⟨r,0,none⟩)))
   (h0:rem=[]→G N K ((d,.tuple #[.bool false]) :: f) ds w)
   (h1:∀ p rem' w',p∈rem→ok p.1→M p.1=some p.2→(∀ q,q∈rem' ↔ q∈rem∧q ≠ p)→rem'.length<rem.length→S w' (L.set k0 (MpR ek va ok g r M rem' (some p)))→G N K ((d,.tuple #[.bool true,ek p.1,va p.2]) :: f) ds w'):G N (StepK P ops Q o K) f ds w:=by
 obtain ⟨hn,es,c,kv,seen,since,st,hb,hkv,hr,hold,hsc,hrem,_,hcur⟩:=H.at hk
 rcases run_next_at (P:=P) w o.type r g since st seen es c hr hb hold hsc.1 with ⟨h2,h3⟩ | ⟨e,he,w1,hw1,h3⟩
 · refine s_val hw hd hN (ex_of (x:=Instr.next (.pointer (some ⟨r,0,none⟩)) false o.type) (fun a ha=>by unfold execOp; simp only [ho,ha.eval hy]) h3) (h0 ?_)
   rw [hrem]
   unfold remOf
   have h4:=hkv.left seen
   have h5:(leftOf es seen).toList=[]:=by
     have:(leftOf es seen).toList.length=0:=by simpa using h2
     exact List.eq_nil_of_length_eq_zero this
   rw [h5] at h4
   have:zipOf es kv seen=[]:=List.map_eq_nil_iff.1 h4.symm
   rw [this]; rfl
 · obtain ⟨p,p1,p2,p3,p4,p5,p6⟩:=hkv.rem_next he
   have hpk:p∈kv:=by
     obtain ⟨z,hz,rfl⟩:=List.mem_map.1 p1
     obtain ⟨j,_,j2,_⟩:=hkv.zip_at (List.mem_filter.1 hz).1
     exact List.mem_of_getElem? j2
   have hp:=(hkv.is p).1 hpk
   rw [p3,p4] at h3
   refine s_val hw hd hN (ex_of (x:=Instr.next (.pointer (some ⟨r,0,none⟩)) false o.type) (fun a ha=>by unfold execOp; simp only [ho,ha.eval hy]) h3) (h1 p (remOf es kv (seen.push e.born)) _ (hrem ▸ p1) hp.1 hp.2 (by rw [hrem]; exact p5) (by rw [hrem]; exact p6) ?_)
   have hw1h:w1.heap=w.heap:=by rcases hw1 with rfl | rfl <;> rfl
   have hr1:w1.heap[r]?=some (.mapIter (some g) since seen st):=by rw [hw1h]; exact hr
   have hS1:S w1 L:=by
     rcases hw1 with rfl | rfl
     · exact H
     · exact H.drew
   refine hS1.turn hk ((same_setBlock w1 r _).less fun j hj=>fun e=>hj.2 (.inr e)) ⟨hn,es,c,kv,_,since,c,?_,hkv,heap_setBlock hr1,hold,⟨hsc.2,hsc.2⟩,rfl,fun _=>rfl,seen,e,rfl,p2,p3,p4⟩ (fun j hj=>⟨.inl hj,?_⟩)
   · rw [(same_setBlock w1 r _).block g hn,hw1h]; exact hb
   · exact Nat.lt_of_lt_of_le (hS1.lt hk hj) (same_setBlock w1 r _).size
theorem x_entry {t k e0:TypeId} {y:Operand} {g r:Nat} {rem:List (κ × α)} {p:κ × α} (H:S w L) (k0:Nat) (hk:L[k0]?=some (MpR ek va ok g r M rem (some p))) (ho:o.op=.entry y) (hy:evo f y=some (.pointer (some ⟨r,0,none⟩))):Ex P N f ds o w (.tuple #[ek p.1,va p.2]) w:=
 ex_of (x:=Instr.entry (.pointer (some ⟨r,0,none⟩))) (fun a ha=>by unfold execOp; simp only [ho,ha.eval hy]) (by
   obtain ⟨hn,es,c,kv,seen,since,st,hb,hkv,hr,hold,hsc,hrem,hst,seen0,e,rfl,h2,h3,h4⟩:=H.at hk
   have hst:=hst rfl
   subst hst
   rw [run_entry_at w r g since seen0 es _ e hr hb h2 hkv.born,h3,h4])
end
end Go.Proofs.YthmmfhdpkddniaaGreatDoor
namespace Go.Proofs.YthmmfhdpkddniaaGreatDoor
open Go.RowKit
section
variable {P:Program} {N:Nat} {Q:Exit→Act→World→Prop} {f:Fr} {ds:List Deferred} {w w':World} {o:Oper} {ops:Array Oper} {L:List Item} {K:Act→World→Prop}
variable {κ α:Type} {ek:κ→Value} {va:α→Value} {ok:κ→Prop} {M:κ→Option α}
end
section
variable {P:Program} {N:Nat} {f:Fr} {ds:List Deferred} {w:World} {ops:Array Oper} {Q:Exit→Act→World→Prop} {K:Act→World→Prop} {o:Oper} {L:List Item}
end
theorem Reads.take {w:World} {p:Option Addr} {n c size:Nat} {xs:List Value} (hr:Reads w p n c size xs) (k:Nat) (hk:k≤n):Reads w p k c size (xs.take (k * size)):=by
 obtain ⟨k1,k2,k3⟩:=hr
 have hx:k * size≤n * size:=Nat.mul_le_mul_right _ hk
 refine ⟨by rw [List.length_take,k1]; omega,by omega,fun h0=>?_⟩
 obtain ⟨a,ha,hc⟩:=k3 (by omega)
 refine ⟨a,ha,fun j u hu=>hc j u ?_⟩
 have hj:=(List.getElem?_eq_some_iff.1 hu).1
 rw [List.length_take] at hj
 rwa [List.getElem?_take_of_lt (by omega)] at hu
def clipP (p:Option Addr) (k size:Nat):Option Addr:=if k=0 then p else p.map fun q=>q.add (0 * size)
open Go.Maps (Keyed)
def okI (x:Int):Prop:=-9223372036854775808≤x∧x≤9223372036854775807
theorem okI_wf {x:Int} (h:okI x):(Lit.int .i64 x).wf=true:=by
 have h1:IntKind.i64.min=-9223372036854775808:=by decide
 have h2:IntKind.i64.max=9223372036854775807:=by decide
 obtain ⟨a,b⟩:=h
 simp [Lit.wf,h1,h2]; omega
theorem wf_okI {x:Int} (h:(Lit.int .i64 x).wf=true):okI x:=by
 have h1:IntKind.i64.min=-9223372036854775808:=by decide
 have h2:IntKind.i64.max=9223372036854775807:=by decide
 simp [Lit.wf,h1,h2] at h
 exact h
theorem intTy {P:Program} {t k e:TypeId} (ht:P.underlying t=some (.map k e)) (hk:P.underlying k=some (.int .i64)):MapTy P t k e (Value.int .i64) okI:=
 ⟨ht,Go.Maps.int_keyed hk,fun x hx=>⟨_,Go.Maps.keyOf_int_mk hk (okI_wf hx)⟩,fun x y _ _ h=>by cases h; rfl⟩
theorem look_B (x:Option Bool):(x.map Value.bool).getD (.bool false)=.bool (x.getD false):=by cases x <;> rfl
end Go.Proofs.YthmmfhdpkddniaaGreatDoor
