import Derived.Test.YtpbjekdjebjbkaaGreatDoorFj
set_option linter.unusedSimpArgs false
set_option linter.unusedVariables false
namespace Go.Proofs.YtpbjekdjebjbkaaGreatDoor
open Go.RowKit
open Go.Maps (Keyed)
open Go.ChangeMaps (setBlock)
section
variable {κ α:Type} {ek:κ→Value} {va:α→Value} {ok:κ→Prop} {M:κ→Option α} {es:Array MapEntry} {c:Nat} {kv:List (κ × α)}
def MpE (ek:κ→Value) (va:α→Value) (ok:κ→Prop) (g:Nat) (M:κ→Option α) (x:κ) (s:Nat):Item:=
 ⟨fun j=>j=g,fun w=>∃ es c kv,w.heap[g]?=some (.map es c)∧KV ek va ok M es c kv∧∃ (j:Nat) (e:MapEntry) (b:α),es.toList[j]?=some e∧e.born=s∧kv[j]?=some (x,b),fun h k=>by
   obtain ⟨es,c,kv,h1,h2⟩:=k
   exact ⟨es,c,kv,(h.block g rfl).trans h1,h2⟩⟩
theorem modify_same {es:Array MapEntry} {j:Nat} {e:MapEntry} {f:MapEntry→MapEntry} (h:es.toList[j]?=some e) (hf:f e=e):es.modify j f=es:=by
 apply Array.ext'
 rw [Array.toList_modify]
 apply List.ext_getElem?
 intro i
 rw [List.getElem?_modify]
 by_cases hj:j=i
 · subst hj; rw [h]; simp [hf]
 · simp [hj]
theorem modify_like {es:Array MapEntry} {j:Nat} {e:MapEntry} {f f':MapEntry→MapEntry} (h:es.toList[j]?=some e) (hf:f e=f' e):es.modify j f=es.modify j f':=by
 apply Array.ext'
 rw [Array.toList_modify,Array.toList_modify]
 apply List.ext_getElem?
 intro i
 rw [List.getElem?_modify,List.getElem?_modify]
 by_cases hj:j=i
 · subst hj; rw [h]; simp [hf]
 · simp [hj]
theorem upM_same [DecidableEq κ] {M:κ→Option α} {x:κ} {a:α} (h:M x=some a):upM M x a=M:=by
 funext y
 unfold upM
 by_cases e:y=x
 · rw [if_pos e,e,h]
 · rw [if_neg e]
theorem upM_up [DecidableEq κ] {M:κ→Option α} {x:κ} {a b:α}:upM (upM M x a) x b=upM M x b:=by
 funext y
 unfold upM
 by_cases e:y=x
 · rw [if_pos e,if_pos e]
 · rw [if_neg e,if_neg e,if_neg e]
theorem born_at {es:Array MapEntry} {j:Nat} {e:MapEntry} (hn:(es.toList.map (·.born)).Nodup) (h:es.toList[j]?=some e):es.findIdx? (fun q=>(q.born:Int) == (e.born:Int))=some j:=by
 obtain ⟨hj,hje⟩:=List.getElem?_eq_some_iff.1 h
 have h1:es.toList.findIdx? (fun q=>(q.born:Int) == (e.born:Int))=some j:=by
   rw [List.findIdx?_eq_some_iff_getElem]
   refine ⟨hj,by rw [hje]; simp,fun i hi hc=>?_⟩
   have hi':i<es.toList.length:=Nat.lt_trans hi hj
   have h2:es.toList[i].born=e.born:=by
     have:=eq_of_beq hc
     omega
   have hw:=List.pairwise_iff_getElem.1 hn i j (by simpa using hi') (by simpa using hj) hi
   exact hw (by simp only [List.getElem_map]; rw [hje]; exact h2)
 have h3:=List.findIdx?_toArray (fun q:MapEntry=>(q.born:Int) == (e.born:Int)) es.toList
 rw [Array.toArray_toList] at h3
 rw [h3]; exact h1
variable {P:Program} {N:Nat} {Q:Exit→Act→World→Prop} {f:Fr} {ds:List Deferred} {w w':World} {o:Oper} {ops:Array Oper} {L:List Item} {K:Act→World→Prop}
theorem s_mapEntry [DecidableEq κ] {t k e:TypeId} {m y:Operand} {g d:Nat} {x:κ} {z0:α} (T:MapTy P t k e ek ok) (H:S w L) (k0:Nat) (hw:Wt ops f o) (hd:o.dst=some d) (hN:Nat.blt d N=true) (hk:L[k0]?=some (Mp ek va ok g M)) (ho:o.op=.mapEntry t m y) (hm:evo f m=some (.map (some g))) (hy:evo f y=some (ek x)) (hx:ok x) (hz:zeO P e=some (va z0))
   (h:∀ (s:Nat) w',S w' (L.set k0 (MpE ek va ok g (upM M x ((M x).getD z0)) x s))→G N K ((d,.tuple #[va ((M x).getD z0),.int .i64 s]) :: f) ds w'):G N (StepK P ops Q o K) f ds w:=by
 obtain ⟨es,c,kv,hb,hkv⟩:=H.mp hk
 obtain ⟨l,hl⟩:=T.key x hx
 have hrun:∃ es' c' kv' s,(Instr.mapEntry t (.map (some g)) (ek x)).run P w=.ok (.tuple #[va ((M x).getD z0),.int .i64 (s:Nat)]) (setBlock w g (.map es' c'))∧KV ek va ok (upM M x ((M x).getD z0)) es' c' kv'∧∃ (j:Nat) (e:MapEntry) (b:α),es'.toList[j]?=some e∧e.born=s∧kv'[j]?=some (x,b):=by
   rcases hkv.find T w hx with ⟨h1,h2⟩ | ⟨j,b,h1,h2,h3,q,hq,hqk⟩
   · refine ⟨es.push ⟨ek x,va z0,c⟩,c+1,kv++[(x,z0)],c,?_,?_,es.size,⟨ek x,va z0,c⟩,z0,?_,rfl,?_⟩
     · simp [Instr.mapEntry,run_underlying T.ht,MapKept.run_getObj_map hb,T.K.check w _ hl,h2,MapKept.run_setObj_map _ hb,Result.andThen,setBlock,run_ze hz,h1,goInt]
     · rw [h1]; exact hkv.push T hx h1
     · rw [Array.toList_push,List.getElem?_append_right (by simp)]; simp
     · rw [hkv.len,List.getElem?_append_right (by simp)]; simp
   · have hq':es[j]?=some q:=by simpa using hq
     refine ⟨es,c,kv,q.born,?_,?_,j,q,b,hq,rfl,h2⟩
     · have hms:es.modify j (fun e=>{ e with key:=ek x })=es:=modify_same hq (by rw [← hqk])
       simp [Instr.mapEntry,run_underlying T.ht,MapKept.run_getObj_map hb,T.K.check w _ hl,h3,hq',hqk,T.K.stays w hl,MapKept.run_setObj_map _ hb,Result.andThen,setBlock,h1,hms,goInt]
     · rw [h1]; show KV ek va ok (upM M x b) es c kv; rw [upM_same h1]; exact hkv
 obtain ⟨es',c',kv',s,hrun,hkv',hs⟩:=hrun
 refine s_val hw hd hN (ex_of (x:=Instr.mapEntry t (.map (some g)) (ek x)) (fun a ha=>by unfold execOp; simp only [ho,ha.eval hm,ha.eval hy]) hrun) (h s _ ?_)
 exact H.turn hk ((same_setBlock w g _).less fun j hj=>hj.2) ⟨es',c',kv',heap_setBlock hb,hkv',hs⟩ (fun j hj=>by
   have:j=g:=hj
   exact ⟨.inl this,Nat.lt_of_lt_of_le (H.lt hk this) (same_setBlock w g _).size⟩)
theorem s_entryStore [DecidableEq κ] {t:TypeId} {m y z:Operand} {g s:Nat} {x:κ} {a:α} (H:S w L) (k0:Nat) (hw:Wt ops f o) (hd:o.dst=none) (hk:L[k0]?=some (MpE ek va ok g M x s)) (ho:o.op=.entryStore t m y z) (hm:evo f m=some (.map (some g))) (hy:evo f y=some (.int .i64 s)) (hz:evo f z=some (va a)) {k e:TypeId} (T:MapTy P t k e ek ok)
   (h:∀ w',S w' (L.set k0 (Mp ek va ok g (upM M x a)))→G N K f ds w'):G N (StepK P ops Q o K) f ds w:=by
 obtain ⟨es,c,kv,hb,hkv,j,q,b,hq,hqs,hkj⟩:∃ es c kv,w.heap[g]?=some (.map es c)∧KV ek va ok M es c kv∧∃ (j:Nat) (e:MapEntry) (b:α),es.toList[j]?=some e∧e.born=s∧kv[j]?=some (x,b):=H.at hk
 have hx:ok x:=hkv.oks _ (List.mem_of_getElem? hkj)
 have hqx:q.key=ek x:=by
   obtain ⟨p,hp,h1,_⟩:=hkv.at hq
   rw [hkj] at hp
   obtain rfl:=Option.some.inj hp
   exact h1
 have hi:=born_at hkv.born hq
 rw [hqs] at hi
 have hms:es.modify j (fun e=>{ e with val:=va a })=es.modify j (fun e=>{ e with key:=ek x,val:=va a }):=modify_like hq (by rw [← hqx])
 have hrun:(Instr.entryStore t (.map (some g)) (.int .i64 s) (va a)).run P w=.ok () (setBlock w g (.map (es.modify j fun e=>{ e with key:=ek x,val:=va a }) c)):=by
   simp [Instr.entryStore,MapKept.run_getObj_map hb,Result.andThen,asInt,asIntOf,hi,hms,MapKept.run_setObj_map _ hb,setBlock]
 refine s_unit hw hd (w':=setBlock w g (.map (es.modify j fun e=>{ e with key:=ek x,val:=va a }) c)) (fun a' ha=>by unfold execOp; simp only [ho,ha.eval hm,ha.eval hy,ha.eval hz,Sem.run_bind,hrun,Result.andThen_ok,Sem.run_pure]) (h _ ?_)
 exact H.turn hk ((same_setBlock w g _).less fun j hj=>hj.2) ⟨_,c,_,heap_setBlock hb,hkv.set T hx hkj⟩ (fun j hj=>by
   have:j=g:=hj
   exact ⟨.inl this,Nat.lt_of_lt_of_le (H.lt hk this) (same_setBlock w g _).size⟩)
end
end Go.Proofs.YtpbjekdjebjbkaaGreatDoor
