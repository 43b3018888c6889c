import Derived.Test.YthmmfhdpkddniaaGreatDoorMj
import Derived.LoopN
import Derived.Test.YthmmfhdpkddniaaGreatDoorProg
set_option linter.unusedSimpArgs false
set_option linter.unusedVariables false
namespace Go.Proofs.YthmmfhdpkddniaaGreatDoor
open Go.RowKit
open Go.ChangeMaps (setBlock)
section
variable {P:Program} {N:Nat} {Q:Exit→Act→World→Prop} {f:Fr} {ds:List Deferred} {w w':World} {o:Oper} {ops:Array Oper} {L:List Item} {K:Act→World→Prop}
theorem g_rounds {c:Code} (n:Nat) (h:G N (Code.rounds P c Q n) f ds w):G N ((Code.loop c).wp P Q) f ds w:=fun a ha=>wp_loop_rounds n (h a ha)
theorem g_roundU {c:Code} {n:Nat} (h:G N (c.wp P (Exit.then (Code.rounds P c Q n) Q)) f ds w):G N (Code.rounds P c Q (n+1)) f ds w:=h
theorem zero_ones {z:Value} {n:Nat} (h1:z.cells.toList.all (·.oneCell')=true) (hs:0<z.cells.size):∀ v∈(Builtin.zeroCells z.cells n).toList,v.oneCell'=true:=fun v hv=>by
 unfold Builtin.zeroCells at hv
 rw [Array.toList_map] at hv
 obtain ⟨i,_,rfl⟩:=List.mem_map.1 hv
 have hi:i % z.cells.size<z.cells.size:=Nat.mod_lt _ hs
 rw [getElem!_pos z.cells _ hi]
 exact List.all_eq_true.1 h1 _ (by simp)
theorem zero_len (cs:Array Value) (n:Nat):(Builtin.zeroCells cs n).toList.length=n * cs.size:=by unfold Builtin.zeroCells; simp
theorem s_clear {t e size n c i:Nat} {x:Operand} {z:Value} {p:Option Addr} {xs:List Value} (H:S w L) (k:Nat) (hw:Wt ops f o) (hd:o.dst=none) (ho:o.op=.call { callee:=.builtin .clear,args:=#[x],argTypes:=#[t] })
   (hx:evo f x=some (.slice (cutP p i c size) (n - i) (c - i))) (hk:L[k]?=some (Rw e size p n c xs)) (ht:P.underlying t=some (.slice e)) (hz:zeO P e=some z) (hzs:z.cells.size=size) (h1:z.cells.toList.all (·.oneCell')=true) (hs:0<size) (hi:i≤n)
   (h:∀ w',S w' (L.set k (Rw e size p i c (xs.take (i * size))))→G N K f ds w'):G N (StepK P ops Q o K) f ds w:=by
 obtain ⟨k1,k2,k3,k4⟩:=H.rw hk
 have his:i * size≤n * size:=Nat.mul_le_mul_right _ hi
 have hic:i * size≤c * size:=Nat.mul_le_mul_right _ (Nat.le_trans hi k2)
 have hns:n * size≤c * size:=Nat.mul_le_mul_right _ k2
 have hl:(xs.take (i * size)).length=i * size:=by rw [List.length_take]; omega
 have hxt:∀ j u,(xs.take (i * size))[j]?=some u→j<i * size∧xs[j]?=some u:=fun j u hu=>by
   rw [List.getElem?_take] at hu
   split at hu
   · rename_i hj; exact ⟨hj,hu⟩
   · cases hu
 rcases Nat.eq_zero_or_pos (n - i) with h0 | h0
 · rw [h0] at hx
   have hr:∀ ty,(Builtin.clear_ #[t] ty #[.slice (cutP p i c size) 0 (c - i)]).run P w=.ok (.tuple #[]) w:=fun ty=>by
     cases cutP p i c size <;> simp [Builtin.clear_,run_underlying ht]
   refine s_val0 hw hd (x_builtin (vs:=[.slice (cutP p i c size) 0 (c - i)]) (v:=.tuple #[]) (w':=w) ho (by simp only [evs,hx]) (fun cs=>by simp [builtin,hr])) (h _ ?_)
   refine H.turn hk ⟨rfl,rfl,rfl,Nat.le_refl _,fun _ _=>rfl,Nat.le_refl _⟩ ⟨hl,by omega,k3,?_⟩ (fun g hg=>⟨.inl hg,H.lt hk hg⟩)
   rcases k4 with ⟨q1,q2,q3⟩ | ⟨g,off,cur,q1,q2,q3,q4⟩
   · exact .inl ⟨q1,by omega,q3⟩
   · exact .inr ⟨g,off,cur,q1,q2,q3,fun j u hu=>q4 j u (hxt j u hu).2⟩
 · rcases k4 with ⟨_,q2,_⟩ | ⟨g,off,cur,rfl,q2,q3,q4⟩
   · omega
   · have hc:cutP (some ⟨g,off,none⟩) i c size=some ⟨g,off+i * size,none⟩:=by
       unfold cutP
       rw [if_neg (by omega),Option.map_some,add_lit']
     rw [hc] at hx
     have hnl:(n - i) * size=n * size - i * size:=Nat.sub_mul n i size
     have hst:=run_storeCells_at P g (off+i * size) e (Builtin.zeroCells z.cells (n - i)).toList 0 cur w q2 (by rw [zero_len,hzs,hnl]; omega) (zero_ones h1 (by omega))
     have hr:∀ ty,(Builtin.clear_ #[t] ty #[.slice (some ⟨g,off+i * size,none⟩) (n - i) (c - i)]).run P w=.ok (.tuple #[]) (w.setRow g (cur.toList.take (off+i * size)++(Builtin.zeroCells z.cells (n - i)).toList++cur.toList.drop (off+i * size+(Builtin.zeroCells z.cells (n - i)).toList.length)).toArray):=fun ty=>by
       obtain ⟨m,hm⟩:∃ m,n - i=m+1:=⟨n - i - 1,by omega⟩
       rw [hm] at hst ⊢
       simp only [Nat.add_zero] at hst
       simp [Builtin.clear_,run_underlying ht,run_ze hz,hst]
     refine s_val0 hw hd (x_builtin (vs:=[.slice (some ⟨g,off+i * size,none⟩) (n - i) (c - i)]) (v:=.tuple #[]) (w':=w.setRow g (cur.toList.take (off+i * size)++(Builtin.zeroCells z.cells (n - i)).toList++cur.toList.drop (off+i * size+(Builtin.zeroCells z.cells (n - i)).toList.length)).toArray) ho (by simp only [evs,hx]) (fun cs=>by simp only [builtin,hr,Sem.run_bind,Result.andThen_ok,Sem.run_pure])) (h _ ?_)
     have hlt:g<w.heap.size:=(Array.getElem?_eq_some_iff.1 q2).1
     have hcl:cur.toList.length=cur.size:=by simp
     refine H.turn hk ((same_setRow w g _).less fun b hb he=>hb.2 ⟨off,by rw [he]⟩) ⟨hl,by omega,k3,.inr ⟨g,off,_,rfl,by simp only [World.setRow,Array.getElem?_modify,if_true,q2,Option.map_some]; rfl,?_,fun j u hu=>?_⟩⟩ (fun b hb=>⟨.inl hb,?_⟩)
     · simp only [List.size_toArray,List.length_append,List.length_take,List.length_drop,zero_len,hzs,hnl,hcl]; omega
     · obtain ⟨hj,hu⟩:=hxt j u hu
       simp only [List.getElem?_toArray]
       rw [List.append_assoc,List.getElem?_append,List.length_take,hcl,if_pos (by omega),List.getElem?_take,if_pos (by omega),Array.getElem?_toList]
       exact q4 j u hu
     · obtain ⟨o',ho'⟩:=hb
       have:b=g:=by cases ho'; rfl
       rw [this]
       exact Nat.lt_of_lt_of_le hlt (same_setRow w g _).size
end
section
variable {κ α:Type} {ek:κ→Value} {va:α→Value} {ok:κ→Prop}
theorem map_erase {α β:Type} (f:α→β):∀ (l:List α) (j:Nat),(l.eraseIdx j).map f=(l.map f).eraseIdx j
 | [],_=>rfl
 | a :: l,0=>rfl
 | a :: l,j+1=>by simp only [List.eraseIdx_cons_succ,List.map_cons,map_erase f l j]
theorem erase_list (es:Array MapEntry) (j:Nat):(es.eraseIdxIfInBounds j).toList=es.toList.eraseIdx j:=by
 unfold Array.eraseIdxIfInBounds
 split
 · simp
 · rename_i h
   rw [List.eraseIdx_of_length_le (by simpa using h)]
def delM {κ α:Type} [DecidableEq κ] (M:κ→Option α) (x:κ):κ→Option α:=fun y=>if y=x then none else M y
theorem KV.del {κ α:Type} [DecidableEq κ] {ek:κ→Value} {va:α→Value} {ok:κ→Prop} {M:κ→Option α} {es:Array MapEntry} {c:Nat} {kv:List (κ × α)} (h:KV ek va ok M es c kv) {x:κ} {b:α} {j:Nat} (hj:kv[j]?=some (x,b)):KV ek va ok (delM M x) (es.eraseIdxIfInBounds j) c (kv.eraseIdx j):=by
 refine ⟨?_,?_,?_,?_,?_,?_⟩
 · rw [erase_list,map_erase,map_erase,h.same]
 · rw [map_erase]; exact h.nodup.sublist (List.eraseIdx_sublist _ _)
 · exact fun p hp=>h.oks p (List.mem_of_mem_eraseIdx hp)
 · rw [erase_list,map_erase]; exact h.born.sublist (List.eraseIdx_sublist _ _)
 · intro e he
   rw [erase_list] at he
   exact h.old e (List.mem_of_mem_eraseIdx he)
 · intro p
   unfold delM
   constructor
   · intro hp
     obtain ⟨i,hi,hpi⟩:=List.mem_eraseIdx_iff_getElem?.1 hp
     obtain ⟨h1,h2⟩:=(h.is p).1 (List.mem_of_getElem? hpi)
     refine ⟨h1,?_⟩
     rw [if_neg (fun e=>hi (nodup_fst h.nodup hpi hj e))]
     exact h2
   · rintro ⟨h1,h2⟩
     split at h2
     · cases h2
     · rename_i hne
       obtain ⟨i,hi⟩:=List.getElem?_of_mem ((h.is p).2 ⟨h1,h2⟩)
       refine List.mem_eraseIdx_iff_getElem?.2 ⟨i,fun e=>?_,hi⟩
       subst e
       rw [hj] at hi
       cases hi
       exact hne rfl
theorem KV.delNone {κ α:Type} [DecidableEq κ] {ek:κ→Value} {va:α→Value} {ok:κ→Prop} {M:κ→Option α} {es:Array MapEntry} {c:Nat} {kv:List (κ × α)} (h:KV ek va ok M es c kv) {x:κ} (hM:M x=none):KV ek va ok (delM M x) es c kv:=by
 have e:delM M x=M:=by
   funext y
   unfold delM
   split
   · rename_i h; rw [h,hM]
   · rfl
 rw [e]; exact h
variable {P:Program} {N:Nat} {Q:Exit→Act→World→Prop} {f:Fr} {ds:List Deferred} {w w':World} {o:Oper} {ops:Array Oper} {L:List Item} {K:Act→World→Prop} {M:κ→Option α}
theorem s_delete {κ α:Type} [DecidableEq κ] {ek:κ→Value} {va:α→Value} {ok:κ→Prop} {M:κ→Option α} {t k e:TypeId} {m y:Operand} {g:Nat} {x:κ} (T:MapTy P t k e ek ok) (H:S w L) (k0:Nat) (hw:Wt ops f o) (hd:o.dst=none) (hk:L[k0]?=some (Mp ek va ok g M))
   (ho:o.op=.call { callee:=.builtin .delete,args:=#[m,y],argTypes:=#[t,k] }) (hm:evo f m=some (.map (some g))) (hy:evo f y=some (ek x)) (hx:ok x)
   (h:∀ w',S w' (L.set k0 (Mp ek va ok g (delM M x)))→G N K f ds w'):G N (StepK P ops Q o K) f ds w:=by
 obtain ⟨es,c,kv,hb,hkv⟩:=H.mp hk
 obtain ⟨l,hl⟩:=T.key x hx
 have hrun:∃ es' kv',(∀ ty,(Builtin.delete_ #[t,k] ty #[.map (some g),ek x]).run P w=.ok (.tuple #[]) (setBlock w g (.map es' c)))∧KV ek va ok (delM M x) es' c kv':=by
   rcases hkv.find T w hx with ⟨h1,h2⟩ | ⟨j,b,h1,h2,h3,q,hq,hqk⟩
   · refine ⟨es,kv,fun ty=>?_,hkv.delNone h1⟩
     simp [Builtin.delete_,run_underlying T.ht,MapKept.run_getObj_map hb,T.K.check w _ hl,h2,MapKept.run_setObj_map _ hb,Result.andThen,setBlock]
   · refine ⟨_,_,fun ty=>?_,hkv.del h2⟩
     simp [Builtin.delete_,run_underlying T.ht,MapKept.run_getObj_map hb,T.K.check w _ hl,h3,MapKept.run_setObj_map _ hb,Result.andThen,setBlock]
 obtain ⟨es',kv',hrun,hkv'⟩:=hrun
 refine s_val0 hw hd (x_builtin (vs:=[.map (some g),ek x]) (v:=.tuple #[]) (w':=setBlock w g (.map es' c)) ho (by simp only [evs,hm,hy]) (fun cs=>by simp only [builtin,hrun,Sem.run_bind,Result.andThen_ok,Sem.run_pure])) (h _ ?_)
 exact H.turn hk ((same_setBlock w g _).less fun j hj=>hj.2) ⟨es',c,kv',heap_setBlock hb,hkv'⟩ (fun j hj=>by
   have:j=g:=hj
   exact ⟨.inl this,Nat.lt_of_lt_of_le (H.lt hk this) (same_setBlock w g _).size⟩)
end
end Go.Proofs.YthmmfhdpkddniaaGreatDoor
namespace Go.Proofs.YthmmfhdpkddniaaGreatDoor
open Go.RowKit Go.Deep
section
variable {P:Program} {N:Nat} {Q:Exit→Act→World→Prop} {f:Fr} {ds:List Deferred} {w w':World} {o:Oper} {ops:Array Oper} {L:List Item} {K:Act→World→Prop}
theorem s_bytesOf2 {d sT dT e:Nat} {x:Operand} {s:ByteArray} (H:S w L) (hw:Wt ops f o) (hd:o.dst=some d) (hN:Nat.blt d N=true) (ho:o.op=.convert sT dT x) (hx:evo f x=some (.string s))
   (hs:P.underlying sT=some .string) (hd':P.underlying dT=some (.slice e)) (he:P.underlying e=some (.int .u8))
   (h:∀ g c fr cs w',S w' (Ob g (.cells cs e fr) :: L)→(∀ j,j<s.size→cs[j]?=some (.int .u8 ((s.data.toList.getD j 0).toNat:Nat)))→s.size≤c→(s.size≤cs.size∧cs.size≤fr.1)→G N K ((d,.slice (some ⟨g,0,none⟩) s.size c) :: f) ds w'):G N (StepK P ops Q o K) f ds w:=by
 have hrun:=Lib.run_convert_string_bytes (P:=P) w sT dT e s hs hd' he
 have hS:S (Lib.bytesWorld w e s) (Ob w.heap.size (.cells (Lib.bytesCells w e s) e ((Lib.bytesCells w e s).size,(Lib.bytesCells w e s).size+1)) :: L):=by
   refine (H.move (same_bytes w e s)).cons (Lib.bytesWorld_at_new w e s) (fun g hg=>?_) (fun x hx g hg hx'=>?_)
   · rw [Lib.bytesWorld_size]; have hg:g=w.heap.size:=hg; omega
   · have hg:g=w.heap.size:=hg
     have:=(H.1 x hx).2 g hx'
     omega
 exact s_val hw hd hN (ex_of (x:=convert sT dT (.string s)) (fun a ha=>by unfold execOp; simp only [ho,ha.eval hx]) hrun)
   (h _ _ _ _ _ hS (fun j hj=>by
     simp only [Lib.bytesCells]
     rw [Array.getElem?_append_left (by simpa using hj)]
     simp [List.getD,hj]) (grownCap_ge w s.size 0 e) ⟨by simp [Lib.bytesCells],Nat.le_refl _⟩)
theorem s_storeWC {t e size n c j:Nat} {x y:Operand} {p:Option Addr} {xs:List Value} {v:Value} (H:S w L) (k:Nat) (hw:Wt ops f o) (hd:o.dst=none) (ho:o.op=.store t x y) (hx:evo f x=some (.pointer (p.map fun q=>q.add j)))
   (hy:evo f y=some v) (hk:L[k]?=some (Rw e size p n c xs)) (hn:szO P t=some 1) (hv:v.cells=#[v]) (h1:v.oneCell'=true) (hj:j<n * size)
   (h:∀ w',S w' (L.set k (Rw e size p n c (xs.set j v)))→G N K f ds w'):G N (StepK P ops Q o K) f ds w:=by
 obtain ⟨k1,k2,k3,k4⟩:=H.rw hk
 rcases k4 with ⟨_,h0,_⟩ | ⟨g,off,cur,rfl,hg,hcs,hc⟩
 · subst h0; omega
 · have hns:n * size≤c * size:=Nat.mul_le_mul_right _ k2
   have hr:=run_storeR (P:=P) (t:=t) (g:=g) (i:=off+j) (v:=v) hg (by rw [hv]; exact hn) (by rw [hv]; show off+j+1≤_; omega) (by rw [hv]; simpa using h1)
   rw [hv] at hr
   have hcur:(cur.toList.take (off+j)++(#[v]:Array Value).toList++cur.toList.drop (off+j+(#[v]:Array Value).size)).toArray=cur.setIfInBounds (off+j) v:=by
     apply Array.ext'
     simp only [Array.toList_setIfInBounds,List.size_toArray,List.length_cons,List.length_nil]
     rw [List.set_eq_take_append_cons_drop,if_pos (by rw [Array.length_toList]; omega)]
     simp
   rw [hcur] at hr
   rw [Option.map_some,add_lit'] at hx
   have hlt:g<w.heap.size:=(Array.getElem?_eq_some_iff.1 hg).1
   refine s_unit hw hd (exu_store ho hx hy hr) (h _ (H.turn hk ((same_setRow w g _).less fun b hb he=>hb.2 ⟨off,by rw [he]⟩) ⟨by rw [List.length_set]; exact k1,k2,k3,.inr ⟨g,off,_,rfl,by simp only [World.setRow,Array.getElem?_modify,if_true,hg,Option.map_some]; rfl,by rw [Array.size_setIfInBounds]; exact hcs,fun i u hu=>?_⟩⟩ (fun b hb=>⟨.inl hb,Nat.lt_of_lt_of_le (H.lt hk hb) (by simp [World.setRow])⟩)))
   rw [List.getElem?_set] at hu
   rw [Array.getElem?_setIfInBounds]
   by_cases hi:j=i
   · subst hi
     rw [if_pos rfl] at hu
     rw [if_pos rfl,if_pos (by omega)]
     split at hu
     · exact hu
     · cases hu
   · rw [if_neg hi] at hu
     rw [if_neg (by omega)]
     exact hc i u hu
end
def lk1 (k:Nat):List (Nat × Nat)→Option Nat
 | []=>none
 | (a,b) :: r=>bif Nat.beq a k then some b else lk1 k r
def lk2 (k i:Nat):List (Nat × Nat × Nat)→Option Nat
 | []=>none
 | (a,b,c) :: r=>bif Nat.beq a k && Nat.beq b i then some c else lk2 k i r
def unL:List (Nat × Nat):=[(3,0),(4,0),(5,0),(9,0),(24,0),(26,0),(30,0),(35,0),(38,0),(59,0),(79,0),(80,0),(83,0),(86,0),(94,0),(95,0),(113,0),(174,0),(177,0),(184,0)]
def szL:List (Nat × Nat):=[(3,1),(4,1),(5,1),(9,1),(23,5),(24,1),(26,1),(30,1),(35,1),(38,1),(40,2),(44,3),(55,13),(59,1),(79,1),(80,1),(82,1),(83,1),(85,9),(86,1),(88,6),(94,1),(95,1),(97,10),(100,2),(103,2),(110,4),(113,1),(125,6),(137,2),(150,4),(174,1),(177,1),(179,8),(184,1),(221,4),(223,4),(226,5),(237,20),(239,32),(240,64)]
def foL:List (Nat × Nat × Nat):=[(23,0,0),(23,1,1),(23,2,2),(23,3,3),(23,4,4),(40,0,0),(40,1,1),(44,0,0),(44,1,1),(55,0,0),(55,1,1),(55,2,2),(55,3,3),(55,4,4),(55,5,5),(55,6,6),(55,7,7),(55,8,8),(55,9,10),(82,0,0),(85,0,0),(85,1,1),(85,2,2),(85,3,3),(85,4,4),(85,5,5),(85,6,6),(85,7,7),(85,8,8),(88,0,0),(88,1,1),(88,2,2),(88,3,3),(88,4,4),(88,5,5),(97,0,0),(97,1,1),(97,2,2),(97,3,3),(97,4,4),(97,5,5),(97,6,6),(97,7,7),(97,8,8),(97,9,9),(103,0,0),(103,1,1),(125,0,0),(125,1,1),(125,2,2),(125,3,3),(125,4,4),(125,5,5),(137,1,1),(150,0,0),(150,1,1),(223,0,0),(226,0,0),(226,1,4)]
def slL:List (Nat × Nat):=[(24,40),(35,44),(38,4),(45,110),(53,55),(59,3),(94,150),(95,125),(113,5),(190,137),(192,59),(203,9)]
def isS (o:Option TypeDesc) (n:Nat):Bool:=match o with
 | some (.slice e)=>Nat.beq e n
 | _=>false
def isO (o:Option Nat) (n:Nat):Bool:=match o with
 | some m=>Nat.beq m n
 | none=>false
theorem isO_eq {o:Option Nat} {n:Nat} (h:isO o n=true):o=some n:=by
 cases o with
 | none=>exact absurd h (by simp [isO])
 | some m=>exact congrArg some (Nat.eq_of_beq_eq_true h)
theorem lk1_of {k n:Nat} {Q:Nat→Nat→Bool}:∀ {l:List (Nat × Nat)},l.all (fun e=>Q e.1 e.2)=true→lk1 k l=some n→Q k n=true
 | [],_,h=>absurd h (by simp [lk1])
 | (a,b) :: r,h,hk=>by
   rw [List.all_cons,Bool.and_eq_true] at h
   unfold lk1 at hk
   cases e:Nat.beq a k with
   | false=>rw [e] at hk; exact lk1_of h.2 hk
   | true =>
     rw [e] at hk
     cases hk
     have:=Nat.eq_of_beq_eq_true e
     subst this
     exact h.1
theorem lk2_of {k i n:Nat} {Q:Nat→Nat→Nat→Bool}:∀ {l:List (Nat × Nat × Nat)},l.all (fun e=>Q e.1 e.2.1 e.2.2)=true→lk2 k i l=some n→Q k i n=true
 | [],_,h=>absurd h (by simp [lk2])
 | (a,b,c) :: r,h,hk=>by
   rw [List.all_cons,Bool.and_eq_true] at h
   unfold lk2 at hk
   cases e:(Nat.beq a k && Nat.beq b i) with
   | false=>rw [e] at hk; exact lk2_of h.2 hk
   | true =>
     rw [e] at hk
     cases hk
     rw [Bool.and_eq_true] at e
     have h1:=Nat.eq_of_beq_eq_true e.1
     have h2:=Nat.eq_of_beq_eq_true e.2
     subst h1 h2
     exact h.1
theorem unB_all:unL.all (fun e=>(Tryz.prog.underlying e.1).elim false fun d=>!(aggB d))=true:=by kernel_rfl
theorem szB_all:szL.all (fun e=>isO (szO Tryz.prog e.1) e.2)=true:=by kernel_rfl
theorem foB_all:foL.all (fun e=>isO (foO Tryz.prog e.1 e.2.1) e.2.2)=true:=by kernel_rfl
theorem unT {t:Nat} (h:lk1 t unL=some 0):∃ d,Tryz.prog.underlying t=some d∧aggB d=false:=by
 have h1:((Tryz.prog.underlying t).elim false fun d=>!(aggB d))=true:=lk1_of (Q:=fun a _=>(Tryz.prog.underlying a).elim false fun d=>!(aggB d)) unB_all h
 cases e:Tryz.prog.underlying t with
 | none=>rw [e] at h1; cases h1
 | some d=>rw [e] at h1; exact ⟨d,rfl,by simpa using h1⟩
theorem szT {t n:Nat} (h:lk1 t szL=some n):szO Tryz.prog t=some n:=isO_eq (lk1_of (Q:=fun a b=>isO (szO Tryz.prog a) b) szB_all h)
theorem foT {s i n:Nat} (h:lk2 s i foL=some n):foO Tryz.prog s i=some n:=isO_eq (lk2_of (Q:=fun a b c=>isO (foO Tryz.prog a b) c) foB_all h)
theorem slB_all:slL.all (fun e=>isS (Tryz.prog.underlying e.1) e.2)=true:=by kernel_rfl
theorem isS_eq {o:Option TypeDesc} {n:Nat} (h:isS o n=true):o=some (.slice n):=by
 unfold isS at h
 split at h
 · exact congrArg (fun e=>some (TypeDesc.slice e)) (Nat.eq_of_beq_eq_true h)
 · cases h
theorem slT {t e:Nat} (h:lk1 t slL=some e):Tryz.prog.underlying t=some (.slice e):=isS_eq (lk1_of (Q:=fun a b=>isS (Tryz.prog.underlying a) b) slB_all h)
end Go.Proofs.YthmmfhdpkddniaaGreatDoor
namespace Go.Proofs.YthmmfhdpkddniaaGreatDoor
open Go.RowKit
def mixT (h b:Nat):Nat:=(h ^^^ b) * 1099511628211 % 18446744073709551616 ^^^ ((h ^^^ b) * 1099511628211 % 18446744073709551616) / 536870912
def endT (h n:Nat):Nat:=((h ^^^ n) * 1099511628211 % 18446744073709551616 ^^^ ((h ^^^ n) * 1099511628211 % 18446744073709551616) / 4294967296) * 1099511628211 % 18446744073709551616
def startT (k:Nat):Nat:=(14695981039346656037+k * 11400714819323198485 % 18446744073709551616) % 18446744073709551616
def laneP (s:ByteArray) (h:Nat):Nat→Nat
 | 0=>h
 | i+1=>mixT (laneP s h i) (bt' s i)
theorem u64_xor {a b:Nat} (ha:a<18446744073709551616) (hb:b<18446744073709551616):a ^^^ b<18446744073709551616:=Nat.xor_lt_two_pow (n:=64) ha hb
theorem mixT_lt (h b:Nat):mixT h b<18446744073709551616:=by
 have h1:(h ^^^ b) * 1099511628211 % 18446744073709551616<18446744073709551616:=Nat.mod_lt _ (by omega)
 have h2:(h ^^^ b) * 1099511628211 % 18446744073709551616 / 536870912≤(h ^^^ b) * 1099511628211 % 18446744073709551616:=Nat.div_le_self _ _
 exact u64_xor h1 (by omega)
theorem endT_lt (h n:Nat):endT h n<18446744073709551616:=Nat.mod_lt _ (by omega)
theorem laneP_lt {s:ByteArray} {h:Nat} (hh:h<18446744073709551616):∀ i,laneP s h i<18446744073709551616
 | 0=>hh
 | i+1=>mixT_lt _ _
def nbL (b:List Nat):List Value:=b.map (fun (x:Nat)=>Value.int .u8 (x:Int))
def nbV (b:List Nat):Array Value:=(nbL b).toArray
theorem nbL_app (a b:List Nat):nbL (a++b)=nbL a++nbL b:=by unfold nbL; simp
theorem nbL_one (b:List Nat):(nbL b).all (·.oneCell')=true:=by
 unfold nbL; rw [List.all_eq_true]; intro v hv
 obtain ⟨x,_,rfl⟩:=List.mem_map.1 hv; rfl
theorem nbV_at {b:List Nat} {i:Nat} (h:i<b.length):(nbV b)[i]?=some (.int .u8 ((b.getD i 0:Nat):Int)):=by
 unfold nbV nbL
 simp [List.getD,h]
theorem nbV_set (b:List Nat) (i x:Nat):(nbV b).setIfInBounds i (.int .u8 (x:Int))=nbV (b.set i x):=by
 unfold nbV nbL
 apply Array.ext'
 simp [List.map_set]
theorem nbV_size (b:List Nat):(nbV b).size=b.length:=by unfold nbV nbL; simp
theorem nbV_zero (n:Nat):Array.replicate n (Value.int .u8 0)=nbV (List.replicate n 0):=by
 unfold nbV nbL
 apply Array.ext'
 simp
def nbS (b:List Nat):ByteArray:=⟨(b.map UInt8.ofNat).toArray⟩
theorem nbS_size (b:List Nat):(nbS b).size=b.length:=by show ((b.map UInt8.ofNat).toArray).size=_; simp
theorem nbL_bytes {b:List Nat} (h:∀ x∈b,x<256):nbL b=bytesV (b.map UInt8.ofNat):=by
 unfold nbL bytesV
 rw [List.map_map]
 refine List.map_congr_left fun x hx=>?_
 have:=h x hx
 simp only [Function.comp]
 congr 1
 rw [UInt8.toNat_ofNat']
 omega
def eightTo (n i:Nat):List Nat:=(List.range i).map (fun j=>n / 2 ^ (56 - 8 * j) % 256)
def eightT (n:Nat):List Nat:=eightTo n 8
theorem eightTo_len (n i:Nat):(eightTo n i).length=i:=by unfold eightTo; simp
theorem eightTo_next (n i:Nat):eightTo n (i+1)=eightTo n i++[n / 2 ^ (56 - 8 * i) % 256]:=by unfold eightTo; rw [List.range_succ,List.map_append]; rfl
theorem eightTo_lt (n i:Nat):∀ x∈eightTo n i,x<256:=fun x hx=>by
 unfold eightTo at hx
 obtain ⟨j,_,rfl⟩:=List.mem_map.1 hx
 exact Nat.mod_lt _ (by omega)
def sumTo (l:List Nat) (n k:Nat):List Nat:=(l.take k).flatMap (fun h=>eightT (endT h n))
theorem sumTo_len (l:List Nat) (n:Nat):∀ k,k≤l.length→(sumTo l n k).length=8 * k:=fun k hk=>by
 unfold sumTo
 have:∀ q:List Nat,(q.flatMap (fun h=>eightT (endT h n))).length=8 * q.length:=fun q=>by
   induction q with
   | nil=>rfl
   | cons a q ih=>rw [List.flatMap_cons,List.length_append,ih,List.length_cons]; unfold eightT; rw [eightTo_len]; omega
 rw [this,List.length_take]; omega
theorem sumTo_next {l:List Nat} {n k:Nat} (hk:k<l.length):sumTo l n (k+1)=sumTo l n k++eightT (endT (l.getD k 0) n):=by
 unfold sumTo
 rw [List.take_succ_eq_append_getElem hk,List.flatMap_append,List.getD_eq_getElem?_getD,List.getElem?_eq_getElem hk]
 simp
theorem sumTo_lt (l:List Nat) (n k:Nat):∀ x∈sumTo l n k,x<256:=fun x hx=>by
 unfold sumTo at hx
 obtain ⟨h,_,hx⟩:=List.mem_flatMap.1 hx
 exact eightTo_lt _ _ x hx
def lanesT (s:ByteArray):List Nat:=[laneP s (startT 0) s.size,laneP s (startT 1) s.size,laneP s (startT 2) s.size,laneP s (startT 3) s.size]
def sumS (s:ByteArray):ByteArray:=nbS (sumTo (lanesT s) s.size 4)
theorem sumS_size (s:ByteArray):(sumS s).size=32:=by unfold sumS; rw [nbS_size,sumTo_len _ _ 4 (by simp [lanesT])]
def pairS (a b:ByteArray):ByteArray:=sumS (a++b)
def zeroB:ByteArray:=nbS (List.replicate 32 0)
def uV (l:List Nat):List Value:=l.map (fun (x:Nat)=>Value.int .u64 (x:Int))
def hashV (l:List Nat) (n:Nat):Array Value:=(uV l++[Value.int .i64 (n:Int)]).toArray
def lanV (l:List Nat):Array Value:=(uV l).toArray
def takeTo (k b:Nat) (l:List Nat):List Nat:=(l.take k).map (mixT · b)++l.drop k
theorem uV_len (l:List Nat):(uV l).length=l.length:=by unfold uV; simp
theorem uV_at {l:List Nat} {i:Nat} (h:i<l.length):(uV l)[i]?=some (.int .u64 ((l.getD i 0:Nat):Int)):=by
 unfold uV; simp [List.getD,h]
theorem lanV_at {l:List Nat} {i:Nat} (h:i<l.length):(lanV l)[i]?=some (.int .u64 ((l.getD i 0:Nat):Int)):=by
 unfold lanV; rw [List.getElem?_toArray]; exact uV_at h
theorem hashV_ext {l:List Nat} {n:Nat} (hl:l.length=4):(hashV l n).extract 0 (0+4)=lanV l:=by
 unfold hashV lanV
 apply Array.ext'
 have:=uV_len l
 simp [List.take_append_of_le_length,this,hl]
theorem hashV_at {l:List Nat} {n:Nat} (hl:l.length=4):(hashV l n)[4]?=some (.int .i64 (n:Int)):=by
 unfold hashV
 rw [List.getElem?_toArray,List.getElem?_append_right (by rw [uV_len]; omega),uV_len,hl]; rfl
theorem hashV_size (l:List Nat) (n:Nat):(hashV l n).size=l.length+1:=by unfold hashV; simp [uV_len]
theorem hashV_set {l:List Nat} {n i x:Nat} (h:i<l.length):(hashV l n).setIfInBounds i (.int .u64 (x:Int))=hashV (l.set i x) n:=by
 unfold hashV uV
 apply Array.ext'
 simp only [List.setIfInBounds_toArray]
 rw [List.set_append_left _ _ (by simpa using h),List.map_set]
theorem hashV_setN {l:List Nat} {n m:Nat} (hl:l.length=4):(hashV l n).setIfInBounds 4 (.int .i64 (m:Int))=hashV l m:=by
 unfold hashV
 apply Array.ext'
 simp only [List.setIfInBounds_toArray]
 rw [List.set_append_right _ _ (by rw [uV_len]; omega),uV_len,hl]; rfl
theorem lanV_size (l:List Nat):(lanV l).size=l.length:=by unfold lanV; simp [uV_len]
theorem lanV_set {l:List Nat} {i x:Nat} (h:i<l.length):(lanV l).setIfInBounds i (.int .u64 (x:Int))=lanV (l.set i x):=by
 unfold lanV uV
 apply Array.ext'
 simp [List.map_set]
theorem takeTo_len (k b:Nat) (l:List Nat):(takeTo k b l).length=l.length:=by unfold takeTo; simp; omega
theorem takeTo_zero (b:Nat) (l:List Nat):takeTo 0 b l=l:=by unfold takeTo; simp
theorem takeTo_all (b:Nat) (l:List Nat):takeTo l.length b l=l.map (mixT · b):=by unfold takeTo; simp
theorem takeTo_next {k b:Nat} {l:List Nat} (h:k<l.length):(takeTo k b l).set k (mixT (l.getD k 0) b)=takeTo (k+1) b l:=by
 unfold takeTo
 have e1:((l.take k).map (mixT · b)).length=k:=by simp; omega
 have hx:l.drop k=l.getD k 0 :: l.drop (k+1):=by
   rw [List.getD_eq_getElem?_getD,List.getElem?_eq_getElem h,Option.getD_some]
   exact List.drop_eq_getElem_cons h
 rw [List.set_append_right _ _ (by omega),e1,Nat.sub_self,hx,List.set_cons_zero,List.take_succ_eq_append_getElem h]
 simp only [List.map_append,List.map_cons,List.map_nil,List.append_assoc,List.cons_append,List.nil_append]
 rw [List.getD_eq_getElem?_getD,List.getElem?_eq_getElem h,Option.getD_some]
end Go.Proofs.YthmmfhdpkddniaaGreatDoor
