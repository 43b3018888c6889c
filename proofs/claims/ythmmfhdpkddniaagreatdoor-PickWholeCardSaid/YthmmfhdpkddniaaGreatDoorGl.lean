import Derived.Test.YthmmfhdpkddniaaGreatDoorH0
import Derived.Test.YthmmfhdpkddniaaGreatDoorSo
import Derived.LaidEqlPtr
set_option linter.unusedSimpArgs false
set_option linter.unusedVariables false
namespace Go.Proofs.YthmmfhdpkddniaaGreatDoor
open Go.RowKit
theorem S.rwSome {w:World} {L:List Item} {k e size n c:Nat} {p:Option Addr} {xs:List Value} (h:S w L) (hk:L[k]?=some (Rw e size p n c xs)) (hn:0<n):∃ a,p=some a:=by
 obtain ⟨a,h1,_⟩:=(h.rwReads hk).2.2 hn
 exact ⟨a,h1⟩
def mV {β:Type} (ev:β→Value) (l:List β):List Value:=l.flatMap fun x=>(ev x).cells.toList
theorem mV_app {β:Type} (ev:β→Value) (a b:List β):mV ev (a++b)=mV ev a++mV ev b:=by unfold mV; rw [List.flatMap_append]
theorem mV_cons {β:Type} (ev:β→Value) (a:β) (b:List β):mV ev (a :: b)=(ev a).cells.toList++mV ev b:=by unfold mV; rw [List.flatMap_cons]
theorem mV_take {β:Type} {ev:β→Value} {size:Nat} (hs:∀ x,(ev x).cells.size=size):∀ (l:List β) (i:Nat),(mV ev l).take (i * size)=mV ev (l.take i)
 | l,0=>by simp [mV]
 | [],i+1=>by simp [mV]
 | a :: l,i+1=>by
   rw [List.take_succ_cons,mV_cons,mV_cons,show (i+1) * size=(ev a).cells.toList.length+i * size from by rw [Array.length_toList,hs,Nat.succ_mul]; omega,List.take_length_add_append,mV_take hs l i]
theorem mV_drop {β:Type} {ev:β→Value} {size:Nat} (hs:∀ x,(ev x).cells.size=size):∀ (l:List β) (i:Nat),(mV ev l).drop (i * size)=mV ev (l.drop i)
 | l,0=>by simp
 | [],i+1=>by simp [mV]
 | a :: l,i+1=>by
   rw [List.drop_succ_cons,mV_cons,show (i+1) * size=(ev a).cells.toList.length+i * size from by rw [Array.length_toList,hs,Nat.succ_mul]; omega,List.drop_length_add_append,mV_drop hs l i]
theorem mV_set {β:Type} {ev:β→Value} {size:Nat} (hs:∀ x,(ev x).cells.size=size) {l:List β} {i:Nat} (y:β) (h:i<l.length):(mV ev l).take (i * size)++(ev y).cells.toList++(mV ev l).drop (i * size+size)=mV ev (l.set i y):=by
 rw [show i * size+size=(i+1) * size from by rw [Nat.succ_mul],mV_take hs,mV_drop hs,List.set_eq_take_append_cons_drop,if_pos h,mV_app,mV_cons,List.append_assoc]
theorem mV_atR {β:Type} {ev:β→Value} {size:Nat} (hs:∀ x,(ev x).cells.size=size) {l:List β} {j:Nat} {d:β} (h:j<l.length):∀ i u,((ev (l.getD j d)).cells.toList)[i]?=some u→(mV ev l)[j * size+i]?=some u:=by
 intro i u hu
 have h1:l[j]?=some (l.getD j d):=by rw [List.getD_eq_getElem?_getD,List.getElem?_eq_getElem h]; rfl
 exact flat_at (f:=fun x=>(ev x).cells.toList) (size:=size) (fun a _=>by rw [Array.length_toList]; exact hs a) h1 i u hu
structure Cmps (P:Program) (g:Nat) (fi ca:Array Value) (X:Item) {β:Type} (ev:β→Value) (c:β→β→Int) (l:List β):Prop where
 ok:callable P g=true
 does:∀ x∈l,∀ y∈l,∀ w,S w [X]→Calls P g (fi.toList++[ev x,ev y]++ca.toList).toArray w fun e w'=>e=.returned (.int .i64 (c x y))∧S w' ([X]++[Old w (fps [X])])
theorem insIn_go {β:Type} {d:β} {c:β→β→Int} {a j:Nat} {l:List β} (h:a<j) (hc:c (l.getD j d) (l.getD (j - 1) d)<0):insIn d c a j l=insIn d c a (j - 1) (swp d l j (j - 1)):=by
 obtain ⟨k,rfl⟩:∃ k,j=k+1:=⟨j - 1,by omega⟩
 rw [show k+1 - 1=k from rfl] at hc ⊢
 conv=>lhs; unfold insIn
 rw [if_pos ⟨h,hc⟩]
theorem insIn_stop {β:Type} {d:β} {c:β→β→Int} {a j:Nat} {l:List β} (h:¬ c (l.getD j d) (l.getD (j - 1) d)<0):insIn d c a j l=l:=by
 cases j with
 | zero=>rfl
 | succ k=>unfold insIn; rw [if_neg (fun q=>h q.2)]
theorem insIn_end {β:Type} {d:β} {c:β→β→Int} {a j:Nat} {l:List β} (h:¬ a<j):insIn d c a j l=l:=by
 cases j with
 | zero=>rfl
 | succ k=>unfold insIn; rw [if_neg (fun q=>h q.1)]
theorem insOut_go {β:Type} {d:β} {c:β→β→Int} {a b i:Nat} {l:List β} (h:i<b):insOut d c a (b - i) i l=insOut d c a (b - (i+1)) (i+1) (insIn d c a i l):=by
 rw [show b - i=(b - (i+1))+1 from by omega]; rfl
theorem insOut_end {β:Type} {d:β} {c:β→β→Int} {a b i:Nat} {l:List β} (h:¬ i<b):insOut d c a (b - i) i l=l:=by
 rw [show b - i=0 from by omega]; rfl
theorem swr_go {β:Type} {d:β} {a b n i:Nat} {l:List β} (h:i<n):swr d a b (n - i) i l=swr d a b (n - (i+1)) (i+1) (swp d l (a+i) (b+i)):=by
 rw [show n - i=(n - (i+1))+1 from by omega]; rfl
theorem swr_end {β:Type} {d:β} {a b n i:Nat} {l:List β} (h:¬ i<n):swr d a b (n - i) i l=l:=by
 rw [show n - i=0 from by omega]; rfl
theorem bsS_t {P:Nat→Bool} {n i j:Nat} (h:i<j) (hn:j - i≤n) (hp:P ((i+j) / 2)=true):bsS P n i j=bsS P (n - 1) ((i+j) / 2+1) j:=by
 obtain ⟨k,rfl⟩:∃ k,n=k+1:=⟨n - 1,by omega⟩
 conv=>lhs; unfold bsS
 rw [if_pos h,if_pos hp]; rfl
theorem bsS_f {P:Nat→Bool} {n i j:Nat} (h:i<j) (hn:j - i≤n) (hp:P ((i+j) / 2)=false):bsS P n i j=bsS P (n - 1) i ((i+j) / 2):=by
 obtain ⟨k,rfl⟩:∃ k,n=k+1:=⟨n - 1,by omega⟩
 conv=>lhs; unfold bsS
 rw [if_pos h,if_neg (by rw [hp]; exact Bool.false_ne_true)]; rfl
theorem shR_go {β:Type} {d:β} {k e:Nat} {l:List β} (h:k<e):shR d (e - k) k l=shR d (e - (k+1)) (k+1) (swp d l k (k+1)):=by
 rw [show e - k=(e - (k+1))+1 from by omega]; rfl
theorem shR_end {β:Type} {d:β} {k e:Nat} {l:List β} (h:¬ k<e):shR d (e - k) k l=l:=by
 rw [show e - k=0 from by omega]; rfl
theorem shL_go {β:Type} {d:β} {k e:Nat} {l:List β} (h:e<k):shL d (k - e) k l=shL d (k - 1 - e) (k - 1) (swp d l k (k - 1)):=by
 rw [show k - e=(k - 1 - e)+1 from by omega]; rfl
theorem shL_end {β:Type} {d:β} {k e:Nat} {l:List β} (h:¬ e<k):shL d (k - e) k l=l:=by
 rw [show k - e=0 from by omega]; rfl
def IterW {α:Type} (n:Nat) (P:Program) (g:Nat) (lb:Array Value) (encs:α→Array Value) (base:Item) (Φ:List α→α→Item→Prop) (Ok:List α→World→Prop) (S' Sp:List α→Prop) (I0:Item):Prop:=
 ∀ (l:Nat) (J Jx:List α→Item→Prop) (W:World) (C:Item),(∀ pre C W,J pre C→C.ok W→Ok pre W) →
   (∀ pre x W1 I C,J pre C→Φ pre x I→S W1 [base,I,C]→YieldAt (WF none) (n - 1) P l (encs x) W1 fun e W' =>
     (e=.returned (.bool true)∧∃ C',J (pre++[x]) C'∧S W' [base,I,C'])∨(e=.returned (.bool false)∧∃ C',Jx (pre++[x]) C'∧S W' [base,I,C'])) →
   J [] C→S W [base,I0,C] →
   CallsIn (WF none) n P g (#[.func (.yield l) #[] #[]]++lb) W fun e W'=>(∃ v,e=.returned v)∧((∃ xs C,S' xs∧J xs C∧S W' [base,C])∨(∃ pre C,Sp pre∧Jx pre C∧S W' [base,C]))
def AssignW {ι:Type} (N:Nat) (FA:ι→Fr) (LA:ι→List Item) (L:List Item) (a:Act) (w:World):Prop:=∃ i,Rds N a (FA i) []∧S w (LA i++L)
section
variable {P:Program} {N:Nat} {Q:Exit→Act→World→Prop} {f:Fr} {ds:List Deferred} {w:World} {n:Nat} {ops:Array Oper} {rest:List Oper} {o:Oper} {L:List Item}
theorem rw_assign {ι:Type} {FA:ι→Fr} {LA:ι→List Item} (i:ι) (hs:sub (FA i) f) (H:S w (LA i++L)):G N (AssignW N FA LA L) f [] w:=fun a ha=>⟨i,ha.weak hs,H⟩
end
def upd {α:Type} (tk:Nat→α) (x:Nat) (a:α):Nat→α:=fun y=>if y=x then a else tk y
def Fam {α:Type} (e:TypeId) (enc:α→Array Value) (gs:List Nat) (tk:Nat→α):Item:=
 ⟨fun g=>g∈gs,fun w=>gs.Nodup∧∀ x∈gs,w.heap[x]?=some (.cells (enc (tk x)) e (0,0)),fun h k=>⟨k.1,fun x hx=>(h.block x hx).trans (k.2 x hx)⟩⟩
section
variable {P:Program} {N:Nat} {Q:Exit→Act→World→Prop} {f:Fr} {ds:List Deferred} {w w':World} {o:Oper} {ops:Array Oper} {L:List Item} {K:Act→World→Prop}
variable {α:Type} {e:TypeId} {enc:α→Array Value} {gs:List Nat} {tk:Nat→α}
theorem perm_erase {β:Type}:∀ {l:List β} {j:Nat} {r:β},l[j]?=some r→l.Perm (r :: l.eraseIdx j)
 | [],j,r,h=>by cases h
 | a :: l,0,r,h=>by cases h; exact .refl _
 | a :: l,j+1,r,h=>by
   rw [List.getElem?_cons_succ] at h
   exact ((perm_erase h).cons a).trans (List.Perm.swap ..)
end
section
variable {P:Program} {N:Nat} {Q:Exit→Act→World→Prop} {f:Fr} {ds:List Deferred} {w w':World} {o:Oper} {ops:Array Oper} {L:List Item} {K:Act→World→Prop}
abbrev okT:ByteArray→Prop:=fun s=>s.size≤1048576
def KN {κ α:Type} (ok:κ→Prop) (M:κ→Option α) (n:Nat):Prop:=∃ kv:List (κ × α),(kv.map Prod.fst).Nodup∧(∀ p:κ × α,p∈kv ↔ (ok p.1∧M p.1=some p.2))∧n=kv.length
theorem s_lenMap {κ α:Type} {ek:κ→Value} {va:α→Value} {ok:κ→Prop} {M:κ→Option α} {t k e:TypeId} {d g:Nat} {x:Operand} (H:S w L) (k0:Nat) (hw:Wt ops f o) (hd:o.dst=some d) (hN:Nat.blt d N=true)
   (hk:L[k0]?=some (Mp ek va ok g M)) (ho:o.op=.call { callee:=.builtin .len,args:=#[x],argTypes:=#[t] }) (hx:evo f x=some (.map (some g))) (hu:P.underlying t=some (.map k e))
   (h:∀ n:Nat,KN ok M n→G N K ((d,.int .i64 (n:Int)) :: f) ds w):G N (StepK P ops Q o K) f ds w:=by
 obtain ⟨es,c,kv,hb,hkv⟩:=H.mp hk
 have hl:=hkv.len
 refine s_val hw hd hN (x_builtin (vs:=[.map (some g)]) (v:=.int .i64 (es.size:Int)) (w':=w) ho (by simp only [evs,hx]) (fun cs=>by simp [builtin,Builtin.len_,run_underlying hu,goInt,Go.MapKept.run_getObj_map hb,Result.andThen])) (h es.size ⟨kv,hkv.nodup,hkv.is,hl⟩)
theorem KN_eq {κ α β:Type} {ok:κ→Prop} {M1:κ→Option α} {M2:κ→Option β} {n1 n2:Nat} (h1:KN ok M1 n1) (h2:KN ok M2 n2) (h:∀ s,ok s→((M1 s).isSome=true ↔ (M2 s).isSome=true)):n1=n2:=by
 obtain ⟨kv1,a1,b1,rfl⟩:=h1
 obtain ⟨kv2,a2,b2,rfl⟩:=h2
 have hp:(kv1.map Prod.fst).Perm (kv2.map Prod.fst):=by
   rw [List.perm_ext_iff_of_nodup a1 a2]
   intro s
   have key:∀ {γ:Type} {M:κ→Option γ} {kv:List (κ × γ)},(∀ p:κ × γ,p∈kv ↔ (ok p.1∧M p.1=some p.2))→(s∈kv.map Prod.fst ↔ ok s∧(M s).isSome=true):=fun {γ M kv} hb=>by
     constructor
     · intro hs
       obtain ⟨p,hp,rfl⟩:=List.mem_map.1 hs
       obtain ⟨q1,q2⟩:=(hb p).1 hp
       exact ⟨q1,by rw [q2]; rfl⟩
     · rintro ⟨q1,q2⟩
       obtain ⟨b,hb2⟩:=Option.isSome_iff_exists.1 q2
       exact List.mem_map.2 ⟨(s,b),(hb (s,b)).2 ⟨q1,hb2⟩,rfl⟩
   rw [key b1,key b2]
   exact ⟨fun q=>⟨q.1,(h s q.1).1 q.2⟩,fun q=>⟨q.1,(h s q.1).2 q.2⟩⟩
 have:=hp.length_eq
 simpa using this
end
section
variable {P:Program} {N:Nat} {Q:Exit→Act→World→Prop} {f:Fr} {ds:List Deferred} {w w':World} {o:Oper} {ops:Array Oper} {L:List Item} {K:Act→World→Prop}
variable {κ α:Type} {ek:κ→Value} {va:α→Value} {ok:κ→Prop} {M:κ→Option α}
theorem s_rangeN {t k e d:TypeId} {y:Operand} {g:Nat} (T:MapTy P t k e ek ok) (H:S w L) (k0:Nat) (hw:Wt ops f o) (hd:o.dst=some d) (hN:Nat.blt d N=true) (hk:L[k0]?=some (Mp ek va ok g M)) (ho:o.op=.range t y) (hy:evo f y=some (.map (some g)))
   (h:∀ r rem w',(rem.map Prod.fst).Nodup→(∀ p,p∈rem ↔ ok p.1∧M p.1=some p.2)→S w' (L.set k0 (MpR ek va ok g r M rem none))→G N K ((d,.pointer (some ⟨r,0,none⟩)) :: f) ds w'):G N (StepK P ops Q o K) f ds w:=by
 obtain ⟨es,c,kv,hb,hkv⟩:=H.mp hk
 have hgl:g<w.heap.size:=(Array.getElem?_eq_some_iff.1 hb).1
 have hrun:(Instr.range t (.map (some g))).run P w=.ok (.pointer (some ⟨w.heap.size,0,none⟩)) (w.alloc (.mapIter (some g) c #[] c)):=by
   simp [Instr.range,run_underlying T.ht,MapKept.run_getObj_map hb,newObj,Sem.run,Result.andThen]
 have hs:Same (fun j=>j<w.heap.size) w (w.alloc (.mapIter (some g) c #[] c)):=⟨rfl,rfl,rfl,by simp,fun j hj=>Below.heap_alloc _ _ _ hj,Nat.le_refl _⟩
 have hrem:remOf es kv #[]=kv:=by
   unfold remOf zipOf
   rw [List.filter_eq_self.2 (fun z _=>by simp)]
   exact List.map_snd_zip (by have:=hkv.len; simp; omega)
 refine s_val hw hd hN (ex_of (x:=Instr.range t (.map (some g))) (fun a ha=>by unfold execOp; simp only [ho,ha.eval hy]) hrun) (h _ kv _ hkv.nodup hkv.is ?_)
 refine H.turn hk (hs.less fun j hj=>hj.1) ⟨by omega,es,c,kv,#[],c,c,?_,hkv,heap_alloc_new w _,hkv.old,⟨Nat.le_refl _,Nat.le_refl _⟩,hrem.symm,fun h=>Bool.noConfusion h,trivial⟩ (fun j hj=>?_)
 · rw [Below.heap_alloc _ _ _ hgl]; exact hb
 · rcases hj with rfl | rfl
   · exact ⟨.inl rfl,by simp; omega⟩
   · exact ⟨.inr (Nat.le_refl _),by simp⟩
def FamM (ek:κ→Value) (va:α→Value) (ok:κ→Prop) (ms:List Nat) (ct:Nat→κ→Option α):Item:=Big (ms.map fun x=>Mp ek va ok x (ct x))
variable {ms:List Nat} {ct:Nat→κ→Option α}
end
section
variable {P:Program} {N:Nat} {Q:Exit→Act→World→Prop} {f:Fr} {ds:List Deferred} {w w':World} {o:Oper} {ops:Array Oper} {L:List Item} {K:Act→World→Prop}
end
structure Enc {α:Type} (size:Nat) (enc:α→List Value):Prop where
 pos:0<size
 len:∀ x,(enc x).length=size
 one:∀ x,(enc x).all (·.oneCell')=true
def fl {α:Type} (enc:α→List Value) (l:List α):List Value:=l.flatMap enc
section
variable {α:Type} {enc:α→List Value} {size:Nat}
theorem fl_app (enc:α→List Value) (a b:List α):fl enc (a++b)=fl enc a++fl enc b:=List.flatMap_append ..
theorem Enc.flLen (E:Enc size enc) (l:List α):(fl enc l).length=l.length * size:=flat_length fun x _=>E.len x
theorem Enc.flAt (E:Enc size enc) {l:List α} {j:Nat} {x:α} (h:l[j]?=some x):∀ i u,(enc x)[i]?=some u→(fl enc l)[j * size+i]?=some u:=flat_at (fun x _=>E.len x) h
theorem Enc.flAt1 (E:Enc 1 enc) {l:List α} {j:Nat} {x:α} {v:Value} (h:l[j]?=some x) (hv:enc x=[v]):(fl enc l)[j * 1]?=some v:=by
 have:=E.flAt h 0 v (by rw [hv]; rfl)
 simpa using this
theorem Enc.flOne (E:Enc size enc) (l:List α):(fl enc l).all (·.oneCell')=true:=by
 rw [List.all_eq_true]; intro v hv
 obtain ⟨x,_,h⟩:=List.mem_flatMap.1 hv
 exact List.all_eq_true.1 (E.one x) v h
theorem Enc.flTake (E:Enc size enc):∀ (l:List α) (k:Nat),(fl enc l).take (k * size)=fl enc (l.take k)
 | l,0=>by simp [fl]
 | [],k+1=>by simp [fl]
 | a :: l,k+1=>by
   show (enc a++fl enc l).take ((k+1) * size)=enc a++fl enc (l.take k)
   rw [show (k+1) * size=(enc a).length+k * size by rw [E.len,Nat.succ_mul]; omega,List.take_length_add_append,E.flTake l k]
theorem Enc.flDrop (E:Enc size enc):∀ (l:List α) (k:Nat),(fl enc l).drop (k * size)=fl enc (l.drop k)
 | l,0=>by simp [fl]
 | [],k+1=>by simp [fl]
 | a :: l,k+1=>by
   show (enc a++fl enc l).drop ((k+1) * size)=fl enc (l.drop k)
   rw [show (k+1) * size=(enc a).length+k * size by rw [E.len,Nat.succ_mul]; omega,List.drop_length_add_append,E.flDrop l k]
theorem Enc.flSet (E:Enc size enc) {l:List α} {i:Nat} (y:α) (h:i<l.length):(fl enc l).take (i * size)++enc y++(fl enc l).drop (i * size+size)=fl enc (l.set i y):=by
 rw [show i * size+size=(i+1) * size by rw [Nat.succ_mul],E.flTake,E.flDrop,List.set_eq_take_append_cons_drop,if_pos h,fl_app,List.append_assoc]; rfl
theorem ex_at {l:List α} {j:Nat} (h:j<l.length):∃ x,l[j]?=some x:=⟨_,List.getElem?_eq_getElem h⟩
variable {w:World} {p:Option Addr} {n c:Nat} {l:List α}
theorem Reads.lenL (hr:Reads w p n c size (fl enc l)) (E:Enc size enc):n=l.length:=by
 have h1:=hr.1
 rw [E.flLen] at h1
 exact (Nat.eq_of_mul_eq_mul_right E.pos h1).symm
theorem cutP0 (p:Option Addr) (c size:Nat):cutP p 0 c size=p:=by
 unfold cutP
 split
 · rfl
 · cases p with
   | none=>rfl
   | some a=>show some (a.add (0 * size))=some a; rw [Nat.zero_mul]; unfold Addr.add; rfl
theorem Reads.some (hr:Reads w p n c size (fl enc l)) (h:0<n):∃ a,p=some a:=by
 obtain ⟨a,ha,_⟩:=hr.2.2 h
 exact ⟨a,ha⟩
end
section
variable {P:Program} {N:Nat} {Q:Exit→Act→World→Prop} {f:Fr} {ds:List Deferred} {w w':World} {o:Oper} {ops:Array Oper} {L:List Item} {K:Act→World→Prop} {α:Type} {enc:α→List Value}
theorem S.nilFl (h:S w L) (e size:Nat) (enc:α→List Value):S w (Rw e size none 0 0 (fl enc []) :: L):=h.nilRw e size
theorem s_appL {d t e size bytes n m c sc:Nat} {s x:Operand} {z:Value} {p q:Option Addr} {l l2:List α} (E:Enc size enc) (H:S w L) (k:Nat) (hw:Wt ops f o) (hd:o.dst=some d) (hN:Nat.blt d N=true)
   (ho:o.op=.call { callee:=.builtin .append,args:=#[s,x],argTypes:=#[t,t] }) (hs:evo f s=some (.slice p n sc)) (hx:evo f x=some (.slice q m c)) (hk:L[k]?=some (Rw e size p n sc (fl enc l)))
   (ht:P.underlying t=some (.slice e)) (hi:infO P e=some (some z,size,bytes)) (hz:z.cells.size=size) (hb0:0<bytes) (hr:Reads w q m c size (fl enc l2)) (hb:(n+m) * bytes≤140737488355328)
   (h:∀ p' c' w',S w' (L.set k (Rw e size p' (n+m) c' (fl enc (l++l2))))→G N K ((d,.slice p' (n+m) c') :: f) ds w'):G N (StepK P ops Q o K) f ds w:=
 s_appendW H k hw hd hN ho hs hx hk ht hi hz E.pos hb0 hr (E.flOne l2) hb fun p' c' w' h9=>h p' c' w' (by rw [fl_app]; exact h9)
theorem s_stoL {t e size n c j:Nat} {x y:Operand} {p:Option Addr} {l:List α} {v:Value} (E:Enc size enc) (b:α) (H:S w L) (k:Nat) (hw:Wt ops f o) (hd:o.dst=none) (ho:o.op=.store t x y) (hx:evo f x=some (.pointer (p.map fun q=>q.add (j * size))))
   (hy:evo f y=some v) (hk:L[k]?=some (Rw e size p n c (fl enc l))) (hv:v.cells.toList=enc b) (hn:szO P t=some size) (hj:j<n)
   (h:∀ w',S w' (L.set k (Rw e size p n c (fl enc (l.set j b))))→G N K f ds w'):G N (StepK P ops Q o K) f ds w:=by
 have hr:=H.rwReads hk
 have hl:=hr.lenL E
 have hs:v.cells.size=size:=by rw [← Array.length_toList,hv,E.len]
 exact s_storeW H k hw hd ho hx hy hk (by rw [hs]; exact hn) hs (by rw [hv]; exact E.one b) hj fun w' h9=>h w' (by rw [← E.flSet b (by omega),← hv]; exact h9)
theorem s_appLn {d t e size bytes n m c sc:Nat} {s x:Operand} {z:Value} {p q:Option Addr} {l l2:List α} (E:Enc size enc) (H:S w L) (k:Nat) (hw:Wt ops f o) (hd:o.dst=some d) (hN:Nat.blt d N=true)
   (ho:o.op=.call { callee:=.builtin .append,args:=#[s,x],argTypes:=#[t,t] }) (hs:evo f s=some (.slice p n sc)) (hx:evo f x=some (.slice q m c)) (hk:L[k]?=some (Rw e size p n sc (fl enc l)))
   (ht:P.underlying t=some (.slice e)) (hi:infO P e=some (some z,size,bytes)) (hz:z.cells.size=size) (hb0:0<bytes) (hr:Reads w q m c size (fl enc l2)) (hb:(n+m) * bytes≤140737488355328)
   (h:∀ p' c' w',S w' (L.set k (Rw e size p' (l++l2).length c' (fl enc (l++l2))))→G N K ((d,.slice p' (l++l2).length c') :: f) ds w'):G N (StepK P ops Q o K) f ds w:=
 s_appL E H k hw hd hN ho hs hx hk ht hi hz hb0 hr hb fun p' c' w' h9=>by
   have h1:=h p' c' w'
   rw [List.length_append,← (H.rwReads hk).lenL E,← hr.lenL E] at h1
   exact h1 h9
theorem s_appBn {d t e size bytes n m c sc g:Nat} {s x:Operand} {z:Value} {p:Option Addr} {l l2:List α} {cs:Array Value} (E:Enc size enc) (H:S w L) (k:Nat) {j0:Nat} (hj:L[j0]?=some (Ob g (.cells cs e (0,0)))) (hcs:cs.toList=fl enc l2) (hm:m=l2.length∧m≤c) (hw:Wt ops f o) (hd:o.dst=some d) (hN:Nat.blt d N=true)
   (ho:o.op=.call { callee:=.builtin .append,args:=#[s,x],argTypes:=#[t,t] }) (hs:evo f s=some (.slice p n sc)) (hx:evo f x=some (.slice (some ⟨g,0,none⟩) m c)) (hk:L[k]?=some (Rw e size p n sc (fl enc l)))
   (ht:P.underlying t=some (.slice e)) (hi:infO P e=some (some z,size,bytes)) (hz:z.cells.size=size) (hb0:0<bytes) (hb:(n+m) * bytes≤140737488355328)
   (h:∀ p' c' w',S w' (L.set k (Rw e size p' (l++l2).length c' (fl enc (l++l2))))→G N K ((d,.slice p' (l++l2).length c') :: f) ds w'):G N (StepK P ops Q o K) f ds w:=
 s_appLn E H k hw hd hN ho hs hx hk ht hi hz hb0 ⟨by rw [E.flLen,hm.1],hm.2,fun _=>⟨_,rfl,fun j u hu=>news_ob H hj j u (by rw [hcs]; exact hu)⟩⟩ hb h
theorem list_mod {β:Type} {l:List β} {j:Nat} {a b:β} (h:l[j]?=some a):l.set j b=l.take j++b :: l.drop (j+1):=by
 rw [List.set_eq_take_append_cons_drop,if_pos (List.getElem?_eq_some_iff.1 h).1]
theorem s_fldL {t e size n c j i:Nat} {x y:Operand} {p:Option Addr} {l:List α} {v:Value} {a:α} (E:Enc size enc) (b:α) (H:S w L) (k:Nat) (hw:Wt ops f o) (hd:o.dst=none) (ho:o.op=.store t x y) (hx:evo f x=some (.pointer (p.map fun q=>q.add (j * size+i))))
   (hy:evo f y=some v) (hk:L[k]?=some (Rw e size p n c (fl enc l))) (ha:l[j]?=some a) (hb:enc b=(enc a).set i v) (hi:i<size) (hn:szO P t=some 1) (hv:v.cells=#[v]) (h1:v.oneCell'=true)
   (h:∀ w',S w' (L.set k (Rw e size p n c (fl enc (l.set j b))))→G N K f ds w'):G N (StepK P ops Q o K) f ds w:=by
 have hr:=H.rwReads hk
 have hl:=hr.lenL E
 have hjl:=(List.getElem?_eq_some_iff.1 ha).1
 have hjs:j * size+size≤n * size:=by
   have:(j+1) * size≤n * size:=Nat.mul_le_mul_right _ (by omega)
   rw [Nat.add_mul,Nat.one_mul] at this; exact this
 refine s_storeWC H k hw hd ho hx hy hk hn hv h1 (by omega) fun w' h9=>h w' ?_
 have e1:fl enc (l.set j b)=(fl enc l).set (j * size+i) v:=by
   have hlen:(fl enc (l.take j)).length=j * size:=by rw [E.flLen,List.length_take]; congr 1; omega
   have e0:fl enc l=fl enc (l.take j)++(enc a++fl enc (l.drop (j+1))):=by
     conv=>lhs; rw [← List.take_append_drop j l]
     rw [fl_app,List.drop_eq_getElem_cons hjl,(List.getElem?_eq_some_iff.1 ha).2]; rfl
   rw [list_mod ha,fl_app,e0,List.set_append_right _ _ (by omega),hlen,show j * size+i - j * size=i by omega,List.set_append_left _ _ (by rw [E.len]; exact hi)]
   have ec:fl enc (b :: l.drop (j+1))=enc b++fl enc (l.drop (j+1)):=rfl
   rw [ec,hb]
 rw [e1]; exact h9
theorem S.obFl {k g e size n:Nat} {cs:Array Value} {l:List α} (E:Enc size enc) (h:S w L) (hk:L[k]?=some (Ob g (.cells cs e (0,0)))) (hn:n=l.length) (hm:n≤maxLen) (hc:cs.toList=fl enc l):S w (L.set k (Rw e size (some ⟨g,0,none⟩) n n (fl enc l))):=by
 have:=h.obRw (size:=size) (n:=n) hk (by rw [← Array.length_toList,hc,E.flLen,hn]) hm
 rwa [hc] at this
end
section
variable {P:Program} {N:Nat} {f:Fr} {ds:List Deferred} {w:World} {o:Oper} {α:Type} {enc:α→List Value}
theorem x_fieldAddrQ {s i n:Nat} {x:Operand} {q:Addr} (ho:o.op=.fieldAddr s x i) (hx:evo f x=some (.pointer (some q))) (hf:foO P s i=some n):Ex P N f ds o w (.pointer (some (q.add n))) w:=
 ex_of (x:=Instr.fieldAt s (.pointer (some q)) i) (fun a ha=>by unfold execOp; simp only [ho,ha.eval hx]) (by
   unfold foO at hf
   split at hf
   · rename_i fs hu
     split at hf
     · rename_i fd hfd
       split at hf
       · rename_i ii hii
         split at hf
         · cases hf
         · rename_i hne
           cases hf
           unfold Instr.fieldAt
           simp only [Sem.run_bind,run_underlying hu,Result.andThen_ok,hfd,Instr.sureAddr,Sem.run_pure,fieldPlace,run_sz (show szO P fd.type=some ii.size by simp [szO,hii]),if_neg hne]
       · cases hf
     · cases hf
   · cases hf)
theorem x_fieldAddrG {s i n m:Nat} {x:Operand} {p:Option Addr} (hp:∃ a,p=some a) (ho:o.op=.fieldAddr s x i) (hx:evo f x=some (.pointer (p.map fun q=>q.add m))) (hf:foO P s i=some n):Ex P N f ds o w (.pointer (p.map fun q=>q.add (m+n))) w:=by
 obtain ⟨a,rfl⟩:=hp
 have h:=x_fieldAddrQ (N:=N) (ds:=ds) (w:=w) ho hx hf
 rw [addr_add] at h
 exact h
theorem x_loadF1 {t size n c i j:Nat} {d:TypeDesc} {x:Operand} {p:Option Addr} {l:List α} {v:Value} {a:α} (E:Enc size enc) (hr:Reads w p n c size (fl enc l)) (ha:l[j]?=some a) (ho:o.op=.load t x) (hx:evo f x=some (.pointer (p.map fun q=>q.add (j * size+i)))) (hu:P.underlying t=some d) (hd:aggB d=false) (hv:(enc a)[i]?=some v) :
   Ex P N f ds o w v w:=by
 have hl:=hr.lenL E
 have hj:=(List.getElem?_eq_some_iff.1 ha).1
 obtain ⟨q,rfl,hc⟩:=hr.2.2 (by omega)
 exact x_load (p:=q.add (j * size+i)) ho hx (run_load1 hu hd (hc _ v (E.flAt ha i v hv)))
end
def intL (x:Int):List Value:=[.int .i64 x]
def boolL (x:Bool):List Value:=[.bool x]
def strL (x:ByteArray):List Value:=[.string x]
def rowL {α:Type} (r:Ro α):List Value:=[roV r]
theorem intE:Enc 1 intL:=⟨by decide,fun _=>rfl,fun _=>rfl⟩
theorem boolE:Enc 1 boolL:=⟨by decide,fun _=>rfl,fun _=>rfl⟩
theorem map_fl {α:Type} {F:α→Value} {enc:α→List Value} (h:∀ x,enc x=[F x]):∀ l:List α,l.map F=fl enc l
 | []=>rfl
 | a :: l=>by rw [List.map_cons,map_fl h l]; show _=enc a++_; rw [h]; rfl
end Go.Proofs.YthmmfhdpkddniaaGreatDoor
