import Derived.Test.YthmmfhdpkddniaaGreatDoorSj
set_option linter.all false
namespace Go.Proofs.YthmmfhdpkddniaaGreatDoor
open Go.RowKit
structure mT {α:Type} (size:Nat) (enc:α→List Value):Prop where
 pos:0<size
 len:∀ x,(enc x).length=size
 one:∀ x,(enc x).all (·.oneCell')=true
def fl {α:Type} (enc:α→List Value) (l:List α):List Value:=l.flatMap enc
section
variable {α:Type} {enc:α→List Value} {size:Nat}
theorem sJ (enc:α→List Value) (a b:List α):fl enc (a++b)=fl enc a++fl enc b:=List.flatMap_append ..
theorem OS (enc:α→List Value):fl enc []=[]:=rfl
theorem mT.flLen (E:mT size enc) (l:List α):(fl enc l).length=l.length * size:=qC fun x _=>E.len x
theorem mT.flAt (E:mT size enc) {l:List α} {j:Nat} {x:α} (h:l[j]?=some x):∀ i u,(enc x)[i]?=some u→(fl enc l)[j * size+i]?=some u:=Ae (fun x _=>E.len x) h
theorem mT.flAt1 (E:mT 1 enc) {l:List α} {j:Nat} {x:α} {v:Value} (h:l[j]?=some x) (hv:enc x=[v]):(fl enc l)[j * 1]?=some v:=by
 have:=E.flAt h 0 v (by rw [hv]; rfl)
 simpa using this
theorem mT.flOne (E:mT size enc) (l:List α):(fl enc l).all (·.oneCell')=true:=by
 rw [List.all_eq_true]; intro v hv
 obtain ⟨x,_,h⟩:=List.mem_flatMap.1 hv
 exact List.all_eq_true.1 (E.one x) v h
theorem mT.flTake (E:mT size enc):∀ (l:List α) (k:Nat),(fl enc l).take (k * size)=fl enc (l.take k)
 | l,0=>by simp [fl]
 | [],k+1=>by simp [fl]
 | a :: l,k+1=>by
   show (enc a++fl enc l).take ((k+1) * size)=enc a++fl enc (l.take k)
   rw [show (k+1) * size=(enc a).length+k * size by rw [E.len,Nat.succ_mul]; omega,List.take_length_add_append,E.flTake l k]
theorem mT.flDrop (E:mT size enc):∀ (l:List α) (k:Nat),(fl enc l).drop (k * size)=fl enc (l.drop k)
 | l,0=>by simp [fl]
 | [],k+1=>by simp [fl]
 | a :: l,k+1=>by
   show (enc a++fl enc l).drop ((k+1) * size)=fl enc (l.drop k)
   rw [show (k+1) * size=(enc a).length+k * size by rw [E.len,Nat.succ_mul]; omega,List.drop_length_add_append,E.flDrop l k]
theorem mT.flSet (E:mT size enc) {l:List α} {i:Nat} (y:α) (h:i<l.length):(fl enc l).take (i * size)++enc y++(fl enc l).drop (i * size+size)=fl enc (l.set i y):=by
 rw [show i * size+size=(i+1) * size by rw [Nat.succ_mul],E.flTake,E.flDrop,List.set_eq_take_append_cons_drop,if_pos h,sJ,List.append_assoc]; rfl
theorem Mz {l:List α} {j:Nat} (h:j<l.length):∃ x,l[j]?=some x:=⟨_,List.getElem?_eq_getElem h⟩
variable {w:World} {p:Option Addr} {n c:Nat} {l:List α}
theorem bz.lenL (hr:bz w p n c size (fl enc l)) (E:mT size enc):n=l.length:=by
 have h1:=hr.1
 rw [E.flLen] at h1
 exact (Nat.eq_of_mul_eq_mul_right E.pos h1).symm
theorem bz.takeL (hr:bz w p n c size (fl enc l)) (E:mT size enc) (k:Nat) (hk:k≤n):bz w p k c size (fl enc (l.take k)):=by
 have:=hr.take k hk
 rwa [E.flTake] at this
theorem DJ (p:Option Addr) (c size:Nat):kA p 0 c size=p:=by
 unfold kA
 split
 · rfl
 · cases p with
   | none=>rfl
   | some a=>show some (a.add (0 * size))=some a; rw [Nat.zero_mul]; unfold Addr.add; rfl
theorem bz.midL (hr:bz w p n c size (fl enc l)) (E:mT size enc) (a b:Nat) (hab:a≤b) (hb:b≤n):bz w (kA p a c size) (b - a) (c - a) size (fl enc ((l.drop a).take (b - a))):=by
 have:=hr.cut a b hab hb
 rwa [E.flDrop,E.flTake] at this
theorem bz.cutL (hr:bz w p n c size (fl enc l)) (E:mT size enc) (a:Nat) (ha:a≤n):bz w (kA p a c size) (n - a) (c - a) size (fl enc (l.drop a)):=by
 have h:=hr.midL E a n ha (Nat.le_refl _)
 have hn:=hr.lenL E
 rwa [List.take_of_length_le (by rw [List.length_drop]; omega)] at h
theorem bz.cutLn (hr:bz w p n c size (fl enc l)) (E:mT size enc) (a:Nat) (ha:a≤n):bz w (kA p a c size) (l.drop a).length (c - a) size (fl enc (l.drop a)):=by
 have h:=hr.cutL E a ha
 rwa [hr.lenL E,← List.length_drop] at h
theorem bz.clipL (hr:bz w p n c size (fl enc l)) (E:mT size enc) (k:Nat) (hk:k≤n):bz w (tJ p k size) k k size (fl enc (l.take k)):=by
 have:=hr.clip k hk
 rwa [E.flTake] at this
theorem bz.some (hr:bz w p n c size (fl enc l)) (h:0<n):∃ a,p=some a:=by
 obtain ⟨a,ha,_⟩:=hr.2.2 h
 exact ⟨a,ha⟩
theorem bz.nilL (w:World) (enc:α→List Value) (size:Nat):bz w none 0 0 size (fl enc ([]:List α)):=⟨by rw [OS,Nat.zero_mul]; rfl,Nat.le_refl _,fun h=>absurd h (Nat.lt_irrefl _)⟩
end
section
variable {P:Program} {N:Nat} {Q:Exit→Act→World→Prop} {f:Fr} {ds:List Deferred} {w w':World} {o:Oper} {ops:Array Oper} {L:List aD} {K:Act→World→Prop} {α:Type} {enc:α→List Value}
theorem S.nilFl (h:S w L) (e size:Nat) (enc:α→List Value):S w (Rw e size none 0 0 (fl enc []) :: L):=h.nilRw e size
theorem NA {d t e size bytes n m c sc:Nat} {s x:Operand} {z:Value} {p q:Option Addr} {l l2:List α} (E:mT size enc) (H:S w L) (k:Nat) (hw:Wt ops f o) (hd:o.dst=some d) (hN:Nat.blt d N=true)
   (ho:o.op=.call { callee:=.builtin .append,args:=#[s,x],argTypes:=#[t,t] }) (hs:cy f s=some (.slice p n sc)) (hx:cy f x=some (.slice q m c)) (hk:L[k]?=some (Rw e size p n sc (fl enc l)))
   (ht:P.underlying t=some (.slice e)) (hi:kf P e=some (some z,size,bytes)) (hz:z.cells.size=size) (hb0:0<bytes) (hr:bz w q m c size (fl enc l2)) (hb:(n+m) * bytes≤140737488355328)
   (h:∀ p' c' w',S w' (L.set k (Rw e size p' (n+m) c' (fl enc (l++l2))))→G N K ((d,.slice p' (n+m) c') :: f) ds w'):G N (bH P ops Q o K) f ds w:=
 y_ H k hw hd hN ho hs hx hk ht hi hz E.pos hb0 hr (E.flOne l2) hb fun p' c' w' h9=>h p' c' w' (by rw [sJ]; exact h9)
theorem NB {d t e size bytes n m c:Nat} {s x:Operand} {z:Value} {p q:Option Addr} {l l2:List α} (E:mT size enc) (H:S w L) (hw:Wt ops f o) (hd:o.dst=some d) (hN:Nat.blt d N=true)
   (ho:o.op=.call { callee:=.builtin .append,args:=#[s,x],argTypes:=#[t,t] }) (hs:cy f s=some (.slice p n n)) (hx:cy f x=some (.slice q m c)) (hr0:bz w p n n size (fl enc l))
   (ht:P.underlying t=some (.slice e)) (hi:kf P e=some (some z,size,bytes)) (hz:z.cells.size=size) (hb0:0<bytes) (hr:bz w q m c size (fl enc l2)) (hm:0<m) (hb:(n+m) * bytes≤140737488355328)
   (h:∀ p' c' w',S w' (Rw e size p' (n+m) c' (fl enc (l++l2)) :: L)→G N K ((d,.slice p' (n+m) c') :: f) ds w'):G N (bH P ops Q o K) f ds w:=by
 obtain ⟨a,rfl,_⟩:=hr.2.2 hm
 exact BV H hw hd hN ho hs hx hr0 ht hi hz E.pos hb0 hr hm (E.flOne l2) hb fun p' c' w' h9=>h p' c' w' (by rw [sJ]; exact h9)
theorem mH {t e size n c j:Nat} {x y:Operand} {p:Option Addr} {l:List α} {v:Value} (E:mT size enc) (b:α) (H:S w L) (k:Nat) (hw:Wt ops f o) (hd:o.dst=none) (ho:o.op=.store t x y) (hx:cy f x=some (.pointer (p.map fun q=>q.add (j * size))))
   (hy:cy f y=some v) (hk:L[k]?=some (Rw e size p n c (fl enc l))) (hv:v.cells.toList=enc b) (hn:jW P t=some size) (hj:j<n)
   (h:∀ w',S w' (L.set k (Rw e size p n c (fl enc (l.set j b))))→G N K f ds w'):G N (bH P ops Q o K) f ds w:=by
 have hr:=H.rwReads hk
 have hl:=hr.lenL E
 have hs:v.cells.size=size:=by rw [← Array.length_toList,hv,E.len]
 exact jT H k hw hd ho hx hy hk (by rw [hs]; exact hn) hs (by rw [hv]; exact E.one b) hj fun w' h9=>h w' (by rw [← E.flSet b (by omega),← hv]; exact h9)
theorem iO {d t e size bytes n m c sc:Nat} {s x:Operand} {z:Value} {p q:Option Addr} {l l2:List α} (E:mT size enc) (H:S w L) (k:Nat) (hw:Wt ops f o) (hd:o.dst=some d) (hN:Nat.blt d N=true)
   (ho:o.op=.call { callee:=.builtin .append,args:=#[s,x],argTypes:=#[t,t] }) (hs:cy f s=some (.slice p n sc)) (hx:cy f x=some (.slice q m c)) (hk:L[k]?=some (Rw e size p n sc (fl enc l)))
   (ht:P.underlying t=some (.slice e)) (hi:kf P e=some (some z,size,bytes)) (hz:z.cells.size=size) (hb0:0<bytes) (hr:bz w q m c size (fl enc l2)) (hb:(n+m) * bytes≤140737488355328)
   (h:∀ p' c' w',S w' (L.set k (Rw e size p' (l++l2).length c' (fl enc (l++l2))))→G N K ((d,.slice p' (l++l2).length c') :: f) ds w'):G N (bH P ops Q o K) f ds w:=
 NA E H k hw hd hN ho hs hx hk ht hi hz hb0 hr hb fun p' c' w' h9=>by
   have h1:=h p' c' w'
   rw [List.length_append,← (H.rwReads hk).lenL E,← hr.lenL E] at h1
   exact h1 h9
theorem t6 {d t e size bytes n m c sc g:Nat} {s x:Operand} {z:Value} {p:Option Addr} {l l2:List α} {cs:Array Value} (E:mT size enc) (H:S w L) (k:Nat) {j0:Nat} (hj:L[j0]?=some (Ob g (.cells cs e (0,0)))) (hcs:cs.toList=fl enc l2) (hm:m=l2.length∧m≤c) (hw:Wt ops f o) (hd:o.dst=some d) (hN:Nat.blt d N=true)
   (ho:o.op=.call { callee:=.builtin .append,args:=#[s,x],argTypes:=#[t,t] }) (hs:cy f s=some (.slice p n sc)) (hx:cy f x=some (.slice (some ⟨g,0,none⟩) m c)) (hk:L[k]?=some (Rw e size p n sc (fl enc l)))
   (ht:P.underlying t=some (.slice e)) (hi:kf P e=some (some z,size,bytes)) (hz:z.cells.size=size) (hb0:0<bytes) (hb:(n+m) * bytes≤140737488355328)
   (h:∀ p' c' w',S w' (L.set k (Rw e size p' (l++l2).length c' (fl enc (l++l2))))→G N K ((d,.slice p' (l++l2).length c') :: f) ds w'):G N (bH P ops Q o K) f ds w:=
 iO E H k hw hd hN ho hs hx hk ht hi hz hb0 ⟨by rw [E.flLen,hm.1],hm.2,fun _=>⟨_,rfl,fun j u hu=>ud H hj j u (by rw [hcs]; exact hu)⟩⟩ hb h
theorem qG {d t e size bytes n m c:Nat} {s x:Operand} {z:Value} {p q:Option Addr} {l l2:List α} (E:mT size enc) (H:S w L) (hw:Wt ops f o) (hd:o.dst=some d) (hN:Nat.blt d N=true)
   (ho:o.op=.call { callee:=.builtin .append,args:=#[s,x],argTypes:=#[t,t] }) (hs:cy f s=some (.slice p n n)) (hx:cy f x=some (.slice q m c)) (hr0:bz w p n n size (fl enc l))
   (ht:P.underlying t=some (.slice e)) (hi:kf P e=some (some z,size,bytes)) (hz:z.cells.size=size) (hb0:0<bytes) (hr:bz w q m c size (fl enc l2)) (hm:0<m) (hb:(n+m) * bytes≤140737488355328)
   (h:∀ p' c' w',S w' (Rw e size p' (l++l2).length c' (fl enc (l++l2)) :: L)→G N K ((d,.slice p' (l++l2).length c') :: f) ds w'):G N (bH P ops Q o K) f ds w:=
 NB E H hw hd hN ho hs hx hr0 ht hi hz hb0 hr hm hb fun p' c' w' h9=>by
   have h1:=h p' c' w'
   rw [List.length_append,← hr0.lenL E,← hr.lenL E] at h1
   exact h1 h9
theorem Bd {β:Type} {l:List β} {j:Nat} {a b:β} (h:l[j]?=some a):l.set j b=l.take j++b :: l.drop (j+1):=by
 rw [List.set_eq_take_append_cons_drop,if_pos (List.getElem?_eq_some_iff.1 h).1]
theorem zI {t e size n c j i:Nat} {x y:Operand} {p:Option Addr} {l:List α} {v:Value} {a:α} (E:mT size enc) (b:α) (H:S w L) (k:Nat) (hw:Wt ops f o) (hd:o.dst=none) (ho:o.op=.store t x y) (hx:cy f x=some (.pointer (p.map fun q=>q.add (j * size+i))))
   (hy:cy f y=some v) (hk:L[k]?=some (Rw e size p n c (fl enc l))) (ha:l[j]?=some a) (hb:enc b=(enc a).set i v) (hi:i<size) (hn:jW P t=some 1) (hv:v.cells=#[v]) (h1:v.oneCell'=true)
   (h:∀ w',S w' (L.set k (Rw e size p n c (fl enc (l.set j b))))→G N K f ds w'):G N (bH P ops Q o K) f ds w:=by
 have hr:=H.rwReads hk
 have hl:=hr.lenL E
 have hjl:=(List.getElem?_eq_some_iff.1 ha).1
 have hjs:j * size+size≤n * size:=by
   have:(j+1) * size≤n * size:=Nat.mul_le_mul_right _ (by omega)
   rw [Nat.add_mul,Nat.one_mul] at this; exact this
 refine Fj H k hw hd ho hx hy hk hn hv h1 (by omega) fun w' h9=>h w' ?_
 have e1:fl enc (l.set j b)=(fl enc l).set (j * size+i) v:=by
   have hlen:(fl enc (l.take j)).length=j * size:=by rw [E.flLen,List.length_take]; congr 1; omega
   have e0:fl enc l=fl enc (l.take j)++(enc a++fl enc (l.drop (j+1))):=by
     conv=>lhs; rw [← List.take_append_drop j l]
     rw [sJ,List.drop_eq_getElem_cons hjl,(List.getElem?_eq_some_iff.1 ha).2]; rfl
   rw [Bd ha,sJ,e0,List.set_append_right _ _ (by omega),hlen,show j * size+i - j * size=i by omega,List.set_append_left _ _ (by rw [E.len]; exact hi)]
   have ec:fl enc (b :: l.drop (j+1))=enc b++fl enc (l.drop (j+1)):=rfl
   rw [ec,hb]
 rw [e1]; exact h9
theorem S.obFl {k g e size n:Nat} {cs:Array Value} {l:List α} (E:mT size enc) (h:S w L) (hk:L[k]?=some (Ob g (.cells cs e (0,0)))) (hn:n=l.length) (hm:n≤maxLen) (hc:cs.toList=fl enc l):S w (L.set k (Rw e size (some ⟨g,0,none⟩) n n (fl enc l))):=by
 have:=h.obRw (size:=size) (n:=n) hk (by rw [← Array.length_toList,hc,E.flLen,hn]) hm
 rwa [hc] at this
end
section
variable {P:Program} {N:Nat} {f:Fr} {ds:List Deferred} {w:World} {o:Oper} {α:Type} {enc:α→List Value}
theorem An {s i n:Nat} {x:Operand} {q:Addr} (ho:o.op=.fieldAddr s x i) (hx:cy f x=some (.pointer (some q))) (hf:u_ P s i=some n):Ex P N f ds o w (.pointer (some (q.add n))) w:=
 fH (x:=Instr.fieldAt s (.pointer (some q)) i) (fun a ha=>by unfold execOp; simp only [ho,ha.eval hx]) (by
   unfold u_ at hf
   split at hf
   · rename_i fs hu
     split at hf
     · rename_i fd hfd
       split at hf
       · rename_i ii hii
         split at hf
         · cases hf
         · rename_i hne
           cases hf
           unfold Instr.fieldAt
           simp only [Sem.run_bind,run_underlying hu,Result.andThen_ok,hfd,Instr.sureAddr,Sem.run_pure,fieldPlace,iZ (show jW P fd.type=some ii.size by simp [jW,hii]),if_neg hne]
       · cases hf
     · cases hf
   · cases hf)
theorem bJ {s i n m:Nat} {x:Operand} {p:Option Addr} (hp:∃ a,p=some a) (ho:o.op=.fieldAddr s x i) (hx:cy f x=some (.pointer (p.map fun q=>q.add m))) (hf:u_ P s i=some n):Ex P N f ds o w (.pointer (p.map fun q=>q.add (m+n))) w:=by
 obtain ⟨a,rfl⟩:=hp
 have h:=An (N:=N) (ds:=ds) (w:=w) ho hx hf
 rw [qz] at h
 exact h
theorem vm {x:Operand} {p:Option Addr} {m:Nat} (hp:∃ a,p=some a) (ho:o.op=.nilCheck x) (hx:cy f x=some (.pointer (p.map fun q=>q.add m))):Ex P N f ds o w (.pointer (p.map fun q=>q.add m)) w:=by
 obtain ⟨a,rfl⟩:=hp
 exact fm ho hx
theorem eX {t size n c i j:Nat} {d:TypeDesc} {x:Operand} {p:Option Addr} {l:List α} {v:Value} {a:α} (E:mT size enc) (hr:bz w p n c size (fl enc l)) (ha:l[j]?=some a) (ho:o.op=.load t x) (hx:cy f x=some (.pointer (p.map fun q=>q.add (j * size+i)))) (hu:P.underlying t=some d) (hd:jF d=false) (hv:(enc a)[i]?=some v) :
   Ex P N f ds o w v w:=by
 have hl:=hr.lenL E
 have hj:=(List.getElem?_eq_some_iff.1 ha).1
 obtain ⟨q,rfl,hc⟩:=hr.2.2 (by omega)
 exact uH (p:=q.add (j * size+i)) ho hx (dp hu hd (hc _ v (E.flAt ha i v hv)))
end
def cg (x:Int):List Value:=[.int .i64 x]
def cG (x:Bool):List Value:=[.bool x]
def SN (x:ByteArray):List Value:=[.string x]
def EY {α:Type} (r:Ro α):List Value:=[Sv r]
theorem bE:mT 1 cg:=⟨by decide,fun _=>rfl,fun _=>rfl⟩
theorem cP:mT 1 cG:=⟨by decide,fun _=>rfl,fun _=>rfl⟩
theorem ka {α:Type}:mT 1 (EY (α:=α)):=⟨by decide,fun _=>rfl,fun _=>rfl⟩
theorem G6 {α:Type} {F:α→Value} {enc:α→List Value} (h:∀ x,enc x=[F x]):∀ l:List α,l.map F=fl enc l
 | []=>rfl
 | a :: l=>by rw [List.map_cons,G6 h l]; show _=enc a++_; rw [h]; rfl
theorem D_ {α:Type} {w:World} {e size:Nat} {enc:α→List Value} {rs:List (Ro α)} {r:Ro α} (h:(p_ e size enc rs).ok w) (hr:r∈rs∨r=⟨none,0,[]⟩):bz w r.p r.l.length r.c size (fl enc r.l):=by
 rcases hr with hr | rfl
 · obtain ⟨j,hj⟩:=List.getElem?_of_mem hr
   exact Fv h hj
 · exact bz.nilL w enc size
theorem S.rowsAdd {α:Type} {w:World} {L:List aD} {e size n c:Nat} {p:Option Addr} {l:List α} {enc:α→List Value} {rs:List (Ro α)} (h:S w (p_ e size enc rs :: Rw e size p n c (fl enc l) :: L)) (hn:n=l.length):S w (p_ e size enc (rs++[⟨p,c,l⟩]) :: L):=by
 subst hn
 exact S.rowsSnoc h
structure kg {β:Type} (P:Program) (g:Nat) (fi ca:Array Value) (X:aD) (av:β→List Value) (rv:β→Value) (D:β→Prop):Prop where
 ok:aI P g=true
 does:∀ b,D b→∀ w,S w [X]→Calls P g (fi.toList++av b++ca.toList).toArray w fun e w'=>e=.returned (rv b)∧S w' ([X]++[aB w (aT [X])])
theorem kg.imp {β:Type} {P:Program} {g:Nat} {fi ca:Array Value} {X:aD} {av:β→List Value} {rv:β→Value} {D D':β→Prop} (h:kg P g fi ca X av rv D) (hd:∀ b,D' b→D b):kg P g fi ca X av rv D':=⟨h.ok,fun b hb=>h.does b (hd b hb)⟩
theorem kg.out {β:Type} {P:Program} {g:Nat} {fi ca:Array Value} {X:aD} {av:β→List Value} {rv rv':β→Value} {D:β→Prop} (h:kg P g fi ca X av rv D) (hr:∀ b,D b→rv b=rv' b):kg P g fi ca X av rv' D:=⟨h.ok,fun b hb w hS=>(h.does b hb w hS).mono fun e w' ⟨he,hw⟩=>⟨by rw [he,hr b hb],hw⟩⟩
def AH (w:World) (X:aD) (p:Option Addr) (n c size:Nat) (xs:List Value):Prop:=∀ w',S w' [X,aB w (aT [X])]→bz w' p n c size xs
section
variable {w w0 w1:World} {L:List aD} {k i n c size e:Nat} {p:Option Addr} {xs:List Value} {N:Nat→Prop} {X:aD}
theorem KO {g:Nat}:aT [X] g ↔ X.fp g:=⟨fun ⟨it,h1,h2⟩=>by rw [List.mem_singleton] at h1; subst h1; exact h2,fun h=>⟨X,List.mem_singleton.2 rfl,h⟩⟩
theorem S.exReads (h:S w L) (hk:L[k]?=some (aB w0 N)) (hr:bz w0 p n c size xs) (hx:0<n→∀ a,p=some a→¬ N a.block):bz w p n c size xs:=by
 obtain ⟨k1,k2,k3⟩:=hr
 refine ⟨k1,k2,fun hn=>?_⟩
 obtain ⟨a,rfl,hc⟩:=k3 hn
 refine ⟨a,rfl,fun j u hu=>h.oldCell hk (hc j u hu) ?_⟩
 have:=hx hn a rfl
 unfold Addr.add; split <;> exact this
theorem AH.nxt (h:AH w X p n c size xs) (H:S w1 [X,aB w (aT [X])]):AH w1 X p n c size xs:=fun w' h'=>h w' (H.absorbI (new:=[X]) [0] h')
theorem S.apartRw (h:S w L) (hi:L[i]?=some (Rw e size p n c xs)) (hk:L[k]?=some X) (hne:i ≠ k):AH w X p n c size xs:=fun w' h'=>h'.exReads (k:=1) rfl (h.rwReads hi) fun hn a ha hf=>by
 replace hf:=KO.1 hf
 obtain ⟨k1,k2,k3,k4⟩:=h.rw hi
 rcases k4 with ⟨h1,_,_⟩ | ⟨g,o,cur,h1,_,_,_⟩
 · rw [h1] at ha; cases ha
 · rw [h1] at ha; cases ha
   exact ua h.2 hi hk hne g ⟨o,h1⟩ hf
end
def Jv {α:Type} (q:α→Bool) (l:List α):Int:=if l.any q then (l.findIdx q:Int) else -1
theorem Oq {α:Type} {q:α→Bool} {l:List α} {i:Nat} {x:α} (hx:l[i]?=some x) (hq:q x=true) (hno:∀ y∈l.take i,q y=false):Jv q l=i:=by
 have hi:=(List.getElem?_eq_some_iff.1 hx)
 unfold Jv
 rw [if_pos (List.any_eq_true.2 ⟨x,List.mem_of_getElem? hx,hq⟩)]
 congr 1
 obtain ⟨hil,hie⟩:=hi
 refine (List.findIdx_eq hil).2 ⟨by rw [hie]; exact hq,fun j hj=>?_⟩
 exact hno _ (List.mem_take_iff_getElem.2 ⟨j,by rw [Nat.lt_min]; exact ⟨hj,by omega⟩,rfl⟩)
theorem Oo {α:Type} {q:α→Bool} {l:List α} (hno:∀ y∈l,q y=false):Jv q l=-1:=by
 unfold Jv
 rw [if_neg (fun h=>by obtain ⟨x,hx,h2⟩:=List.any_eq_true.1 h; rw [hno x hx] at h2; cases h2)]
theorem IA {α:Type} {q:α→Bool} {l:List α} (h:¬ Jv q l=-1):∃ i x,Jv q l=(i:Nat)∧l[i]?=some x∧q x=true∧∀ y∈l.take i,q y=false:=by
 unfold Jv at h ⊢
 by_cases h1:l.any q=true
 · rw [if_pos h1]
   have hlt:l.findIdx q<l.length:=by
     obtain ⟨x,hx,h2⟩:=List.any_eq_true.1 h1
     exact List.findIdx_lt_length_of_exists ⟨x,hx,h2⟩
   refine ⟨l.findIdx q,l[l.findIdx q],rfl,List.getElem?_eq_getElem hlt,List.findIdx_getElem,fun y hy=>?_⟩
   obtain ⟨j,hj,rfl⟩:=List.mem_take_iff_getElem.1 hy
   have:=List.not_of_lt_findIdx (p:=q) (xs:=l) (i:=j) (by omega)
   simpa using this
 rw [if_neg h1] at h; exact absurd rfl h
theorem Kg {α:Type} {q:α→Bool} {l:List α} {k:Nat} {x:α} (h:∀ y∈l.take k,q y=false) (hx:l[k]?=some x) (hq:q x=false):∀ y∈l.take (k+1),q y=false:=fun y hy=>by
 rw [List.take_add_one,hx] at hy
 rcases List.mem_append.1 hy with hy | hy
 · exact h y hy
 · rw [Option.mem_toList.1 hy |> fun e=>(Option.some.inj e).symm]; exact hq
def kh {α:Type} (q:α→Bool) (l:List α):List α:=l.filter fun x=>!q x
theorem Bh {α:Type} {q:α→Bool} {l:List α} (h:∀ y∈l,q y=false):kh q l=l:=List.filter_eq_self.2 fun y hy=>by rw [h y hy]; rfl
theorem u1 {α:Type} {q:α→Bool} {l:List α} {j:Nat} {x:α} (hx:l[j]?=some x):kh q (l.take (j+1))=kh q (l.take j)++(if q x=true then [] else [x]):=by
 unfold kh
 rw [List.take_add_one,hx,List.filter_append]
 cases h:q x <;> simp [h]
theorem Dd {α:Type} {q:α→Bool} {l:List α} {i:Nat} {x:α} (hx:l[i]?=some x) (hq:q x=true) (hno:∀ y∈l.take i,q y=false):kh q (l.take (i+1))=l.take i:=by
 rw [u1 hx,if_pos hq,List.append_nil,Bh hno]
theorem Ah {α:Type} {l cur:List α} {j:Nat} (hs:cur.drop j=l.drop j):cur[j]?=l[j]?:=by
 have:=congrArg (fun z=>z[0]?) hs
 simpa [List.getElem?_drop] using this
theorem BD {α:Type} {l cur:List α} {j:Nat} (hs:cur.drop j=l.drop j):cur.drop (j+1)=l.drop (j+1):=by
 have:=congrArg (fun z=>z.drop 1) hs
 simpa [List.drop_drop] using this
theorem EB {α:Type} {q:α→Bool} {l cur:List α} {i j:Nat} {x:α} (hl:cur.length=l.length) (hij:i<j) (hp:cur.take i=kh q (l.take j)) (hs:cur.drop j=l.drop j) (hx:cur[j]?=some x) (hq:q x=false) :
   (cur.set i x).take (i+1)=kh q (l.take (j+1))∧(cur.set i x).drop (j+1)=l.drop (j+1):=by
 have hjl:=(List.getElem?_eq_some_iff.1 hx).1
 constructor
 · rw [u1 (by rw [← Ah hs]; exact hx),if_neg (by rw [hq]; decide),← hp,List.take_add_one,List.getElem?_set_self (by omega),List.take_set_of_le (Nat.le_refl _)]; rfl
 · rw [List.drop_set_of_lt (by omega)]; exact BD hs
theorem BF {α:Type} {q:α→Bool} {l cur:List α} {i j:Nat} {x:α} (hp:cur.take i=kh q (l.take j)) (hs:cur.drop j=l.drop j) (hx:cur[j]?=some x) (hq:q x=true) :
   cur.take i=kh q (l.take (j+1))∧cur.drop (j+1)=l.drop (j+1):=by
 constructor
 · rw [u1 (by rw [← Ah hs]; exact hx),if_pos hq,List.append_nil,hp]
 · exact BD hs
def bM {α:Type} (F:α→aD) (l:List α):aD:=fN (l.map F)
section
variable {α:Type} {F:α→aD} {l:List α} {w:World} {L:List aD} {x:α} {j:Nat}
theorem S.lstOut (h:S w (bM F l :: L)) (hj:l[j]?=some x):S w (F x :: bM F (l.eraseIdx j) :: L):=by
 have h1:S w (l.map F++L):=h.unbig
 have hp:(l.map F).Perm (F x :: (l.eraseIdx j).map F):=(oY hj).map F
 have h2:=h1.perm (hp.append_right L)
 have h3:S w ((l.eraseIdx j).map F++(F x :: L)):=h2.perm (List.perm_middle.symm)
 exact h3.big.perm (List.Perm.swap ..)
theorem S.lstIn (h:S w (F x :: bM F (l.eraseIdx j) :: L)) (hj:j<l.length):S w (bM F (l.set j x) :: L):=by
 have h1:S w (bM F (l.eraseIdx j) :: (F x :: L)):=h.perm (List.Perm.swap ..)
 have h2:S w ((l.eraseIdx j).map F++(F x :: L)):=h1.unbig
 have hp:((l.set j x).map F).Perm (F x :: (l.eraseIdx j).map F):=by
   have h5:(l.set j x)[j]?=some x:=by rw [List.getElem?_set_self hj]
   have:=(oY h5).map F
   rwa [List.eraseIdx_set_eq] at this
 have h3:S w ((l.set j x).map F++L):=h2.perm (by
   refine List.Perm.trans ?_ (hp.symm.append_right L)
   exact List.perm_middle)
 exact h3.big
theorem S.lstNil (h:S w L) (F:α→aD):S w (bM F [] :: L):=S.big (L:=[]) h
theorem S.lstSnoc (h:S w (F x :: bM F l :: L)):S w (bM F (l++[x]) :: L):=by
 have h1:S w (bM F l :: (F x :: L)):=h.perm (List.Perm.swap ..)
 have h2:S w (l.map F++(F x :: L)):=h1.unbig
 have h3:S w ((l++[x]).map F++L):=by
   rw [List.map_append,List.append_assoc]; exact h2
 exact h3.big
theorem S.lstAt {k:Nat} (h:S w L) (hk:L[k]?=some (bM F l)) (hj:l[j]?=some x):S w [F x]:=by
 have h1:S w [bM F l]:=S.sublist h (by
   refine List.singleton_sublist.2 (List.mem_of_getElem? hk))
 exact (S.lstOut h1 hj).sublist (List.Sublist.cons_cons _ (List.nil_sublist _))
end
theorem kg.ofBig {β:Type} {P:Program} {g:Nat} {fi ca:Array Value} {L:List aD} {av:β→List Value} {rv:β→Value} {D:β→Prop} (hg:aI P g=true) (h:∀ b,D b→∀ w,S w L→Calls P g (fi.toList++av b++ca.toList).toArray w fun e w'=>e=.returned (rv b)∧S w' (L++[aB w (aT L)])):kg P g fi ca (fN L) av rv D:=⟨hg,fun b hb w HS=>by
 have h2:S w (L++[]):=S.unbig HS
 rw [List.append_nil] at h2
 refine (h b hb w h2).mono ?_
 rintro e w' ⟨he,hs⟩
 refine ⟨he,?_⟩
 have e2:aT [fN L]=aT L:=by
   funext k
   refine propext ⟨fun ⟨it,h1,h3⟩=>?_,fun h=>⟨fN L,List.mem_singleton.2 rfl,h⟩⟩
   rw [List.mem_singleton] at h1; subst h1; exact h3
 rw [e2]
 exact S.big hs⟩
theorem kg.pure {β:Type} {P:Program} {g:Nat} {fi ca:Array Value} {av:β→List Value} {rv:β→Value} {D:β→Prop} (hg:aI P g=true) (h:∀ b,D b→∀ w,Calls P g (fi.toList++av b++ca.toList).toArray w fun e w'=>e=.returned (rv b)∧S w' [aB w no]):kg P g fi ca (fN []) av rv D:=
 kg.ofBig hg fun b hb w _=>(h b hb w).mono fun e w' ⟨h1,h2⟩=>⟨h1,by
   rw [show aT []=no from funext fun k=>propext ⟨fun ⟨it,h3,_⟩=>(List.not_mem_nil h3).elim,False.elim⟩]; exact h2⟩
open Go.Maps (Keyed)
section
variable {κ α:Type} {ek:κ→Value} {va:α→Value} {ok:κ→Prop} {M:κ→Option α} {es:Array MapEntry} {c:Nat} {kv:List (κ × α)}
def Mi (ek:κ→Value) (va:α→Value) (es:Array MapEntry) (c:Nat) (kv:List (κ × α)) (g r:Nat) (rem:List (κ × α)) (cur:Option (κ × α)):aD:=
 ⟨fun j=>j=r,fun w=>∃ seen since st,w.heap[r]?=some (.mapIter (some g) since seen st)∧(∀ e∈es.toList,e.born<since)∧(since≤st∧since≤c)∧rem=nh es kv seen∧(cur.isSome=true→st=c)∧MJ ek va es seen cur,fun h k=>by
   obtain ⟨seen,since,st,h3,h4⟩:=k
   exact ⟨seen,since,st,(h.block r rfl).trans h3,h4⟩⟩
variable {P:Program} {N:Nat} {Q:Exit→Act→World→Prop} {f:Fr} {ds:List Deferred} {w w':World} {o:Oper} {ops:Array Oper} {L:List aD} {K:Act→World→Prop}
end
end Go.Proofs.YthmmfhdpkddniaaGreatDoor
