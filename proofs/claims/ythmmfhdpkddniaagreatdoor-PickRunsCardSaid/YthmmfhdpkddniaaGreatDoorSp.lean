import Derived.Test.YthmmfhdpkddniaaGreatDoorFi
import Derived.Test.YthmmfhdpkddniaaGreatDoorProg
import Derived.Test.YthmmfhdpkddniaaGreatDoorSo
set_option linter.all false
namespace Go.Proofs.YthmmfhdpkddniaaGreatDoor
open Go.RowKit Go.Deep
section
variable {P:Program} {N:Nat} {Q:Exit→Act→World→Prop} {f:Fr} {ds:List Deferred} {w w':World} {o:Oper} {ops:Array Oper} {L:List aD} {K:Act→World→Prop}
theorem CV {d sT dT e:Nat} {x:Operand} {s:ByteArray} (H:S w L) (hw:Wt ops f o) (hd:o.dst=some d) (hN:Nat.blt d N=true) (ho:o.op=.convert sT dT x) (hx:cy f x=some (.string s))
   (hs:P.underlying sT=some .string) (hd':P.underlying dT=some (.slice e)) (he:P.underlying e=some (.int .u8))
   (h:∀ g c fr cs w',S w' (Ob g (.cells cs e fr) :: L)→(∀ j,j<s.size→cs[j]?=some (.int .u8 ((s.data.toList.getD j 0).toNat:Nat)))→s.size≤c→(s.size≤cs.size∧cs.size≤fr.1)→G N K ((d,.slice (some ⟨g,0,none⟩) s.size c) :: f) ds w'):G N (bH P ops Q o K) f ds w:=by
 have hrun:=Lib.run_convert_string_bytes (P:=P) w sT dT e s hs hd' he
 have hS:S (Lib.bytesWorld w e s) (Ob w.heap.size (.cells (Lib.bytesCells w e s) e ((Lib.bytesCells w e s).size,(Lib.bytesCells w e s).size+1)) :: L):=by
   refine (H.move (xX w e s)).cons (Lib.bytesWorld_at_new w e s) (fun g hg=>?_) (fun x hx g hg hx'=>?_)
   · rw [Lib.bytesWorld_size]; have hg:g=w.heap.size:=hg; omega
   · have hg:g=w.heap.size:=hg
     have:=(H.1 x hx).2 g hx'
     omega
 exact aJ hw hd hN (fH (x:=convert sT dT (.string s)) (fun a ha=>by unfold execOp; simp only [ho,ha.eval hx]) hrun)
   (h _ _ _ _ _ hS (fun j hj=>by
     simp only [Lib.bytesCells]
     rw [Array.getElem?_append_left (by simpa using hj)]
     simp [List.getD,hj]) (grownCap_ge w s.size 0 e) ⟨by simp [Lib.bytesCells],Nat.le_refl _⟩)
theorem A4 {t:TypeId} {x y:Operand} {g i:Nat} {cs:Array Value} {e:TypeId} {fr:Nat × Nat} {v:Value} (H:S w L) (k:Nat) (hw:Wt ops f o) (hd:o.dst=none) (ho:o.op=.store t x y) (hx:cy f x=some (.pointer (some ⟨g,i,none⟩)))
   (hy:cy f y=some v) (hk:L[k]?=some (Ob g (.cells cs e fr))) (hn:jW P t=some 1) (hv:v.cells=#[v]) (h1:v.oneCell'=true) (hi:i<cs.size) (hf:i<fr.1)
   (h:∀ w',S w' (L.set k (Ob g (.cells (cs.setIfInBounds i v) e fr)))→G N K f ds w'):G N (bH P ops Q o K) f ds w:=by
 have hg:=H.ob hk
 have hcell:w.cell? ⟨g,i,none⟩=some cs[i]:=by simp [World.cell?,hg,hi]
 have hfro:w.frozen? ⟨g,i,none⟩=false:=by simp [World.frozen?,hg]; omega
 have hst:(storeVar t ⟨g,i,none⟩ v).run P w=.ok () (w.setCell ⟨g,i,none⟩ v):=by
   unfold storeVar
   rw [hv]
   simp only [Sem.run_bind,iZ hn,Result.andThen_ok]
   have hadd:(⟨g,i,none⟩:Addr).add 0=⟨g,i,none⟩:=by unfold Addr.add; simp
   have:(store ((⟨g,i,none⟩:Addr).add 0) v).run P w=.ok () (w.setCell ⟨g,i,none⟩ v):=by
     rw [hadd,run_store P w _ v _ h1,hcell]
     simp [hfro]
   simp [storeCells,this]
 exact uJ hw hd (nQ ho hx hy hst) (h _ (H.write hk (o7 w g i v) (by
   simp [World.setCell,Array.getElem?_modify,hg])))
theorem Fj {t e size n c j:Nat} {x y:Operand} {p:Option Addr} {xs:List Value} {v:Value} (H:S w L) (k:Nat) (hw:Wt ops f o) (hd:o.dst=none) (ho:o.op=.store t x y) (hx:cy f x=some (.pointer (p.map fun q=>q.add j)))
   (hy:cy f y=some v) (hk:L[k]?=some (Rw e size p n c xs)) (hn:jW P t=some 1) (hv:v.cells=#[v]) (h1:v.oneCell'=true) (hj:j<n * size)
   (h:∀ w',S w' (L.set k (Rw e size p n c (xs.set j v)))→G N K f ds w'):G N (bH P ops Q o K) f ds w:=by
 obtain ⟨k1,k2,k3,k4⟩:=H.rw hk
 rcases k4 with ⟨_,h0,_⟩ | ⟨g,off,cur,rfl,hg,hcs,hc⟩
 · subst h0; omega
 have hns:n * size≤c * size:=Nat.mul_le_mul_right _ k2
 have hr:=oW (P:=P) (t:=t) (g:=g) (i:=off+j) (v:=v) hg (by rw [hv]; exact hn) (by rw [hv]; show off+j+1≤_; omega) (by rw [hv]; simpa using h1)
 rw [hv] at hr
 have hcur:(cur.toList.take (off+j)++(#[v]:Array Value).toList++cur.toList.drop (off+j+(#[v]:Array Value).size)).toArray=cur.setIfInBounds (off+j) v:=by
   apply Array.ext'
   simp only [Array.toList_setIfInBounds,List.size_toArray,List.length_cons,List.length_nil]
   rw [List.set_eq_take_append_cons_drop,if_pos (by rw [Array.length_toList]; omega)]
   simp
 rw [hcur] at hr
 rw [Option.map_some,iL] at hx
 have hlt:g<w.heap.size:=(Array.getElem?_eq_some_iff.1 hg).1
 refine uJ hw hd (nQ ho hx hy hr) (h _ (H.turn hk ((kn w g _).less fun b hb he=>hb.2 ⟨off,by rw [he]⟩) ⟨by rw [List.length_set]; exact k1,k2,k3,.inr ⟨g,off,_,rfl,by simp only [World.setRow,Array.getElem?_modify,if_true,hg,Option.map_some]; rfl,by rw [Array.size_setIfInBounds]; exact hcs,fun i u hu=>?_⟩⟩ (fun b hb=>⟨.inl hb,Nat.lt_of_lt_of_le (H.lt hk hb) (by simp [World.setRow])⟩)))
 rw [List.getElem?_set] at hu
 rw [Array.getElem?_setIfInBounds]
 by_cases hi:j=i
 · subst hi
   rw [if_pos rfl] at hu
   rw [if_pos rfl,if_pos (by omega)]
   split at hu
   · exact hu
   cases hu
 rw [if_neg hi] at hu
 rw [if_neg (by omega)]
 exact hc i u hu
end
def MK (k:Nat):List (Nat × Nat)→Option Nat
 | []=>none
 | (a,b) :: r=>bif Nat.beq a k then some b else MK k r
def PM (k i:Nat):List (Nat × Nat × Nat)→Option Nat
 | []=>none
 | (a,b,c) :: r=>bif Nat.beq a k && Nat.beq b i then some c else PM k i r
def Sr:List (Nat × Nat):=[(3,0),(4,0),(5,0),(9,0),(24,0),(26,0),(30,0),(35,0),(38,0),(59,0),(79,0),(80,0),(83,0),(86,0),(94,0),(95,0),(113,0),(174,0),(177,0),(184,0)]
def Ss:List (Nat × Nat):=[(3,1),(4,1),(5,1),(9,1),(23,5),(24,1),(26,1),(30,1),(35,1),(38,1),(40,2),(44,3),(55,13),(59,1),(79,1),(80,1),(82,1),(83,1),(85,9),(86,1),(88,6),(94,1),(95,1),(97,10),(100,2),(103,2),(110,4),(113,1),(125,6),(137,2),(150,4),(174,1),(177,1),(179,8),(184,1),(221,4),(223,4),(226,5),(237,20),(239,32),(240,64)]
def Sw:List (Nat × Nat × Nat):=[(23,0,0),(23,1,1),(23,2,2),(23,3,3),(23,4,4),(40,0,0),(40,1,1),(44,0,0),(44,1,1),(55,0,0),(55,1,1),(55,2,2),(55,3,3),(55,4,4),(55,5,5),(55,6,6),(55,7,7),(55,8,8),(55,9,10),(82,0,0),(85,0,0),(85,1,1),(85,2,2),(85,3,3),(85,4,4),(85,5,5),(85,6,6),(85,7,7),(85,8,8),(88,0,0),(88,1,1),(88,2,2),(88,3,3),(88,4,4),(88,5,5),(97,0,0),(97,1,1),(97,2,2),(97,3,3),(97,4,4),(97,5,5),(97,6,6),(97,7,7),(97,8,8),(97,9,9),(103,0,0),(103,1,1),(125,0,0),(125,1,1),(125,2,2),(125,3,3),(125,4,4),(125,5,5),(137,1,1),(150,0,0),(150,1,1),(223,0,0),(226,0,0),(226,1,4)]
def Su:List (Nat × Nat):=[(24,40),(35,44),(38,4),(45,110),(53,55),(59,3),(94,150),(95,125),(113,5),(190,137),(192,59),(203,9)]
def Q4 (o:Option TypeDesc) (n:Nat):Bool:=match o with
 | some (.slice e)=>Nat.beq e n
 | _=>false
def PG (o:Option Nat) (n:Nat):Bool:=match o with
 | some m=>Nat.beq m n
 | none=>false
theorem G_ {o:Option Nat} {n:Nat} (h:PG o n=true):o=some n:=by
 cases o with
 | none=>exact absurd h (by simp [PG])
 | some m=>exact congrArg some (Nat.eq_of_beq_eq_true h)
theorem zP {k n:Nat} {Q:Nat→Nat→Bool}:∀ {l:List (Nat × Nat)},l.all (fun e=>Q e.1 e.2)=true→MK k l=some n→Q k n=true
 | [],_,h=>absurd h (by simp [MK])
 | (a,b) :: r,h,hk=>by
   rw [List.all_cons,Bool.and_eq_true] at h
   unfold MK at hk
   cases e:Nat.beq a k with
   | false=>rw [e] at hk; exact zP h.2 hk
   | true =>
     rw [e] at hk
     cases hk
     have:=Nat.eq_of_beq_eq_true e
     subst this
     exact h.1
theorem G8 {k i n:Nat} {Q:Nat→Nat→Nat→Bool}:∀ {l:List (Nat × Nat × Nat)},l.all (fun e=>Q e.1 e.2.1 e.2.2)=true→PM k i l=some n→Q k i n=true
 | [],_,h=>absurd h (by simp [PM])
 | (a,b,c) :: r,h,hk=>by
   rw [List.all_cons,Bool.and_eq_true] at h
   unfold PM at hk
   cases e:(Nat.beq a k && Nat.beq b i) with
   | false=>rw [e] at hk; exact G8 h.2 hk
   | true =>
     rw [e] at hk
     cases hk
     rw [Bool.and_eq_true] at e
     have h1:=Nat.eq_of_beq_eq_true e.1
     have h2:=Nat.eq_of_beq_eq_true e.2
     subst h1 h2
     exact h.1
theorem JI:Sr.all (fun e=>(Tryz.prog.underlying e.1).elim false fun d=>!(jF d))=true:=by kernel_rfl
theorem JL:Ss.all (fun e=>PG (jW Tryz.prog e.1) e.2)=true:=by kernel_rfl
theorem KP:Sw.all (fun e=>PG (u_ Tryz.prog e.1 e.2.1) e.2.2)=true:=by kernel_rfl
theorem Me {t:Nat} (h:MK t Sr=some 0):∃ d,Tryz.prog.underlying t=some d∧jF d=false:=by
 have h1:((Tryz.prog.underlying t).elim false fun d=>!(jF d))=true:=zP (Q:=fun a _=>(Tryz.prog.underlying a).elim false fun d=>!(jF d)) JI h
 cases e:Tryz.prog.underlying t with
 | none=>rw [e] at h1; cases h1
 | some d=>rw [e] at h1; exact ⟨d,rfl,by simpa using h1⟩
theorem Pz {t n:Nat} (h:MK t Ss=some n):jW Tryz.prog t=some n:=G_ (zP (Q:=fun a b=>PG (jW Tryz.prog a) b) JL h)
theorem Q_ {s i n:Nat} (h:PM s i Sw=some n):u_ Tryz.prog s i=some n:=G_ (G8 (Q:=fun a b c=>PG (u_ Tryz.prog a b) c) KP h)
theorem JW:Su.all (fun e=>Q4 (Tryz.prog.underlying e.1) e.2)=true:=by kernel_rfl
theorem Ot {o:Option TypeDesc} {n:Nat} (h:Q4 o n=true):o=some (.slice n):=by
 unfold Q4 at h
 split at h
 · exact congrArg (fun e=>some (TypeDesc.slice e)) (Nat.eq_of_beq_eq_true h)
 · cases h
theorem PC {t e:Nat} (h:MK t Su=some e):Tryz.prog.underlying t=some (.slice e):=Ot (zP (Q:=fun a b=>Q4 (Tryz.prog.underlying a) b) JW h)
end Go.Proofs.YthmmfhdpkddniaaGreatDoor
namespace Go.Proofs.YthmmfhdpkddniaaGreatDoor
open Go.RowKit
theorem S.rwSome {w:World} {L:List aD} {k e size n c:Nat} {p:Option Addr} {xs:List Value} (h:S w L) (hk:L[k]?=some (Rw e size p n c xs)) (hn:0<n):∃ a,p=some a:=by
 obtain ⟨a,h1,_⟩:=(h.rwReads hk).2.2 hn
 exact ⟨a,h1⟩
def mV {β:Type} (ev:β→Value) (l:List β):List Value:=l.flatMap fun x=>(ev x).cells.toList
theorem N7 {β:Type} (ev:β→Value) (a b:List β):mV ev (a++b)=mV ev a++mV ev b:=by unfold mV; rw [List.flatMap_append]
theorem vJ {β:Type} (ev:β→Value) (a:β) (b:List β):mV ev (a :: b)=(ev a).cells.toList++mV ev b:=by unfold mV; rw [List.flatMap_cons]
theorem Ei {β:Type} {ev:β→Value} {size:Nat} (hs:∀ x,(ev x).cells.size=size):∀ (l:List β) (i:Nat),(mV ev l).take (i * size)=mV ev (l.take i)
 | l,0=>by simp [mV]
 | [],i+1=>by simp [mV]
 | a :: l,i+1=>by
   rw [List.take_succ_cons,vJ,vJ,show (i+1) * size=(ev a).cells.toList.length+i * size from by rw [Array.length_toList,hs,Nat.succ_mul]; omega,List.take_length_add_append,Ei hs l i]
theorem Ej {β:Type} {ev:β→Value} {size:Nat} (hs:∀ x,(ev x).cells.size=size):∀ (l:List β) (i:Nat),(mV ev l).drop (i * size)=mV ev (l.drop i)
 | l,0=>by simp
 | [],i+1=>by simp [mV]
 | a :: l,i+1=>by
   rw [List.drop_succ_cons,vJ,show (i+1) * size=(ev a).cells.toList.length+i * size from by rw [Array.length_toList,hs,Nat.succ_mul]; omega,List.drop_length_add_append,Ej hs l i]
theorem qc {β:Type} {ev:β→Value} {size:Nat} (hs:∀ x,(ev x).cells.size=size) {l:List β} {i:Nat} (y:β) (h:i<l.length):(mV ev l).take (i * size)++(ev y).cells.toList++(mV ev l).drop (i * size+size)=mV ev (l.set i y):=by
 rw [show i * size+size=(i+1) * size from by rw [Nat.succ_mul],Ei hs,Ej hs,List.set_eq_take_append_cons_drop,if_pos h,N7,vJ,List.append_assoc]
theorem i7 {β:Type} {ev:β→Value} {size:Nat} (hs:∀ x,(ev x).cells.size=size) {l:List β} {j:Nat} {d:β} (h:j<l.length):∀ i u,((ev (l.getD j d)).cells.toList)[i]?=some u→(mV ev l)[j * size+i]?=some u:=by
 intro i u hu
 have h1:l[j]?=some (l.getD j d):=by rw [List.getD_eq_getElem?_getD,List.getElem?_eq_getElem h]; rfl
 exact Ae (f:=fun x=>(ev x).cells.toList) (size:=size) (fun a _=>by rw [Array.length_toList]; exact hs a) h1 i u hu
structure zF (P:Program) (g:Nat) (fi ca:Array Value) (X:aD) {β:Type} (ev:β→Value) (c:β→β→Int) (l:List β):Prop where
 ok:aI P g=true
 does:∀ x∈l,∀ y∈l,∀ w,S w [X]→Calls P g (fi.toList++[ev x,ev y]++ca.toList).toArray w fun e w'=>e=.returned (.int .i64 (c x y))∧S w' ([X]++[aB w (aT [X])])
theorem IB {β:Type} {d:β} {c:β→β→Int} {a j:Nat} {l:List β} (h:a<j) (hc:c (l.getD j d) (l.getD (j - 1) d)<0):i_ d c a j l=i_ d c a (j - 1) (zz d l j (j - 1)):=by
 obtain ⟨k,rfl⟩:∃ k,j=k+1:=⟨j - 1,by omega⟩
 rw [show k+1 - 1=k from rfl] at hc ⊢
 conv=>lhs; unfold i_
 rw [if_pos ⟨h,hc⟩]
theorem Dg {β:Type} {d:β} {c:β→β→Int} {a j:Nat} {l:List β} (h:¬ c (l.getD j d) (l.getD (j - 1) d)<0):i_ d c a j l=l:=by
 cases j with
 | zero=>rfl
 | succ k=>unfold i_; rw [if_neg (fun q=>h q.2)]
theorem FQ {β:Type} {d:β} {c:β→β→Int} {a j:Nat} {l:List β} (h:¬ a<j):i_ d c a j l=l:=by
 cases j with
 | zero=>rfl
 | succ k=>unfold i_; rw [if_neg (fun q=>h q.1)]
theorem zm {β:Type} {d:β} {c:β→β→Int} {a b i:Nat} {l:List β} (h:i<b):j5 d c a (b - i) i l=j5 d c a (b - (i+1)) (i+1) (i_ d c a i l):=by
 rw [show b - i=(b - (i+1))+1 from by omega]; rfl
theorem Df {β:Type} {d:β} {c:β→β→Int} {a b i:Nat} {l:List β} (h:¬ i<b):j5 d c a (b - i) i l=l:=by
 rw [show b - i=0 from by omega]; rfl
theorem Nb {β:Type} {d:β} {a b n i:Nat} {l:List β} (h:i<n):EU d a b (n - i) i l=EU d a b (n - (i+1)) (i+1) (zz d l (a+i) (b+i)):=by
 rw [show n - i=(n - (i+1))+1 from by omega]; rfl
theorem JP {β:Type} {d:β} {a b n i:Nat} {l:List β} (h:¬ i<n):EU d a b (n - i) i l=l:=by
 rw [show n - i=0 from by omega]; rfl
theorem GI {P:Nat→Bool} {n i j:Nat} (h:i<j) (hn:j - i≤n) (hp:P ((i+j) / 2)=true):pH P n i j=pH P (n - 1) ((i+j) / 2+1) j:=by
 obtain ⟨k,rfl⟩:∃ k,n=k+1:=⟨n - 1,by omega⟩
 conv=>lhs; unfold pH
 rw [if_pos h,if_pos hp]; rfl
theorem GK {P:Nat→Bool} {n i j:Nat} (h:i<j) (hn:j - i≤n) (hp:P ((i+j) / 2)=false):pH P n i j=pH P (n - 1) i ((i+j) / 2):=by
 obtain ⟨k,rfl⟩:∃ k,n=k+1:=⟨n - 1,by omega⟩
 conv=>lhs; unfold pH
 rw [if_pos h,if_neg (by rw [hp]; exact Bool.false_ne_true)]; rfl
theorem Np {β:Type} {d:β} {k e:Nat} {l:List β} (h:k<e):Dx d (e - k) k l=Dx d (e - (k+1)) (k+1) (zz d l k (k+1)):=by
 rw [show e - k=(e - (k+1))+1 from by omega]; rfl
theorem JX {β:Type} {d:β} {k e:Nat} {l:List β} (h:¬ k<e):Dx d (e - k) k l=l:=by
 rw [show e - k=0 from by omega]; rfl
theorem Nq {β:Type} {d:β} {k e:Nat} {l:List β} (h:e<k):EV d (k - e) k l=EV d (k - 1 - e) (k - 1) (zz d l k (k - 1)):=by
 rw [show k - e=(k - 1 - e)+1 from by omega]; rfl
theorem JY {β:Type} {d:β} {k e:Nat} {l:List β} (h:¬ e<k):EV d (k - e) k l=l:=by
 rw [show k - e=0 from by omega]; rfl
end Go.Proofs.YthmmfhdpkddniaaGreatDoor
