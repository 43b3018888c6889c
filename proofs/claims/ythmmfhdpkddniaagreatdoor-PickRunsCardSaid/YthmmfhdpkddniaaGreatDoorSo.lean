import Derived.Tactics
set_option linter.all false
namespace Go.Proofs.YthmmfhdpkddniaaGreatDoor
section
variable {β:Type}
def zz (d:β) (l:List β) (i j:Nat):List β:=(l.set i (l.getD j d)).set j (l.getD i d)
def i_ (d:β) (c:β→β→Int) (a:Nat):Nat→List β→List β
 | 0,l=>l
 | j+1,l=>if a<j+1∧c (l.getD (j+1) d) (l.getD j d)<0 then i_ d c a j (zz d l (j+1) j) else l
def j5 (d:β) (c:β→β→Int) (a:Nat):Nat→Nat→List β→List β
 | 0,_,l=>l
 | k+1,i,l=>j5 d c a k (i+1) (i_ d c a i l)
def kU (d:β) (c:β→β→Int) (a b:Nat) (l:List β):List β:=j5 d c a (b - (a+1)) (a+1) l
def pH (P:Nat→Bool):Nat→Nat→Nat→Nat
 | 0,i,_=>i
 | n+1,i,j=>if i<j then (if P ((i+j) / 2) then pH P n ((i+j) / 2+1) j else pH P n i ((i+j) / 2)) else i
def Dx (d:β):Nat→Nat→List β→List β
 | 0,_,l=>l
 | n+1,k,l=>Dx d n (k+1) (zz d l k (k+1))
def EV (d:β):Nat→Nat→List β→List β
 | 0,_,l=>l
 | n+1,k,l=>EV d n (k - 1) (zz d l k (k - 1))
def EU (d:β) (a b:Nat):Nat→Nat→List β→List β
 | 0,_,l=>l
 | k+1,i,l=>EU d a b k (i+1) (zz d l (a+i) (b+i))
def Ax (d:β) (a b n:Nat) (l:List β):List β:=EU d a b n 0 l
def kb (d:β) (m:Nat):Nat→Nat→Nat→List β→List β
 | 0,i,_,l=>Ax d (m - i) m i l
 | n+1,i,j,l=>if i=j then Ax d (m - i) m i l else if j<i then kb d m n (i - j) j (Ax d (m - i) m j l) else kb d m n i (j - i) (Ax d (m - i) (m+j - i) i l)
def iI (d:β) (c:β→β→Int):Nat→Nat→Nat→Nat→List β→List β
 | 0,_,_,_,l=>l
 | n+1,a,m,b,l =>
   if m - a=1 then Dx d (pH (fun h=>decide (c (l.getD h d) (l.getD a d)<0)) (b - m) m b - 1 - a) a l
   else if b - m=1 then EV d (m - pH (fun h=>!decide (c (l.getD m d) (l.getD h d)<0)) (m - a) a m) m l
   else
     let mid:=(a+b) / 2
     let s0:=if mid<m then mid+m - b else a
     let r0:=if mid<m then mid else m
     let st:=pH (fun h=>!decide (c (l.getD (mid+m - 1 - h) d) (l.getD h d)<0)) (r0 - s0) s0 r0
     let en:=mid+m - st
     let l1:=if st<m∧m<en then kb d m (en - st) (m - st) (en - m) l else l
     let l2:=if a<st∧st<mid then iI d c n a st mid l1 else l1
     if mid<en∧en<b then iI d c n mid en b l2 else l2
def mF (d:β) (c:β→β→Int) (s n:Nat):Nat→Nat→List β→List β
 | 0,a,l=>kU d c a n l
 | k+1,a,l=>if a+s≤n then mF d c s n k (a+s) (kU d c a (a+s) l) else kU d c a n l
def oa (d:β) (c:β→β→Int) (s n:Nat):Nat→Nat→List β→List β
 | 0,a,l=>if a+s<n then iI d c (n - a) a (a+s) n l else l
 | k+1,a,l=>if a+2 * s≤n then oa d c s n k (a+2 * s) (iI d c (2 * s) a (a+s) (a+2 * s) l) else if a+s<n then iI d c (n - a) a (a+s) n l else l
def mW (d:β) (c:β→β→Int) (n:Nat):Nat→Nat→List β→List β
 | 0,_,l=>l
 | k+1,s,l=>if s<n then mW d c n k (2 * s) (oa d c s n n 0 l) else l
def hU (d:β) (c:β→β→Int) (l:List β):List β:=mW d c l.length l.length 20 (mF d c 20 l.length l.length 0 l)
def Mv (a b:Nat) (l l':List β):Prop:=l'.Perm l∧∀ j,j<a∨b≤j→l'[j]?=l[j]?
theorem Mv.rfl' {a b:Nat} {l:List β}:Mv a b l l:=⟨.refl _,fun _ _=>rfl⟩
theorem Mv.trans {a b:Nat} {x y z:List β} (h:Mv a b x y) (k:Mv a b y z):Mv a b x z:=⟨k.1.trans h.1,fun j hj=>(k.2 j hj).trans (h.2 j hj)⟩
theorem Mv.wide {a b a' b':Nat} {x y:List β} (h:Mv a b x y) (ha:a'≤a) (hb:b≤b'):Mv a' b' x y:=⟨h.1,fun j hj=>h.2 j (by omega)⟩
theorem Mv.len {a b:Nat} {x y:List β} (h:Mv a b x y):y.length=x.length:=h.1.length_eq
theorem tY (d:β) (l:List β) (i j:Nat):(zz d l i j).length=l.length:=by simp [zz]
theorem Ck {d:β} {l:List β} {i j k:Nat} (hi:i<l.length) (hj:j<l.length):(zz d l i j)[k]?=if k=j then l[i]? else if k=i then l[j]? else l[k]?:=by
 unfold zz
 rw [List.getElem?_set,List.getElem?_set,List.length_set]
 simp only [List.getD_eq_getElem?_getD,List.getElem?_eq_getElem hi,List.getElem?_eq_getElem hj,Option.getD_some]
 by_cases h1:j=k
 · rw [if_pos h1,if_pos hj,if_pos h1.symm]
 · rw [if_neg h1,if_neg (show ¬ k=j from fun e=>h1 e.symm)]
   by_cases h2:i=k
   · rw [if_pos h2,if_pos hi,if_pos h2.symm]
   · rw [if_neg h2,if_neg (show ¬ k=i from fun e=>h2 e.symm)]
theorem A1 {d:β} {l:List β} {i j:Nat} (hi:i<l.length) (hj:j<l.length):(zz d l i j).Perm l:=by
 unfold zz
 simp only [List.getD_eq_getElem?_getD,List.getElem?_eq_getElem hi,List.getElem?_eq_getElem hj,Option.getD_some]
 exact List.set_set_perm hi hj
theorem zH {d:β} {l:List β} {a b i j:Nat} (hi:i<l.length) (hj:j<l.length) (hia:a≤i∧i<b) (hja:a≤j∧j<b):Mv a b l (zz d l i j):=
 ⟨A1 hi hj,fun k hk=>by rw [Ck hi hj,if_neg (by omega),if_neg (by omega)]⟩
theorem Bo {d:β} {c:β→β→Int} {a:Nat}:∀ {j:Nat} {l:List β},j<l.length→a≤j→Mv a (j+1) l (i_ d c a j l)
 | 0,l,_,_=>Mv.rfl'
 | j+1,l,h,ha=>by
   unfold i_
   split
   · have h1:Mv a (j+1+1) l (zz d l (j+1) j):=zH h (by omega) ⟨ha,by omega⟩ ⟨by omega,by omega⟩
     exact h1.trans ((Bo (by rw [tY]; omega) (by omega)).wide (Nat.le_refl _) (by omega))
   · exact Mv.rfl'
theorem zk {d:β} {c:β→β→Int} {a:Nat}:∀ {k i:Nat} {l:List β},i+k≤l.length→a≤i→Mv a (i+k) l (j5 d c a k i l)
 | 0,i,l,_,_=>Mv.rfl'
 | k+1,i,l,h,ha=>by
   unfold j5
   have h1:Mv a (i+1) l (i_ d c a i l):=Bo (by omega) ha
   exact (h1.wide (Nat.le_refl _) (by omega)).trans ((zk (by rw [h1.len]; omega) (by omega)).wide (Nat.le_refl _) (by omega))
theorem oJ {d:β} {c:β→β→Int} {a b:Nat} {l:List β} (h:b≤l.length):Mv a b l (kU d c a b l):=by
 unfold kU
 by_cases hb:a+1≤b
 · have:=zk (d:=d) (c:=c) (a:=a) (k:=b - (a+1)) (i:=a+1) (l:=l) (by omega) (by omega)
   exact this.wide (Nat.le_refl _) (by omega)
 · rw [show b - (a+1)=0 from by omega]; exact Mv.rfl'
theorem qf {P:Nat→Bool}:∀ {n i j:Nat},i≤j→j - i≤n→i≤pH P n i j∧pH P n i j≤j
 | 0,i,j,h,hn=>⟨Nat.le_refl _,h⟩
 | n+1,i,j,h,hn=>by
   unfold pH
   split
   · split
     · have:=qf (P:=P) (n:=n) (i:=(i+j) / 2+1) (j:=j) (by omega) (by omega); omega
     · have:=qf (P:=P) (n:=n) (i:=i) (j:=(i+j) / 2) (by omega) (by omega); omega
   · omega
theorem xA {P:Nat→Bool} {n i j:Nat} (h:¬ i<j):pH P n i j=i:=by
 cases n with
 | zero=>rfl
 | succ n=>unfold pH; rw [if_neg h]
theorem GV {d:β} {a b:Nat}:∀ {n k:Nat} {l:List β},b≤l.length→a≤k→k+n<b→Mv a b l (Dx d n k l)
 | 0,_,_,_,_,_=>Mv.rfl'
 | n+1,k,l,h,ha,hb=>by
   unfold Dx
   exact (zH (by omega) (by omega) ⟨ha,by omega⟩ ⟨by omega,by omega⟩).trans (GV (by rw [tY]; exact h) (by omega) (by omega))
theorem GW {d:β} {a b:Nat}:∀ {n k:Nat} {l:List β},b≤l.length→a+n≤k→k<b→Mv a b l (EV d n k l)
 | 0,_,_,_,_,_=>Mv.rfl'
 | n+1,k,l,h,ha,hb=>by
   unfold EV
   exact (zH (by omega) (by omega) ⟨by omega,by omega⟩ ⟨by omega,by omega⟩).trans (GW (by rw [tY]; exact h) (by omega) (by omega))
theorem wu {d:β} {a b p q:Nat}:∀ {n i:Nat} {l:List β},b≤l.length→a≤p→a≤q→p+i+n≤b→q+i+n≤b→Mv a b l (EU d p q n i l)
 | 0,_,_,_,_,_,_,_=>Mv.rfl'
 | n+1,i,l,h,h1,h2,h3,h4=>by
   unfold EU
   exact (zH (by omega) (by omega) ⟨by omega,by omega⟩ ⟨by omega,by omega⟩).trans (wu (by rw [tY]; exact h) h1 h2 (by omega) (by omega))
theorem t7 {d:β} {a b m:Nat}:∀ {n i j:Nat} {l:List β},b≤l.length→a+i≤m→m+j≤b→1≤i→1≤j→i+j≤n+2→Mv a b l (kb d m n i j l)
 | 0,i,j,l,h,h1,h2,h3,h4,h5=>by
   unfold kb Ax
   exact wu h (by omega) (by omega) (by omega) (by omega)
 | n+1,i,j,l,h,h1,h2,h3,h4,h5=>by
   unfold kb
   split
   · exact wu h (by omega) (by omega) (by omega) (by omega)
   · split
     · have h6:Mv a b l (Ax d (m - i) m j l):=wu h (by omega) (by omega) (by omega) (by omega)
       exact h6.trans (t7 (by rw [h6.len]; exact h) (by omega) (by omega) (by omega) (by omega) (by omega))
     · have h6:Mv a b l (Ax d (m - i) (m+j - i) i l):=wu h (by omega) (by omega) (by omega) (by omega)
       exact h6.trans (t7 (by rw [h6.len]; exact h) (by omega) (by omega) (by omega) (by omega) (by omega))
theorem jP {d:β} {c:β→β→Int}:∀ {n a m b:Nat} {l:List β},b≤l.length→a<m→m<b→b - a≤n→Mv a b l (iI d c n a m b l)
 | 0,a,m,b,l,h,h1,h2,h3=>absurd h3 (by omega)
 | n+1,a,m,b,l,h,h1,h2,h3=>by
   unfold iI
   by_cases e1:m - a=1
   · rw [if_pos e1]
     have:=qf (P:=fun h=>decide (c (l.getD h d) (l.getD a d)<0)) (n:=b - m) (i:=m) (j:=b) (by omega) (Nat.le_refl _)
     exact GV h (Nat.le_refl _) (by omega)
   · rw [if_neg e1]
     by_cases e2:b - m=1
     · rw [if_pos e2]
       have:=qf (P:=fun h=>!decide (c (l.getD m d) (l.getD h d)<0)) (n:=m - a) (i:=a) (j:=m) (by omega) (Nat.le_refl _)
       exact GW h (by omega) h2
     · rw [if_neg e2]
       dsimp only
       have hs:(if (a+b) / 2<m then (a+b) / 2+m - b else a)≤(if (a+b) / 2<m then (a+b) / 2 else m)∧a≤(if (a+b) / 2<m then (a+b) / 2+m - b else a)∧(if (a+b) / 2<m then (a+b) / 2 else m)≤m∧(if (a+b) / 2<m then (a+b) / 2 else m)≤(a+b) / 2∧(a+b) / 2+m - b≤(if (a+b) / 2<m then (a+b) / 2+m - b else a):=by
         split <;> omega
       generalize hs0:(if (a+b) / 2<m then (a+b) / 2+m - b else a)=s0 at hs
       generalize hr0:(if (a+b) / 2<m then (a+b) / 2 else m)=r0 at hs
       have hb:=qf (P:=fun h=>!decide (c (l.getD ((a+b) / 2+m - 1 - h) d) (l.getD h d)<0)) (n:=r0 - s0) (i:=s0) (j:=r0) hs.1 (Nat.le_refl _)
       generalize pH (fun h=>!decide (c (l.getD ((a+b) / 2+m - 1 - h) d) (l.getD h d)<0)) (r0 - s0) s0 r0=st at hb
       have m1:Mv a b l (if st<m∧m<(a+b) / 2+m - st then kb d m ((a+b) / 2+m - st - st) (m - st) ((a+b) / 2+m - st - m) l else l):=by
         split
         · exact t7 h (by omega) (by omega) (by omega) (by omega) (by omega)
         · exact Mv.rfl'
       generalize (if st<m∧m<(a+b) / 2+m - st then kb d m ((a+b) / 2+m - st - st) (m - st) ((a+b) / 2+m - st - m) l else l)=l1 at m1
       have m2:Mv a b l1 (if a<st∧st<(a+b) / 2 then iI d c n a st ((a+b) / 2) l1 else l1):=by
         split
         · exact (jP (by rw [m1.len]; omega) (by omega) (by omega) (by omega)).wide (Nat.le_refl _) (by omega)
         · exact Mv.rfl'
       generalize (if a<st∧st<(a+b) / 2 then iI d c n a st ((a+b) / 2) l1 else l1)=l2 at m2
       split
       · exact (m1.trans m2).trans ((jP (by rw [m2.len,m1.len]; omega) (by omega) (by omega) (by omega)).wide (by omega) (Nat.le_refl _))
       · exact m1.trans m2
theorem Eo {d:β} {c:β→β→Int} {s n:Nat}:∀ {k a:Nat} {l:List β},n≤l.length→Mv 0 n l (mF d c s n k a l)
 | 0,a,l,h=>by unfold mF; exact (oJ h).wide (by omega) (Nat.le_refl _)
 | k+1,a,l,h=>by
   unfold mF
   split
   · have h1:Mv 0 n l (kU d c a (a+s) l):=(oJ (by omega)).wide (by omega) (by omega)
     exact h1.trans (Eo (by rw [h1.len]; exact h))
   · exact (oJ h).wide (by omega) (Nat.le_refl _)
theorem DV {d:β} {c:β→β→Int} {s n:Nat} (hs:0<s):∀ {k a:Nat} {l:List β},n≤l.length→Mv 0 n l (oa d c s n k a l)
 | 0,a,l,h=>by
   unfold oa
   split
   · exact (jP h (by omega) (by omega) (Nat.le_refl _)).wide (by omega) (Nat.le_refl _)
   · exact Mv.rfl'
 | k+1,a,l,h=>by
   unfold oa
   split
   · have h1:Mv 0 n l (iI d c (2 * s) a (a+s) (a+2 * s) l):=(jP (by omega) (by omega) (by omega) (by omega)).wide (by omega) (by omega)
     exact h1.trans (DV hs (by rw [h1.len]; exact h))
   · split
     · exact (jP h (by omega) (by omega) (Nat.le_refl _)).wide (by omega) (Nat.le_refl _)
     · exact Mv.rfl'
theorem DW {d:β} {c:β→β→Int} {n:Nat}:∀ {k s:Nat} {l:List β},0<s→n≤l.length→Mv 0 n l (mW d c n k s l)
 | 0,_,_,_,_=>Mv.rfl'
 | k+1,s,l,hs,h=>by
   unfold mW
   split
   · have h1:Mv 0 n l (oa d c s n n 0 l):=DV hs h
     exact h1.trans (DW (by omega) (by rw [h1.len]; exact h))
   · exact Mv.rfl'
theorem mw (d:β) (c:β→β→Int) (l:List β):(hU d c l).Perm l:=by
 unfold hU
 have h1:Mv 0 l.length l (mF d c 20 l.length l.length 0 l):=Eo (Nat.le_refl _)
 exact (h1.trans (DW (by decide) (by rw [h1.len]; exact Nat.le_refl _))).1
theorem ux {d x:β} {U V:List β}:(U++x :: V).getD U.length d=x:=by
 rw [List.getD_eq_getElem?_getD,List.getElem?_append_right (Nat.le_refl _),Nat.sub_self]; rfl
theorem D6 {x y:β} {U V:List β}:(U++x :: V).set U.length y=U++y :: V:=by
 rw [List.set_append_right _ _ (Nat.le_refl _),Nat.sub_self]; rfl
theorem z_ {d p q:β} {U V W:List β} {i j:Nat} (hi:i=U.length) (hj:j=U.length+1+V.length):zz d (U++p :: V++q :: W) i j=U++q :: V++p :: W:=by
 subst hi
 have e1:U++p :: V++q :: W=(U++p :: V)++q :: W:=rfl
 have hj':j=(U++p :: V).length:=by simp; omega
 unfold zz
 have h1:(U++p :: V++q :: W).getD U.length d=p:=by rw [List.append_assoc,List.cons_append]; exact ux
 have h2:(U++p :: V++q :: W).getD j d=q:=by rw [hj']; exact ux
 rw [h1,h2]
 have h3:(U++p :: V++q :: W).set U.length q=U++q :: V++q :: W:=by rw [List.append_assoc,List.cons_append,D6,List.append_assoc,List.cons_append]
 rw [h3]
 have hj2:j=(U++q :: V).length:=by simp; omega
 rw [hj2,D6]
theorem A2 {d p q:β} {U V W:List β} {i j:Nat} (hi:i=U.length) (hj:j=U.length+1+V.length):zz d (U++p :: V++q :: W) j i=U++q :: V++p :: W:=by
 rw [← z_ (d:=d) (p:=p) (q:=q) (U:=U) (V:=V) (W:=W) hi hj]
 apply List.ext_getElem?
 intro k
 have li:i<(U++p :: V++q :: W).length:=by simp; omega
 have lj:j<(U++p :: V++q :: W).length:=by simp; omega
 rw [Ck lj li,Ck li lj]
 by_cases h1:k=i
 · subst h1; rw [if_pos rfl]
   by_cases h2:k=j
   · rw [if_pos h2,h2]
   · rw [if_neg h2,if_pos rfl]
 · rw [if_neg h1]
   by_cases h2:k=j
   · rw [if_pos h2,if_pos h2]
   · rw [if_neg h2,if_neg h2,if_neg h1]
theorem DZ {d:β} {X Y Z:List β} {a b:Nat}:∀ {P2 Q2 Q1 P1:List β} {n i:Nat},P2.length=n→Q2.length=n→Q1.length=i→P1.length=i→a=X.length→b=X.length+i+n+Y.length →
   EU d a b n i (X++Q1++P2++Y++P1++Q2++Z)=X++(Q1++Q2)++Y++(P1++P2)++Z
 | [],Q2,Q1,P1,n,i,h1,h2,h3,h4,ha,hb=>by
   simp at h1; subst h1; simp at h2; subst h2
   unfold EU; simp
 | p :: P2,Q2,Q1,P1,0,i,h1,h2,h3,h4,ha,hb=>by simp at h1
 | p :: P2,[],Q1,P1,n+1,i,h1,h2,h3,h4,ha,hb=>by simp at h2
 | p :: P2,q :: Q2,Q1,P1,n+1,i,h1,h2,h3,h4,ha,hb=>by
   unfold EU
   have e:X++Q1++p :: P2++Y++P1++q :: Q2++Z=(X++Q1)++p :: (P2++Y++P1)++q :: (Q2++Z):=by simp
   simp at h1 h2
   rw [e,z_ (by simp; omega) (by simp; omega)]
   have e2:(X++Q1)++q :: (P2++Y++P1)++p :: (Q2++Z)=X++(Q1++[q])++P2++Y++(P1++[p])++Q2++Z:=by simp
   rw [e2,DZ (P2:=P2) (Q2:=Q2) (Q1:=Q1++[q]) (P1:=P1++[p]) (by omega) (by omega) (by simp; omega) (by simp; omega) ha (by omega)]
   simp
theorem vC {d:β} {X P Y Q Z:List β} {a b n:Nat} (h1:P.length=n) (h2:Q.length=n) (ha:a=X.length) (hb:b=X.length+n+Y.length):Ax d a b n (X++P++Y++Q++Z)=X++Q++Y++P++Z:=by
 have:=DZ (d:=d) (X:=X) (Y:=Y) (Z:=Z) (P2:=P) (Q2:=Q) (Q1:=[]) (P1:=[]) (n:=n) (i:=0) (a:=a) (b:=b) h1 h2 rfl rfl ha (by omega)
 unfold Ax
 simpa using this
theorem wY {d:β} {m:Nat}:∀ {n i j:Nat} {X P Q Z:List β},P.length=i→Q.length=j→m=X.length+i→1≤i→1≤j→i+j≤n+2→kb d m n i j (X++P++Q++Z)=X++Q++P++Z
 | 0,i,j,X,P,Q,Z,hp,hq,hm,h3,h4,h5=>by
   unfold kb
   have:=vC (d:=d) (X:=X) (P:=P) (Y:=[]) (Q:=Q) (Z:=Z) (a:=m - i) (b:=m) (n:=i) hp (by omega) (by omega) (by simp; omega)
   simpa using this
 | n+1,i,j,X,P,Q,Z,hp,hq,hm,h3,h4,h5=>by
   unfold kb
   split
   · have:=vC (d:=d) (X:=X) (P:=P) (Y:=[]) (Q:=Q) (Z:=Z) (a:=m - i) (b:=m) (n:=i) hp (by omega) (by omega) (by simp; omega)
     simpa using this
   · split
     · have e:X++P++Q++Z=X++P.take j++P.drop j++Q++Z:=by simp [List.append_assoc]
       rw [e,vC (by simp; omega) hq (by omega) (by simp; omega)]
       have:=wY (d:=d) (m:=m) (n:=n) (i:=i - j) (j:=j) (X:=X++Q) (P:=P.drop j) (Q:=P.take j) (Z:=Z) (by simp; omega) (by simp; omega) (by simp; omega) (by omega) (by omega) (by omega)
       rw [this]; simp [List.append_assoc]
     · have e:X++P++Q++Z=X++P++Q.take (j - i)++Q.drop (j - i)++Z:=by simp [List.append_assoc]
       rw [e,vC hp (by simp; omega) (by omega) (by simp; omega)]
       have:=wY (d:=d) (m:=m) (n:=n) (i:=i) (j:=j - i) (X:=X) (P:=Q.drop (j - i)) (Q:=Q.take (j - i)) (Z:=P++Z) (by simp; omega) (by simp; omega) (by omega) (by omega) (by omega) (by omega)
       have e2:X++Q.drop (j - i)++Q.take (j - i)++P++Z=X++Q.drop (j - i)++Q.take (j - i)++(P++Z):=by simp
       rw [e2,this]; simp [List.append_assoc]
theorem D4 {d:β}:∀ {V U W:List β} {x:β} {k:Nat},k=U.length→Dx d V.length k (U++x :: V++W)=U++V++x :: W
 | [],U,W,x,k,_=>by simp [Dx]
 | v :: V,U,W,x,k,hk=>by
   show Dx d (V.length+1) k _=_
   unfold Dx
   have e:U++x :: (v :: V)++W=U++x :: []++v :: (V++W):=by simp
   rw [e,z_ hk (by simp; omega)]
   have e2:U++v :: []++x :: (V++W)=(U++[v])++x :: V++W:=by simp
   rw [e2,D4 (V:=V) (by simp; omega)]
   simp
theorem D5 {d:β}:∀ {n:Nat} {V U W:List β} {x:β} {k:Nat},n=V.length→k=U.length+V.length→EV d n k (U++V++x :: W)=U++x :: V++W
 | 0,V,U,W,x,k,hn,_=>by
   have:V=[]:=List.eq_nil_of_length_eq_zero hn.symm
   subst this; simp [EV]
 | n+1,V,U,W,x,k,hn,hk=>by
   unfold EV
   obtain ⟨V',v,rfl⟩:∃ V' v,V=V'++[v]:=⟨V.dropLast,V.getLast (by intro e; subst e; simp at hn),(List.dropLast_concat_getLast _).symm⟩
   simp at hn hk
   have e:U++(V'++[v])++x :: W=(U++V')++v :: []++x :: W:=by simp
   rw [e,A2 (i:=k - 1) (j:=k) (by simp; omega) (by simp; omega)]
   have e2:(U++V')++x :: []++v :: W=U++V'++x :: (v :: W):=by simp
   rw [e2,D5 (V:=V') (by omega) (by omega)]
   simp
theorem qy {P:Nat→Bool}:∀ {n i j:Nat},i≤j→j - i≤n→(∀ x y,i≤x→x≤y→y<j→P y=true→P x=true) →
   (∀ x,i≤x→x<pH P n i j→P x=true)∧(∀ x,pH P n i j≤x→x<j→P x=false)
 | 0,i,j,h,hn,hm=>⟨fun x h1 h2=>absurd h2 (by unfold pH; omega),fun x h1 h2=>absurd h1 (by unfold pH; omega)⟩
 | n+1,i,j,h,hn,hm=>by
   unfold pH
   split
   · rename_i hij
     have hmid:i≤(i+j) / 2∧(i+j) / 2<j:=by omega
     split
     · rename_i hp
       have ih:=qy (P:=P) (n:=n) (i:=(i+j) / 2+1) (j:=j) (by omega) (by omega) (fun x y h1 h2 h3=>hm x y (by omega) h2 h3)
       refine ⟨fun x h1 h2=>?_,ih.2⟩
       by_cases hx:x≤(i+j) / 2
       · exact hm x _ h1 hx hmid.2 hp
       exact ih.1 x (by omega) h2
     rename_i hp
     have ih:=qy (P:=P) (n:=n) (i:=i) (j:=(i+j) / 2) (by omega) (by omega) (fun x y h1 h2 h3=>hm x y h1 h2 (by omega))
     refine ⟨ih.1,fun x h1 h2=>?_⟩
     by_cases hx:x<(i+j) / 2
     · exact ih.2 x h1 hx
     cases hpx:P x with
     | false=>rfl
     | true=>exact absurd (hm _ x hmid.1 (by omega) h2 hpx) hp
   exact ⟨fun x h1 h2=>absurd h2 (by omega),fun x h1 h2=>absurd h1 (by omega)⟩
structure tz (R:β→β→Prop) (tag:β→Nat) (c:β→β→Int) (l:List β):Prop where
 tr:∀ x y z,x∈l→y∈l→z∈l→R x y→R y z→R x z
 ir:∀ x,x∈l→¬ R x x
 tot:∀ x y,x∈l→y∈l→tag x<tag y→¬ R y x→R x y
 as:∀ x y,x∈l→y∈l→tag x<tag y→(c y x<0 ↔ R y x)
theorem tz.sub {R:β→β→Prop} {tag:β→Nat} {c:β→β→Int} {l l':List β} (h:tz R tag c l) (hs:∀ x∈l',x∈l):tz R tag c l':=
 ⟨fun x y z a b e=>h.tr x y z (hs x a) (hs y b) (hs z e),fun x a=>h.ir x (hs x a),fun x y a b=>h.tot x y (hs x a) (hs y b),fun x y a b=>h.as x y (hs x a) (hs y b)⟩
theorem zn {d:β} {c:β→β→Int} {R:β→β→Prop} {tag:β→Nat} {A B:List β} {x:β}:∀ {n:Nat} {S T:List β} {j a:Nat},n=S.length→a=A.length→j=A.length+S.length→tz R tag c (S++x :: T)→S.Pairwise R→(∀ y∈S,tag y<tag x)→(∀ y∈T,R x y)→(∀ y∈S,∀ z∈T,R y z)→T.Pairwise R →
   ∃ M,i_ d c a j (A++S++x :: T++B)=A++M++B∧M.Perm (S++x :: T)∧M.Pairwise R
 | 0,S,T,j,a,hn,ha,hj,hO,hS,ht,hT,hST,hTT=>by
   have:S=[]:=List.eq_nil_of_length_eq_zero hn.symm
   subst this
   refine ⟨x :: T,?_,by simp,List.pairwise_cons.2 ⟨hT,hTT⟩⟩
   cases j with
   | zero=>simp [i_]
   | succ j=>unfold i_; rw [if_neg (fun e=>by simp at hj; omega)]; simp
 | n+1,S,T,j,a,hn,ha,hj,hO,hS,ht,hT,hST,hTT=>by
   obtain ⟨S',s,rfl⟩:∃ V' v,S=V'++[v]:=⟨S.dropLast,S.getLast (by intro e; subst e; simp at hn),(List.dropLast_concat_getLast _).symm⟩
   have hl:(S'++[s]).length=S'.length+1:=by simp
   obtain ⟨j',rfl⟩:∃ j',j=j'+1:=⟨j - 1,by omega⟩
   unfold i_
   have e1:A++(S'++[s])++x :: T++B=(A++S'++[s])++x :: (T++B):=by simp
   have e2:A++(S'++[s])++x :: T++B=(A++S')++s :: (x :: T++B):=by simp
   have g1:(A++(S'++[s])++x :: T++B).getD (j'+1) d=x:=by rw [e1,show j'+1=(A++S'++[s]).length from by simp; omega]; exact ux
   have g2:(A++(S'++[s])++x :: T++B).getD j' d=s:=by rw [e2,show j'=(A++S').length from by simp; omega]; exact ux
   rw [g1,g2]
   have ms:s∈(S'++[s])++x :: T:=by simp
   have mx:x∈(S'++[s])++x :: T:=by simp
   have hsx:=ht s (by simp)
   have hSp:=List.pairwise_append.1 hS
   by_cases hc:c x s<0
   · have hR:=(hO.as s x ms mx hsx).1 hc
     rw [if_pos ⟨by omega,hc⟩]
     have e3:A++(S'++[s])++x :: T++B=(A++S')++s :: []++x :: (T++B):=by simp
     rw [e3,A2 (i:=j') (j:=j'+1) (by simp; omega) (by simp; omega)]
     have e4:(A++S')++x :: []++s :: (T++B)=A++S'++x :: (s :: T)++B:=by simp
     rw [e4]
     obtain ⟨M,h1,h2,h3⟩:=zn (d:=d) (c:=c) (R:=R) (tag:=tag) (A:=A) (B:=B) (x:=x) (n:=n) (S:=S') (T:=s :: T) (j:=j') (a:=a) (by omega) ha (by omega)
       (hO.sub (fun y hy=>by simp at hy ⊢; rcases hy with h | h | h | h <;> simp [h])) hSp.1 (fun y hy=>ht y (by simp [hy]))
       (fun y hy=>by rcases List.mem_cons.1 hy with rfl | hy; exact hR; exact hT y hy)
       (fun y hy z hz=>by
         rcases List.mem_cons.1 hz with rfl | hz
         · exact hSp.2.2 y hy z (by simp)
         · exact hST y (by simp [hy]) z hz)
       (List.pairwise_cons.2 ⟨fun z hz=>hST s (by simp) z hz,hTT⟩)
     refine ⟨M,h1,h2.trans ?_,h3⟩
     have:(S'++x :: s :: T).Perm (S'++s :: x :: T):=(List.Perm.swap ..).append_left _
     simpa using this
   rw [if_neg (fun h=>hc h.2)]
   have hR:R s x:=hO.tot s x ms mx hsx (fun h=>hc ((hO.as s x ms mx hsx).2 h))
   refine ⟨(S'++[s])++x :: T,by simp,.refl _,List.pairwise_append.2 ⟨hS,List.pairwise_cons.2 ⟨hT,hTT⟩,fun y hy z hz=>?_⟩⟩
   rcases List.mem_cons.1 hz with rfl | hz
   · rcases List.mem_append.1 hy with h | h
     · exact hO.tr y s z (by simp [h]) ms mx (hSp.2.2 y h s (by simp)) hR
     rw [List.mem_singleton] at h; subst h; exact hR
   exact hST y hy z hz
theorem yc {d:β} {c:β→β→Int} {R:β→β→Prop} {tag:β→Nat} {A B:List β}:∀ {T S:List β} {i a:Nat},a=A.length→i=A.length+S.length→tz R tag c (S++T)→S.Pairwise R→(∀ y∈S,∀ z∈T,tag y<tag z)→T.Pairwise (fun y z=>tag y<tag z) →
   ∃ M,j5 d c a T.length i (A++S++T++B)=A++M++B∧M.Perm (S++T)∧M.Pairwise R
 | [],S,i,a,ha,hi,hO,hS,_,_=>⟨S,by simp [j5],by simp,hS⟩
 | x :: T,S,i,a,ha,hi,hO,hS,ht,hT=>by
   show ∃ M,j5 d c a (T.length+1) i _=_∧_
   unfold j5
   have hTp:=List.pairwise_cons.1 hT
   obtain ⟨M,h1,h2,h3⟩:=zn (d:=d) (c:=c) (R:=R) (tag:=tag) (A:=A) (B:=T++B) (x:=x) (S:=S) (T:=[]) (j:=i) (a:=a) rfl ha hi
     (hO.sub (fun y hy=>by simp at hy ⊢; rcases hy with h | h <;> simp [h])) hS (fun y hy=>ht y hy x (by simp)) (fun y hy=>by cases hy) (fun y _ z hz=>by cases hz) .nil
   have e:A++S++x :: T++B=A++S++x :: []++(T++B):=by simp
   rw [e,h1]
   have e2:A++M++(T++B)=A++M++T++B:=by simp
   rw [e2]
   have hm:∀ y,y∈M ↔ y∈S∨y=x:=fun y=>by rw [h2.mem_iff]; simp
   obtain ⟨M',k1,k2,k3⟩:=yc (d:=d) (c:=c) (R:=R) (tag:=tag) (A:=A) (B:=B) (T:=T) (S:=M) (i:=i+1) (a:=a) ha (by rw [h2.length_eq]; simp; omega)
     (hO.sub (fun y hy=>by
       rcases List.mem_append.1 hy with h | h
       · rcases (hm y).1 h with h | h <;> simp [h]
       · simp [h])) h3 (fun y hy z hz=>by
       rcases (hm y).1 hy with h | h
       · exact ht y h z (by simp [hz])
       · subst h; exact hTp.1 z hz) hTp.2
   refine ⟨M',k1,k2.trans ?_,k3⟩
   have:(M++T).Perm ((S++[x])++T):=h2.append_right T
   simpa using this
theorem nq {d:β} {c:β→β→Int} {R:β→β→Prop} {tag:β→Nat} {A T B:List β} {a b:Nat} (ha:a=A.length) (hb:b=A.length+T.length) (hO:tz R tag c T) (hT:T.Pairwise (fun y z=>tag y<tag z)) :
   ∃ M,kU d c a b (A++T++B)=A++M++B∧M.Perm T∧M.Pairwise R:=by
 unfold kU
 cases T with
 | nil => 
   rw [show b - (a+1)=0 from by simp at hb; omega]
   exact ⟨[],by simp [j5],.refl _,.nil⟩
 | cons x T =>
   have hTp:=List.pairwise_cons.1 hT
   obtain ⟨M,h1,h2,h3⟩:=yc (d:=d) (c:=c) (R:=R) (tag:=tag) (A:=A) (B:=B) (T:=T) (S:=[x]) (i:=a+1) (a:=a) ha (by simp; omega) hO (List.pairwise_singleton _ _) (fun y hy z hz=>by rw [List.mem_singleton] at hy; subst hy; exact hTp.1 z hz) hTp.2
   refine ⟨M,?_,h2,h3⟩
   rw [show b - (a+1)=T.length from by simp at hb; omega]
   have e:A++x :: T++B=A++[x]++T++B:=by simp
   rw [e]; exact h1
theorem pj {R:β→β→Prop} {l:List β} (h:l.Pairwise R) {d:β} {i j:Nat} (hij:i<j) (hj:j<l.length):R (l.getD i d) (l.getD j d):=by
 rw [List.getD_eq_getElem?_getD,List.getD_eq_getElem?_getD,List.getElem?_eq_getElem (by omega),List.getElem?_eq_getElem hj]
 exact List.pairwise_iff_getElem.1 h i j (by omega) hj hij
theorem Bs {d:β} {A L B:List β} {i k:Nat} (hk:k=A.length+i) (hi:i<L.length):(A++L++B).getD k d=L.getD i d:=by
 subst hk
 rw [List.getD_eq_getElem?_getD,List.getD_eq_getElem?_getD,List.append_assoc,List.getElem?_append_right (by omega),List.getElem?_append_left (by omega),show A.length+i - A.length=i from by omega]
theorem gu {d:β} {l:List β} {i:Nat} (h:i<l.length):l.getD i d∈l:=by
 rw [List.getD_eq_getElem?_getD,List.getElem?_eq_getElem h]; exact List.getElem_mem h
theorem qS {d x:β} {l:List β} {k:Nat} (h:x∈l.take k):∃ i,i<k∧i<l.length∧l.getD i d=x:=by
 obtain ⟨i,hi,e⟩:=List.getElem_of_mem h
 rw [List.length_take] at hi
 rw [List.getElem_take] at e
 exact ⟨i,by omega,by omega,by rw [List.getD_eq_getElem?_getD,List.getElem?_eq_getElem (by omega)]; exact e⟩
theorem lr {d x:β} {l:List β} {k:Nat} (h:x∈l.drop k):∃ i,k≤i∧i<l.length∧l.getD i d=x:=by
 obtain ⟨i,hi,e⟩:=List.getElem_of_mem h
 rw [List.length_drop] at hi
 rw [List.getElem_drop] at e
 exact ⟨k+i,by omega,by omega,by rw [List.getD_eq_getElem?_getD,List.getElem?_eq_getElem (by omega)]; exact e⟩
theorem qj {d:β} {c:β→β→Int} {R:β→β→Prop} {tag:β→Nat}:∀ {n:Nat} {A L K B:List β} {a m b:Nat},a=A.length→m=A.length+L.length→b=A.length+L.length+K.length→1≤L.length→1≤K.length→L.length+K.length≤n →
   tz R tag c (L++K)→L.Pairwise R→K.Pairwise R→(∀ y∈L,∀ z∈K,tag y<tag z)→∃ M,iI d c n a m b (A++L++K++B)=A++M++B∧M.Perm (L++K)∧M.Pairwise R
 | 0,A,L,K,B,a,m,b,ha,hm,hb,hL,hK,hn,hO,hLs,hKs,ht=>absurd hn (by omega)
 | n+1,A,L,K,B,a,m,b,ha,hm,hb,hL,hK,hn,hO,hLs,hKs,ht=>by
   have e0:A++L++K++B=A++L++(K++B):=by simp
   have e1:A++L++K++B=(A++L)++K++B:=rfl
   have gL:∀ i,i<L.length→(A++L++K++B).getD (A.length+i) d=L.getD i d:=fun i hi=>by rw [e0]; exact Bs rfl hi
   have gK:∀ i,i<K.length→(A++L++K++B).getD (A.length+L.length+i) d=K.getD i d:=fun i hi=>by rw [e1]; exact Bs (by simp) hi
   have hLm:∀ i,i<L.length→L.getD i d∈L++K:=fun i hi=>List.mem_append_left _ (gu hi)
   have hKm:∀ i,i<K.length→K.getD i d∈L++K:=fun i hi=>List.mem_append_right _ (gu hi)
   have hc:∀ i j,i<L.length→j<K.length→(c (K.getD j d) (L.getD i d)<0 ↔ R (K.getD j d) (L.getD i d)):=fun i j hi hj=>hO.as _ _ (hLm i hi) (hKm j hj) (ht _ (gu hi) _ (gu hj))
   have hto:∀ i j,i<L.length→j<K.length→¬ R (K.getD j d) (L.getD i d)→R (L.getD i d) (K.getD j d):=fun i j hi hj=>hO.tot _ _ (hLm i hi) (hKm j hj) (ht _ (gu hi) _ (gu hj))
   unfold iI
   by_cases c1:m - a=1
   · rw [if_pos c1]
     obtain ⟨x,rfl⟩:∃ x,L=[x]:=List.length_eq_one_iff.1 (by omega)
     have hP:∀ i,i<K.length→(decide (c ((A++[x]++K++B).getD (m+i) d) ((A++[x]++K++B).getD a d)<0)=true ↔ R (K.getD i d) x):=fun i hi=>by
       rw [decide_eq_true_iff,show m+i=A.length+[x].length+i from by omega,gK i hi,show a=A.length+0 from ha,gL 0 (by simp)]
       exact hc 0 i (by simp) hi
     have hb':b - m=K.length:=by omega
     have sp:=qy (P:=fun h=>decide (c ((A++[x]++K++B).getD h d) ((A++[x]++K++B).getD a d)<0)) (n:=b - m) (i:=m) (j:=b) (by omega) (Nat.le_refl _) (fun u v h1 h2 h3 h4=>by
       by_cases huv:u=v
       · subst huv; exact h4
       · have h5:=(hP (v - m) (by omega)).1 (by rw [show m+(v - m)=v from by omega]; exact h4)
         have:=(hP (u - m) (by omega)).2 (hO.tr _ _ _ (hKm _ (by omega)) (hKm _ (by omega)) (by simp) (pj hKs (by omega) (by omega)) h5)
         rw [show m+(u - m)=u from by omega] at this; exact this)
     have inn:=qf (P:=fun h=>decide (c ((A++[x]++K++B).getD h d) ((A++[x]++K++B).getD a d)<0)) (n:=b - m) (i:=m) (j:=b) (by omega) (Nat.le_refl _)
     generalize pH (fun h=>decide (c ((A++[x]++K++B).getD h d) ((A++[x]++K++B).getD a d)<0)) (b - m) m b=st at sp inn
     have hst:st - 1 - a=(K.take (st - m)).length:=by rw [List.length_take]; simp at hm; omega
     have e2:A++[x]++K++B=A++x :: (K.take (st - m))++(K.drop (st - m)++B):=by
       conv=>lhs; rw [← List.take_append_drop (st - m) K]
       simp only [List.append_assoc,List.cons_append,List.nil_append]
     rw [hst,e2,D4 ha]
     refine ⟨K.take (st - m)++x :: K.drop (st - m),by simp,?_,?_⟩
     · have:=(List.perm_middle (a:=x) (l₁:=K.take (st - m)) (l₂:=K.drop (st - m)))
       rw [List.take_append_drop] at this; exact this
     rw [List.pairwise_append,List.pairwise_cons]
     refine ⟨hKs.sublist (List.take_sublist ..),⟨fun z hz=>?_,hKs.sublist (List.drop_sublist ..)⟩,fun y hy z hz=>?_⟩
     · obtain ⟨i,h1,h2,rfl⟩:=lr (d:=d) hz
       refine hto 0 i (by simp) h2 (fun h=>?_)
       have:=sp.2 (m+i) (by omega) (by omega)
       rw [(hP i h2).2 h] at this; cases this
     obtain ⟨i,h1,h2,rfl⟩:=qS (d:=d) hy
     have hR:R (K.getD i d) x:=(hP i h2).1 (sp.1 (m+i) (by omega) (by omega))
     rcases List.mem_cons.1 hz with rfl | hz
     · exact hR
     obtain ⟨j,h3,h4,rfl⟩:=lr (d:=d) hz
     exact pj hKs (by omega) h4
   rw [if_neg c1]
   by_cases c2:b - m=1
   · rw [if_pos c2]
     obtain ⟨x,rfl⟩:∃ x,K=[x]:=List.length_eq_one_iff.1 (by omega)
     have hP:∀ i,i<L.length→((!decide (c ((A++L++[x]++B).getD m d) ((A++L++[x]++B).getD (a+i) d)<0))=true ↔ ¬ R x (L.getD i d)):=fun i hi=>by
       rw [Bool.not_eq_true',decide_eq_false_iff_not,show m=A.length+L.length+0 from hm,gK 0 (by simp),show a+i=A.length+i from by omega,gL i hi]
       exact not_congr (hc i 0 hi (by simp))
     have sp:=qy (P:=fun h=>!decide (c ((A++L++[x]++B).getD m d) ((A++L++[x]++B).getD h d)<0)) (n:=m - a) (i:=a) (j:=m) (by omega) (Nat.le_refl _) (fun u v h1 h2 h3 h4=>by
       by_cases huv:u=v
       · subst huv; exact h4
       · have h5:=(hP (v - a) (by omega)).1 (by rw [show a+(v - a)=v from by omega]; exact h4)
         have:=(hP (u - a) (by omega)).2 (fun h6=>h5 (hO.tr _ _ _ (by simp) (hLm _ (by omega)) (hLm _ (by omega)) h6 (pj hLs (by omega) (by omega))))
         rw [show a+(u - a)=u from by omega] at this; exact this)
     have inn:=qf (P:=fun h=>!decide (c ((A++L++[x]++B).getD m d) ((A++L++[x]++B).getD h d)<0)) (n:=m - a) (i:=a) (j:=m) (by omega) (Nat.le_refl _)
     generalize pH (fun h=>!decide (c ((A++L++[x]++B).getD m d) ((A++L++[x]++B).getD h d)<0)) (m - a) a m=st at sp inn
     have e2:A++L++[x]++B=(A++L.take (st - a))++L.drop (st - a)++x :: B:=by simp [List.append_assoc]
     rw [e2,D5 (by rw [List.length_drop]; omega) (by simp; omega)]
     refine ⟨L.take (st - a)++x :: L.drop (st - a),by simp,?_,?_⟩
     · have:=(List.perm_middle (a:=x) (l₁:=L.take (st - a)) (l₂:=L.drop (st - a)))
       rw [List.take_append_drop] at this
       exact this.trans (by simpa using (List.perm_append_comm (l₁:=[x]) (l₂:=L)))
     rw [List.pairwise_append,List.pairwise_cons]
     have hx:∀ j,st - a≤j→j<L.length→R x (L.getD j d):=fun j h1 h2=>by
       have:=sp.2 (a+j) (by omega) (by omega)
       exact Classical.byContradiction fun h=>by rw [(hP j h2).2 h] at this; cases this
     refine ⟨hLs.sublist (List.take_sublist ..),⟨fun z hz=>?_,hLs.sublist (List.drop_sublist ..)⟩,fun y hy z hz=>?_⟩
     · obtain ⟨i,h1,h2,rfl⟩:=lr (d:=d) hz
       exact hx i h1 h2
     obtain ⟨i,h1,h2,rfl⟩:=qS (d:=d) hy
     rcases List.mem_cons.1 hz with rfl | hz
     · exact hto i 0 h2 (by simp) ((hP i h2).1 (sp.1 (a+i) (by omega) (by omega)))
     obtain ⟨j,h3,h4,rfl⟩:=lr (d:=d) hz
     exact pj hLs (by omega) h4
   rw [if_neg c2]
   dsimp only
   have hs:(if (a+b) / 2<m then (a+b) / 2+m - b else a)≤(if (a+b) / 2<m then (a+b) / 2 else m)∧a≤(if (a+b) / 2<m then (a+b) / 2+m - b else a)∧(if (a+b) / 2<m then (a+b) / 2 else m)≤m∧(if (a+b) / 2<m then (a+b) / 2 else m)≤(a+b) / 2∧(a+b) / 2+m - b≤(if (a+b) / 2<m then (a+b) / 2+m - b else a)
       ∧ ((if (a+b) / 2<m then (a+b) / 2+m - b else a)=a∨(if (a+b) / 2<m then (a+b) / 2+m - b else a)=(a+b) / 2+m - b∧b≤(a+b) / 2+m)∧((if (a+b) / 2<m then (a+b) / 2 else m)=m∨(if (a+b) / 2<m then (a+b) / 2 else m)=(a+b) / 2):=by
     split <;> omega
   generalize hs0:(if (a+b) / 2<m then (a+b) / 2+m - b else a)=s0 at hs
   generalize hr0:(if (a+b) / 2<m then (a+b) / 2 else m)=r0 at hs
   obtain ⟨hs1,hs2,hs3,hs4,hs5,hs6,hs7⟩:=hs
   have hP:∀ h,s0≤h→h<r0→((!decide (c ((A++L++K++B).getD ((a+b) / 2+m - 1 - h) d) ((A++L++K++B).getD h d)<0))=true ↔ ¬ R (K.getD ((a+b) / 2 - 1 - h) d) (L.getD (h - a) d)):=fun h h1 h2=>by
     rw [Bool.not_eq_true',decide_eq_false_iff_not,show (a+b) / 2+m - 1 - h=A.length+L.length+((a+b) / 2 - 1 - h) from by omega,gK _ (by omega)]
     have e9:=gL (h - a) (by omega)
     rw [show A.length+(h - a)=h from by omega] at e9
     rw [e9]
     exact not_congr (hc _ _ (by omega) (by omega))
   have sp:=qy (P:=fun h=>!decide (c ((A++L++K++B).getD ((a+b) / 2+m - 1 - h) d) ((A++L++K++B).getD h d)<0)) (n:=r0 - s0) (i:=s0) (j:=r0) hs1 (Nat.le_refl _) (fun u v h1 h2 h3 h4=>by
     by_cases huv:u=v
     · subst huv; exact h4
     · have h5:=(hP v (by omega) h3).1 h4
       refine (hP u h1 (by omega)).2 (fun h6=>h5 ?_)
       have k1:R (K.getD ((a+b) / 2 - 1 - v) d) (K.getD ((a+b) / 2 - 1 - u) d):=pj hKs (by omega) (by omega)
       have k2:R (L.getD (u - a) d) (L.getD (v - a) d):=pj hLs (by omega) (by omega)
       exact hO.tr _ _ _ (hKm _ (by omega)) (hKm _ (by omega)) (hLm _ (by omega)) k1 (hO.tr _ _ _ (hKm _ (by omega)) (hLm _ (by omega)) (hLm _ (by omega)) h6 k2))
   have inn:=qf (P:=fun h=>!decide (c ((A++L++K++B).getD ((a+b) / 2+m - 1 - h) d) ((A++L++K++B).getD h d)<0)) (n:=r0 - s0) (i:=s0) (j:=r0) hs1 (Nat.le_refl _)
   generalize pH (fun h=>!decide (c ((A++L++K++B).getD ((a+b) / 2+m - 1 - h) d) ((A++L++K++B).getD h d)<0)) (r0 - s0) s0 r0=st at sp inn
   generalize hen:(a+b) / 2+m - st=en
   -- the four parts
   have hen1:m≤en∧en≤b:=by omega
   obtain ⟨L1,hL1⟩:∃ L1,L1=L.take (st - a):=⟨_,rfl⟩
   obtain ⟨L2,hL2⟩:∃ L2,L2=L.drop (st - a):=⟨_,rfl⟩
   obtain ⟨K1,hK1⟩:∃ K1,K1=K.take (en - m):=⟨_,rfl⟩
   obtain ⟨K2,hK2⟩:∃ K2,K2=K.drop (en - m):=⟨_,rfl⟩
   have eL:L=L1++L2:=by rw [hL1,hL2,List.take_append_drop]
   have eK:K=K1++K2:=by rw [hK1,hK2,List.take_append_drop]
   have lL1:L1.length=st - a:=by rw [hL1,List.length_take]; omega
   have lL2:L2.length=m - st:=by rw [hL2,List.length_drop]; omega
   have lK1:K1.length=en - m:=by rw [hK1,List.length_take]; omega
   have lK2:K2.length=b - en:=by rw [hK2,List.length_drop]; omega
   have rot:(if st<m∧m<en then kb d m (en - st) (m - st) (en - m) (A++L++K++B) else A++L++K++B)=A++L1++K1++(L2++K2++B):=by
     have e5:A++L++K++B=(A++L1)++L2++K1++(K2++B):=by rw [eL,eK]; simp [List.append_assoc]
     rw [e5]
     split
     · rw [wY (by omega) (by omega) (by simp; omega) (by omega) (by omega) (by omega)]
       simp [List.append_assoc]
     · rename_i hne
       by_cases h2:st<m
       · have:K1=[]:=List.eq_nil_of_length_eq_zero (by omega)
         subst this; simp [List.append_assoc]
       have:L2=[]:=List.eq_nil_of_length_eq_zero (by omega)
       subst this; simp [List.append_assoc]
   rw [rot]
   -- all of the left are before all of the right
   have x1:∀ y∈L1,∀ z∈K2,R y z:=fun y hy z hz=>by
     rw [hL1] at hy; rw [hK2] at hz
     obtain ⟨i,h1,h2,rfl⟩:=qS (d:=d) hy
     obtain ⟨j,h3,h4,rfl⟩:=lr (d:=d) hz
     rcases hs6 with h | ⟨h,_⟩
     · have h5:=(hP (st - 1) (by omega) (by omega)).1 (sp.1 (st - 1) (by omega) (by omega))
       rw [show (a+b) / 2 - 1 - (st - 1)=en - m from by omega] at h5
       have h6:=hto (st - 1 - a) (en - m) (by omega) (by omega) h5
       have h7:R (L.getD i d) (K.getD (en - m) d):=by
         by_cases hh:i=st - 1 - a
         · rw [hh]; exact h6
         · exact hO.tr _ _ _ (hLm _ h2) (hLm _ (by omega)) (hKm _ (by omega)) (pj hLs (by omega) (by omega)) h6
       by_cases hh:j=en - m
       · rw [hh]; exact h7
       exact hO.tr _ _ _ (hLm _ h2) (hKm _ (by omega)) (hKm _ h4) h7 (pj hKs (by omega) h4)
     · by_cases hs9:st=s0
       · omega
       have h5:=(hP (st - 1) (by omega) (by omega)).1 (sp.1 (st - 1) (by omega) (by omega))
       rw [show (a+b) / 2 - 1 - (st - 1)=en - m from by omega] at h5
       have h6:=hto (st - 1 - a) (en - m) (by omega) (by omega) h5
       have h7:R (L.getD i d) (K.getD (en - m) d):=by
         by_cases hh:i=st - 1 - a
         · rw [hh]; exact h6
         · exact hO.tr _ _ _ (hLm _ h2) (hLm _ (by omega)) (hKm _ (by omega)) (pj hLs (by omega) (by omega)) h6
       by_cases hh:j=en - m
       · rw [hh]; exact h7
       exact hO.tr _ _ _ (hLm _ h2) (hKm _ (by omega)) (hKm _ h4) h7 (pj hKs (by omega) h4)
   have x2:∀ y∈K1,∀ z∈L2,R y z:=fun y hy z hz=>by
     rw [hK1] at hy; rw [hL2] at hz
     obtain ⟨i,h1,h2,rfl⟩:=qS (d:=d) hy
     obtain ⟨j,h3,h4,rfl⟩:=lr (d:=d) hz
     have hr9:st<r0:=by rcases hs7 with h | h <;> omega
     have h5:R (K.getD ((a+b) / 2 - 1 - st) d) (L.getD (st - a) d):=Classical.byContradiction fun h=>by
       have:=sp.2 st (Nat.le_refl _) hr9
       rw [(hP st (by omega) hr9).2 h] at this; cases this
     rw [show (a+b) / 2 - 1 - st=en - m - 1 from by omega] at h5
     have h7:R (K.getD i d) (L.getD (st - a) d):=by
       by_cases hh:i=en - m - 1
       · rw [hh]; exact h5
       · exact hO.tr _ _ _ (hKm _ h2) (hKm _ (by omega)) (hLm _ (by omega)) (pj hKs (by omega) (by omega)) h5
     by_cases hh:j=st - a
     · rw [hh]; exact h7
     · exact hO.tr _ _ _ (hKm _ h2) (hLm _ (by omega)) (hLm _ h4) h7 (pj hLs (by omega) h4)
   have pL:(L1++L2).Pairwise R:=eL ▸ hLs
   have pK:(K1++K2).Pairwise R:=eK ▸ hKs
   have qL:=List.pairwise_append.1 pL
   have qK:=List.pairwise_append.1 pK
   have mL1:∀ y∈L1,y∈L:=fun y hy=>by rw [eL]; exact List.mem_append_left _ hy
   have mL2:∀ y∈L2,y∈L:=fun y hy=>by rw [eL]; exact List.mem_append_right _ hy
   have mK1:∀ y∈K1,y∈K:=fun y hy=>by rw [eK]; exact List.mem_append_left _ hy
   have mK2:∀ y∈K2,y∈K:=fun y hy=>by rw [eK]; exact List.mem_append_right _ hy
   have s1:∃ M,(if a<st∧st<(a+b) / 2 then iI d c n a st ((a+b) / 2) (A++L1++K1++(L2++K2++B)) else A++L1++K1++(L2++K2++B))=A++M++(L2++K2++B)∧M.Perm (L1++K1)∧M.Pairwise R:=by
     split
     · exact qj (R:=R) (tag:=tag) ha (by omega) (by omega) (by omega) (by omega) (by omega) (hO.sub (fun y hy=>by
         rcases List.mem_append.1 hy with h | h
         · exact List.mem_append_left _ (mL1 y h)
         exact List.mem_append_right _ (mK1 y h))) qL.1 qK.1 (fun y hy z hz=>ht y (mL1 y hy) z (mK1 z hz))
     · rename_i hne
       refine ⟨L1++K1,by simp,.refl _,?_⟩
       by_cases h2:a<st
       · have:K1=[]:=List.eq_nil_of_length_eq_zero (by omega)
         subst this; simpa using qL.1
       have:L1=[]:=List.eq_nil_of_length_eq_zero (by omega)
       subst this; simpa using qK.1
   obtain ⟨M1,f1,f2,f3⟩:=s1
   rw [f1]
   have lM1:M1.length=L1.length+K1.length:=by rw [f2.length_eq,List.length_append]
   have s2:∃ M,(if (a+b) / 2<en∧en<b then iI d c n ((a+b) / 2) en b (A++M1++(L2++K2++B)) else A++M1++(L2++K2++B))=(A++M1)++M++B∧M.Perm (L2++K2)∧M.Pairwise R:=by
     have e7:A++M1++(L2++K2++B)=(A++M1)++L2++K2++B:=by simp [List.append_assoc]
     rw [e7]
     split
     · exact qj (R:=R) (tag:=tag) (by simp; omega) (by simp; omega) (by simp; omega) (by omega) (by omega) (by omega) (hO.sub (fun y hy=>by
         rcases List.mem_append.1 hy with h | h
         · exact List.mem_append_left _ (mL2 y h)
         exact List.mem_append_right _ (mK2 y h))) qL.2.1 qK.2.1 (fun y hy z hz=>ht y (mL2 y hy) z (mK2 z hz))
     · rename_i hne
       refine ⟨L2++K2,by simp [List.append_assoc],.refl _,?_⟩
       by_cases h2:(a+b) / 2<en
       · have:K2=[]:=List.eq_nil_of_length_eq_zero (by omega)
         subst this; simpa using qL.2.1
       have:L2=[]:=List.eq_nil_of_length_eq_zero (by omega)
       subst this; simpa using qK.2.1
   obtain ⟨M2,g1,g2,g3⟩:=s2
   rw [g1]
   refine ⟨M1++M2,by simp [List.append_assoc],?_,List.pairwise_append.2 ⟨f3,g3,fun y hy z hz=>?_⟩⟩
   · have h1:(M1++M2).Perm ((L1++K1)++(L2++K2)):=f2.append g2
     refine h1.trans ?_
     rw [eL,eK]
     have:(K1++(L2++K2)).Perm (L2++(K1++K2)):=by
       rw [← List.append_assoc,← List.append_assoc]
       exact List.perm_append_comm.append_right _
     simpa [List.append_assoc] using this.append_left L1
   rcases List.mem_append.1 (f2.mem_iff.1 hy) with h | h <;> rcases List.mem_append.1 (g2.mem_iff.1 hz) with k | k
   · exact qL.2.2 y h z k
   · exact x1 y h z k
   · exact x2 y h z k
   exact qK.2.2 y h z k
theorem yD {d:β} {c:β→β→Int} {R:β→β→Prop} {tag:β→Nat} {l:List β} (hl:l.length<40) (hO:tz R tag c l) (ht:l.Pairwise (fun y z=>tag y<tag z)):(hU d c l).Pairwise R:=by
 by_cases h20:l.length<20
 · have hB:mF d c 20 l.length l.length 0 l=kU d c 0 l.length l:=by
     cases l with
     | nil=>rfl
     | cons x r=>show mF d c 20 (x :: r).length (r.length+1) 0 _=_; unfold mF; rw [if_neg (by simp at h20 ⊢; omega)]
   obtain ⟨M,h1,h2,h3⟩:=nq (d:=d) (c:=c) (A:=[]) (T:=l) (B:=[]) (a:=0) (b:=l.length) rfl (by simp) hO ht
   have:hU d c l=M:=by
     unfold hU
     rw [hB,show kU d c 0 l.length l=M from by simpa using h1]
     cases hk:l.length with
     | zero=>rfl
     | succ k=>unfold mW; rw [if_neg (by omega)]
   rw [this]; exact h3
 · have hk:∃ k,l.length=k+2:=⟨l.length - 2,by omega⟩
   obtain ⟨k,hk⟩:=hk
   have pt:=List.pairwise_append.1 ((List.take_append_drop 20 l).symm ▸ ht)
   have ml:∀ y,y∈l.take 20→y∈l:=fun y hy=>List.mem_of_mem_take hy
   have mr:∀ y,y∈l.drop 20→y∈l:=fun y hy=>List.mem_of_mem_drop hy
   obtain ⟨M,h1,h2,h3⟩:=nq (d:=d) (c:=c) (R:=R) (tag:=tag) (A:=[]) (T:=l.take 20) (B:=l.drop 20) (a:=0) (b:=20) rfl (by simp; omega) (hO.sub ml) pt.1
   have h1':kU d c 0 20 l=M++l.drop 20:=by simpa using h1
   have lM:M.length=20:=by rw [h2.length_eq,List.length_take]; omega
   obtain ⟨M2,k1,k2,k3⟩:=nq (d:=d) (c:=c) (R:=R) (tag:=tag) (A:=M) (T:=l.drop 20) (B:=[]) (a:=20) (b:=l.length) lM.symm (by rw [List.length_drop]; omega) (hO.sub mr) pt.2.1
   have k1':kU d c 20 l.length (M++l.drop 20)=M++M2:=by simpa using k1
   have hB:mF d c 20 l.length l.length 0 l=M++M2:=by
     conv=>lhs; rw [show l.length=l.length from rfl]; arg 5; rw [hk]
     unfold mF
     rw [if_pos (by omega)]
     unfold mF
     rw [if_neg (by omega),Nat.zero_add,h1',k1']
   have lM2:M2.length=l.length - 20:=by rw [k2.length_eq,List.length_drop]
   unfold hU
   rw [hB]
   by_cases h0:l.length=20
   · have:M2=[]:=List.eq_nil_of_length_eq_zero (by omega)
     subst this
     have:mW d c l.length l.length 20 (M++[])=M++[]:=by
       conv=>lhs; arg 4; rw [hk]
       unfold mW; rw [if_neg (by omega)]
     rw [this]; simpa using h3
   · obtain ⟨M3,f1,f2,f3⟩:=qj (d:=d) (c:=c) (R:=R) (tag:=tag) (n:=l.length) (A:=[]) (L:=M) (K:=M2) (B:=[]) (a:=0) (m:=20) (b:=l.length) rfl (by simp [lM]) (by simp; omega) (by omega) (by omega) (by omega)
       (hO.sub (fun y hy=>by
         rcases List.mem_append.1 hy with h | h
         · exact ml y (h2.mem_iff.1 h)
         · exact mr y (k2.mem_iff.1 h))) h3 k3 (fun y hy z hz=>pt.2.2 y (h2.mem_iff.1 hy) z (k2.mem_iff.1 hz))
     have f1':iI d c l.length 0 20 l.length (M++M2)=M3:=by simpa using f1
     have hS:oa d c 20 l.length l.length 0 (M++M2)=M3:=by
       conv=>lhs; arg 5; rw [hk]
       unfold oa
       rw [if_neg (by omega),if_pos (by omega),Nat.zero_add,Nat.sub_zero,f1']
     have:mW d c l.length l.length 20 (M++M2)=M3:=by
       conv=>lhs; arg 4; rw [hk]
       unfold mW
       rw [if_pos (by omega),hS]
       unfold mW
       rw [if_neg (by omega)]
     rw [this]; exact f3
end
end Go.Proofs.YthmmfhdpkddniaaGreatDoor
