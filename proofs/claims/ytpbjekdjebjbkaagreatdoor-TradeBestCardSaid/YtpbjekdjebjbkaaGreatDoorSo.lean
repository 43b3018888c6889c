import Derived.Tactics
set_option linter.unusedSimpArgs false
set_option linter.unusedVariables false
namespace Go.Proofs.YtpbjekdjebjbkaaGreatDoor
section
variable {β:Type}
def swp (d:β) (l:List β) (i j:Nat):List β:=(l.set i (l.getD j d)).set j (l.getD i d)
def insIn (d:β) (c:β→β→Int) (a:Nat):Nat→List β→List β
 | 0,l=>l
 | j+1,l=>if a<j+1∧c (l.getD (j+1) d) (l.getD j d)<0 then insIn d c a j (swp d l (j+1) j) else l
def insOut (d:β) (c:β→β→Int) (a:Nat):Nat→Nat→List β→List β
 | 0,_,l=>l
 | k+1,i,l=>insOut d c a k (i+1) (insIn d c a i l)
def insS (d:β) (c:β→β→Int) (a b:Nat) (l:List β):List β:=insOut d c a (b - (a+1)) (a+1) l
def bsS (P:Nat→Bool):Nat→Nat→Nat→Nat
 | 0,i,_=>i
 | n+1,i,j=>if i<j then (if P ((i+j) / 2) then bsS P n ((i+j) / 2+1) j else bsS P n i ((i+j) / 2)) else i
def shR (d:β):Nat→Nat→List β→List β
 | 0,_,l=>l
 | n+1,k,l=>shR d n (k+1) (swp d l k (k+1))
def shL (d:β):Nat→Nat→List β→List β
 | 0,_,l=>l
 | n+1,k,l=>shL d n (k - 1) (swp d l k (k - 1))
def swr (d:β) (a b:Nat):Nat→Nat→List β→List β
 | 0,_,l=>l
 | k+1,i,l=>swr d a b k (i+1) (swp d l (a+i) (b+i))
def swR (d:β) (a b n:Nat) (l:List β):List β:=swr d a b n 0 l
def rotS (d:β) (m:Nat):Nat→Nat→Nat→List β→List β
 | 0,i,_,l=>swR d (m - i) m i l
 | n+1,i,j,l=>if i=j then swR d (m - i) m i l else if j<i then rotS d m n (i - j) j (swR d (m - i) m j l) else rotS d m n i (j - i) (swR d (m - i) (m+j - i) i l)
def symS (d:β) (c:β→β→Int):Nat→Nat→Nat→Nat→List β→List β
 | 0,_,_,_,l=>l
 | n+1,a,m,b,l =>
   if m - a=1 then shR d (bsS (fun h=>decide (c (l.getD h d) (l.getD a d)<0)) (b - m) m b - 1 - a) a l
   else if b - m=1 then shL d (m - bsS (fun h=>!decide (c (l.getD m d) (l.getD h d)<0)) (m - a) a m) m l
   else
     let mid:=(a+b) / 2
     let s0:=if mid<m then mid+m - b else a
     let r0:=if mid<m then mid else m
     let st:=bsS (fun h=>!decide (c (l.getD (mid+m - 1 - h) d) (l.getD h d)<0)) (r0 - s0) s0 r0
     let en:=mid+m - st
     let l1:=if st<m∧m<en then rotS d m (en - st) (m - st) (en - m) l else l
     let l2:=if a<st∧st<mid then symS d c n a st mid l1 else l1
     if mid<en∧en<b then symS d c n mid en b l2 else l2
def insB (d:β) (c:β→β→Int) (s n:Nat):Nat→Nat→List β→List β
 | 0,a,l=>insS d c a n l
 | k+1,a,l=>if a+s≤n then insB d c s n k (a+s) (insS d c a (a+s) l) else insS d c a n l
def symB (d:β) (c:β→β→Int) (s n:Nat):Nat→Nat→List β→List β
 | 0,a,l=>if a+s<n then symS d c (n - a) a (a+s) n l else l
 | k+1,a,l=>if a+2 * s≤n then symB d c s n k (a+2 * s) (symS d c (2 * s) a (a+s) (a+2 * s) l) else if a+s<n then symS d c (n - a) a (a+s) n l else l
def symA (d:β) (c:β→β→Int) (n:Nat):Nat→Nat→List β→List β
 | 0,_,l=>l
 | k+1,s,l=>if s<n then symA d c n k (2 * s) (symB d c s n n 0 l) else l
def stableS (d:β) (c:β→β→Int) (l:List β):List β:=symA d c l.length l.length 20 (insB d c 20 l.length l.length 0 l)
def Mv (a b:Nat) (l l':List β):Prop:=l'.Perm l∧∀ j,j<a∨b≤j→l'[j]?=l[j]?
theorem Mv.rfl' {a b:Nat} {l:List β}:Mv a b l l:=⟨.refl _,fun _ _=>rfl⟩
theorem Mv.trans {a b:Nat} {x y z:List β} (h:Mv a b x y) (k:Mv a b y z):Mv a b x z:=⟨k.1.trans h.1,fun j hj=>(k.2 j hj).trans (h.2 j hj)⟩
theorem Mv.wide {a b a' b':Nat} {x y:List β} (h:Mv a b x y) (ha:a'≤a) (hb:b≤b'):Mv a' b' x y:=⟨h.1,fun j hj=>h.2 j (by omega)⟩
theorem Mv.len {a b:Nat} {x y:List β} (h:Mv a b x y):y.length=x.length:=h.1.length_eq
theorem swp_len (d:β) (l:List β) (i j:Nat):(swp d l i j).length=l.length:=by simp [swp]
theorem swp_at {d:β} {l:List β} {i j k:Nat} (hi:i<l.length) (hj:j<l.length):(swp d l i j)[k]?=if k=j then l[i]? else if k=i then l[j]? else l[k]?:=by
 unfold swp
 rw [List.getElem?_set,List.getElem?_set,List.length_set]
 simp only [List.getD_eq_getElem?_getD,List.getElem?_eq_getElem hi,List.getElem?_eq_getElem hj,Option.getD_some]
 by_cases h1:j=k
 · rw [if_pos h1,if_pos hj,if_pos h1.symm]
 · rw [if_neg h1,if_neg (show ¬ k=j from fun e=>h1 e.symm)]
   by_cases h2:i=k
   · rw [if_pos h2,if_pos hi,if_pos h2.symm]
   · rw [if_neg h2,if_neg (show ¬ k=i from fun e=>h2 e.symm)]
theorem swp_perm {d:β} {l:List β} {i j:Nat} (hi:i<l.length) (hj:j<l.length):(swp d l i j).Perm l:=by
 unfold swp
 simp only [List.getD_eq_getElem?_getD,List.getElem?_eq_getElem hi,List.getElem?_eq_getElem hj,Option.getD_some]
 exact List.set_set_perm hi hj
theorem swp_mv {d:β} {l:List β} {a b i j:Nat} (hi:i<l.length) (hj:j<l.length) (hia:a≤i∧i<b) (hja:a≤j∧j<b):Mv a b l (swp d l i j):=
 ⟨swp_perm hi hj,fun k hk=>by rw [swp_at hi hj,if_neg (by omega),if_neg (by omega)]⟩
theorem insIn_mv {d:β} {c:β→β→Int} {a:Nat}:∀ {j:Nat} {l:List β},j<l.length→a≤j→Mv a (j+1) l (insIn d c a j l)
 | 0,l,_,_=>Mv.rfl'
 | j+1,l,h,ha=>by
   unfold insIn
   split
   · have h1:Mv a (j+1+1) l (swp d l (j+1) j):=swp_mv h (by omega) ⟨ha,by omega⟩ ⟨by omega,by omega⟩
     exact h1.trans ((insIn_mv (by rw [swp_len]; omega) (by omega)).wide (Nat.le_refl _) (by omega))
   · exact Mv.rfl'
theorem insOut_mv {d:β} {c:β→β→Int} {a:Nat}:∀ {k i:Nat} {l:List β},i+k≤l.length→a≤i→Mv a (i+k) l (insOut d c a k i l)
 | 0,i,l,_,_=>Mv.rfl'
 | k+1,i,l,h,ha=>by
   unfold insOut
   have h1:Mv a (i+1) l (insIn d c a i l):=insIn_mv (by omega) ha
   exact (h1.wide (Nat.le_refl _) (by omega)).trans ((insOut_mv (by rw [h1.len]; omega) (by omega)).wide (Nat.le_refl _) (by omega))
theorem insS_mv {d:β} {c:β→β→Int} {a b:Nat} {l:List β} (h:b≤l.length):Mv a b l (insS d c a b l):=by
 unfold insS
 by_cases hb:a+1≤b
 · have:=insOut_mv (d:=d) (c:=c) (a:=a) (k:=b - (a+1)) (i:=a+1) (l:=l) (by omega) (by omega)
   exact this.wide (Nat.le_refl _) (by omega)
 · rw [show b - (a+1)=0 from by omega]; exact Mv.rfl'
theorem bsS_in {P:Nat→Bool}:∀ {n i j:Nat},i≤j→j - i≤n→i≤bsS P n i j∧bsS P n i j≤j
 | 0,i,j,h,hn=>⟨Nat.le_refl _,h⟩
 | n+1,i,j,h,hn=>by
   unfold bsS
   split
   · split
     · have:=bsS_in (P:=P) (n:=n) (i:=(i+j) / 2+1) (j:=j) (by omega) (by omega); omega
     · have:=bsS_in (P:=P) (n:=n) (i:=i) (j:=(i+j) / 2) (by omega) (by omega); omega
   · omega
theorem shR_mv {d:β} {a b:Nat}:∀ {n k:Nat} {l:List β},b≤l.length→a≤k→k+n<b→Mv a b l (shR d n k l)
 | 0,_,_,_,_,_=>Mv.rfl'
 | n+1,k,l,h,ha,hb=>by
   unfold shR
   exact (swp_mv (by omega) (by omega) ⟨ha,by omega⟩ ⟨by omega,by omega⟩).trans (shR_mv (by rw [swp_len]; exact h) (by omega) (by omega))
theorem shL_mv {d:β} {a b:Nat}:∀ {n k:Nat} {l:List β},b≤l.length→a+n≤k→k<b→Mv a b l (shL d n k l)
 | 0,_,_,_,_,_=>Mv.rfl'
 | n+1,k,l,h,ha,hb=>by
   unfold shL
   exact (swp_mv (by omega) (by omega) ⟨by omega,by omega⟩ ⟨by omega,by omega⟩).trans (shL_mv (by rw [swp_len]; exact h) (by omega) (by omega))
theorem swr_mv {d:β} {a b p q:Nat}:∀ {n i:Nat} {l:List β},b≤l.length→a≤p→a≤q→p+i+n≤b→q+i+n≤b→Mv a b l (swr d p q n i l)
 | 0,_,_,_,_,_,_,_=>Mv.rfl'
 | n+1,i,l,h,h1,h2,h3,h4=>by
   unfold swr
   exact (swp_mv (by omega) (by omega) ⟨by omega,by omega⟩ ⟨by omega,by omega⟩).trans (swr_mv (by rw [swp_len]; exact h) h1 h2 (by omega) (by omega))
theorem rotS_mv {d:β} {a b m:Nat}:∀ {n i j:Nat} {l:List β},b≤l.length→a+i≤m→m+j≤b→1≤i→1≤j→i+j≤n+2→Mv a b l (rotS d m n i j l)
 | 0,i,j,l,h,h1,h2,h3,h4,h5=>by
   unfold rotS swR
   exact swr_mv h (by omega) (by omega) (by omega) (by omega)
 | n+1,i,j,l,h,h1,h2,h3,h4,h5=>by
   unfold rotS
   split
   · exact swr_mv h (by omega) (by omega) (by omega) (by omega)
   · split
     · have h6:Mv a b l (swR d (m - i) m j l):=swr_mv h (by omega) (by omega) (by omega) (by omega)
       exact h6.trans (rotS_mv (by rw [h6.len]; exact h) (by omega) (by omega) (by omega) (by omega) (by omega))
     · have h6:Mv a b l (swR d (m - i) (m+j - i) i l):=swr_mv h (by omega) (by omega) (by omega) (by omega)
       exact h6.trans (rotS_mv (by rw [h6.len]; exact h) (by omega) (by omega) (by omega) (by omega) (by omega))
theorem symS_mv {d:β} {c:β→β→Int}:∀ {n a m b:Nat} {l:List β},b≤l.length→a<m→m<b→b - a≤n→Mv a b l (symS d c n a m b l)
 | 0,a,m,b,l,h,h1,h2,h3=>absurd h3 (by omega)
 | n+1,a,m,b,l,h,h1,h2,h3=>by
   unfold symS
   by_cases e1:m - a=1
   · rw [if_pos e1]
     have:=bsS_in (P:=fun h=>decide (c (l.getD h d) (l.getD a d)<0)) (n:=b - m) (i:=m) (j:=b) (by omega) (Nat.le_refl _)
     exact shR_mv h (Nat.le_refl _) (by omega)
   · rw [if_neg e1]
     by_cases e2:b - m=1
     · rw [if_pos e2]
       have:=bsS_in (P:=fun h=>!decide (c (l.getD m d) (l.getD h d)<0)) (n:=m - a) (i:=a) (j:=m) (by omega) (Nat.le_refl _)
       exact shL_mv h (by omega) h2
     · rw [if_neg e2]
       dsimp only
       have hs:(if (a+b) / 2<m then (a+b) / 2+m - b else a)≤(if (a+b) / 2<m then (a+b) / 2 else m)∧a≤(if (a+b) / 2<m then (a+b) / 2+m - b else a)∧(if (a+b) / 2<m then (a+b) / 2 else m)≤m∧(if (a+b) / 2<m then (a+b) / 2 else m)≤(a+b) / 2∧(a+b) / 2+m - b≤(if (a+b) / 2<m then (a+b) / 2+m - b else a):=by
         split <;> omega
       generalize hs0:(if (a+b) / 2<m then (a+b) / 2+m - b else a)=s0 at hs
       generalize hr0:(if (a+b) / 2<m then (a+b) / 2 else m)=r0 at hs
       have hb:=bsS_in (P:=fun h=>!decide (c (l.getD ((a+b) / 2+m - 1 - h) d) (l.getD h d)<0)) (n:=r0 - s0) (i:=s0) (j:=r0) hs.1 (Nat.le_refl _)
       generalize bsS (fun h=>!decide (c (l.getD ((a+b) / 2+m - 1 - h) d) (l.getD h d)<0)) (r0 - s0) s0 r0=st at hb
       have m1:Mv a b l (if st<m∧m<(a+b) / 2+m - st then rotS d m ((a+b) / 2+m - st - st) (m - st) ((a+b) / 2+m - st - m) l else l):=by
         split
         · exact rotS_mv h (by omega) (by omega) (by omega) (by omega) (by omega)
         · exact Mv.rfl'
       generalize (if st<m∧m<(a+b) / 2+m - st then rotS d m ((a+b) / 2+m - st - st) (m - st) ((a+b) / 2+m - st - m) l else l)=l1 at m1
       have m2:Mv a b l1 (if a<st∧st<(a+b) / 2 then symS d c n a st ((a+b) / 2) l1 else l1):=by
         split
         · exact (symS_mv (by rw [m1.len]; omega) (by omega) (by omega) (by omega)).wide (Nat.le_refl _) (by omega)
         · exact Mv.rfl'
       generalize (if a<st∧st<(a+b) / 2 then symS d c n a st ((a+b) / 2) l1 else l1)=l2 at m2
       split
       · exact (m1.trans m2).trans ((symS_mv (by rw [m2.len,m1.len]; omega) (by omega) (by omega) (by omega)).wide (by omega) (Nat.le_refl _))
       · exact m1.trans m2
theorem insB_mv {d:β} {c:β→β→Int} {s n:Nat}:∀ {k a:Nat} {l:List β},n≤l.length→Mv 0 n l (insB d c s n k a l)
 | 0,a,l,h=>by unfold insB; exact (insS_mv h).wide (by omega) (Nat.le_refl _)
 | k+1,a,l,h=>by
   unfold insB
   split
   · have h1:Mv 0 n l (insS d c a (a+s) l):=(insS_mv (by omega)).wide (by omega) (by omega)
     exact h1.trans (insB_mv (by rw [h1.len]; exact h))
   · exact (insS_mv h).wide (by omega) (Nat.le_refl _)
theorem symB_mv {d:β} {c:β→β→Int} {s n:Nat} (hs:0<s):∀ {k a:Nat} {l:List β},n≤l.length→Mv 0 n l (symB d c s n k a l)
 | 0,a,l,h=>by
   unfold symB
   split
   · exact (symS_mv h (by omega) (by omega) (Nat.le_refl _)).wide (by omega) (Nat.le_refl _)
   · exact Mv.rfl'
 | k+1,a,l,h=>by
   unfold symB
   split
   · have h1:Mv 0 n l (symS d c (2 * s) a (a+s) (a+2 * s) l):=(symS_mv (by omega) (by omega) (by omega) (by omega)).wide (by omega) (by omega)
     exact h1.trans (symB_mv hs (by rw [h1.len]; exact h))
   · split
     · exact (symS_mv h (by omega) (by omega) (Nat.le_refl _)).wide (by omega) (Nat.le_refl _)
     · exact Mv.rfl'
theorem symA_mv {d:β} {c:β→β→Int} {n:Nat}:∀ {k s:Nat} {l:List β},0<s→n≤l.length→Mv 0 n l (symA d c n k s l)
 | 0,_,_,_,_=>Mv.rfl'
 | k+1,s,l,hs,h=>by
   unfold symA
   split
   · have h1:Mv 0 n l (symB d c s n n 0 l):=symB_mv hs h
     exact h1.trans (symA_mv (by omega) (by rw [h1.len]; exact h))
   · exact Mv.rfl'
theorem stable_perm (d:β) (c:β→β→Int) (l:List β):(stableS d c l).Perm l:=by
 unfold stableS
 have h1:Mv 0 l.length l (insB d c 20 l.length l.length 0 l):=insB_mv (Nat.le_refl _)
 exact (h1.trans (symA_mv (by decide) (by rw [h1.len]; exact Nat.le_refl _))).1
theorem getD_app {d x:β} {U V:List β}:(U++x :: V).getD U.length d=x:=by
 rw [List.getD_eq_getElem?_getD,List.getElem?_append_right (Nat.le_refl _),Nat.sub_self]; rfl
theorem set_app {x y:β} {U V:List β}:(U++x :: V).set U.length y=U++y :: V:=by
 rw [List.set_append_right _ _ (Nat.le_refl _),Nat.sub_self]; rfl
theorem swp_app {d p q:β} {U V W:List β} {i j:Nat} (hi:i=U.length) (hj:j=U.length+1+V.length):swp d (U++p :: V++q :: W) i j=U++q :: V++p :: W:=by
 subst hi
 have e1:U++p :: V++q :: W=(U++p :: V)++q :: W:=rfl
 have hj':j=(U++p :: V).length:=by simp; omega
 unfold swp
 have h1:(U++p :: V++q :: W).getD U.length d=p:=by rw [List.append_assoc,List.cons_append]; exact getD_app
 have h2:(U++p :: V++q :: W).getD j d=q:=by rw [hj']; exact getD_app
 rw [h1,h2]
 have h3:(U++p :: V++q :: W).set U.length q=U++q :: V++q :: W:=by rw [List.append_assoc,List.cons_append,set_app,List.append_assoc,List.cons_append]
 rw [h3]
 have hj2:j=(U++q :: V).length:=by simp; omega
 rw [hj2,set_app]
theorem swp_app' {d p q:β} {U V W:List β} {i j:Nat} (hi:i=U.length) (hj:j=U.length+1+V.length):swp d (U++p :: V++q :: W) j i=U++q :: V++p :: W:=by
 rw [← swp_app (d:=d) (p:=p) (q:=q) (U:=U) (V:=V) (W:=W) hi hj]
 apply List.ext_getElem?
 intro k
 have li:i<(U++p :: V++q :: W).length:=by simp; omega
 have lj:j<(U++p :: V++q :: W).length:=by simp; omega
 rw [swp_at lj li,swp_at li lj]
 by_cases h1:k=i
 · subst h1; rw [if_pos rfl]
   by_cases h2:k=j
   · rw [if_pos h2,h2]
   · rw [if_neg h2,if_pos rfl]
 · rw [if_neg h1]
   by_cases h2:k=j
   · rw [if_pos h2,if_pos h2]
   · rw [if_neg h2,if_neg h2,if_neg h1]
structure Ords (R:β→β→Prop) (tag:β→Nat) (c:β→β→Int) (l:List β):Prop where
 tr:∀ x y z,x∈l→y∈l→z∈l→R x y→R y z→R x z
 ir:∀ x,x∈l→¬ R x x
 tot:∀ x y,x∈l→y∈l→tag x<tag y→¬ R y x→R x y
 as:∀ x y,x∈l→y∈l→tag x<tag y→(c y x<0 ↔ R y x)
theorem Ords.sub {R:β→β→Prop} {tag:β→Nat} {c:β→β→Int} {l l':List β} (h:Ords R tag c l) (hs:∀ x∈l',x∈l):Ords R tag c l':=
 ⟨fun x y z a b e=>h.tr x y z (hs x a) (hs y b) (hs z e),fun x a=>h.ir x (hs x a),fun x y a b=>h.tot x y (hs x a) (hs y b),fun x y a b=>h.as x y (hs x a) (hs y b)⟩
theorem insIn_app {d:β} {c:β→β→Int} {R:β→β→Prop} {tag:β→Nat} {A B:List β} {x:β}:∀ {n:Nat} {S T:List β} {j a:Nat},n=S.length→a=A.length→j=A.length+S.length→Ords R tag c (S++x :: T)→S.Pairwise R→(∀ y∈S,tag y<tag x)→(∀ y∈T,R x y)→(∀ y∈S,∀ z∈T,R y z)→T.Pairwise R →
   ∃ M,insIn d c a j (A++S++x :: T++B)=A++M++B∧M.Perm (S++x :: T)∧M.Pairwise R
 | 0,S,T,j,a,hn,ha,hj,hO,hS,ht,hT,hST,hTT=>by
   have:S=[]:=List.eq_nil_of_length_eq_zero hn.symm
   subst this
   refine ⟨x :: T,?_,by simp,List.pairwise_cons.2 ⟨hT,hTT⟩⟩
   cases j with
   | zero=>simp [insIn]
   | succ j=>unfold insIn; rw [if_neg (fun e=>by simp at hj; omega)]; simp
 | n+1,S,T,j,a,hn,ha,hj,hO,hS,ht,hT,hST,hTT=>by
   obtain ⟨S',s,rfl⟩:∃ V' v,S=V'++[v]:=⟨S.dropLast,S.getLast (by intro e; subst e; simp at hn),(List.dropLast_concat_getLast _).symm⟩
   have hl:(S'++[s]).length=S'.length+1:=by simp
   obtain ⟨j',rfl⟩:∃ j',j=j'+1:=⟨j - 1,by omega⟩
   unfold insIn
   have e1:A++(S'++[s])++x :: T++B=(A++S'++[s])++x :: (T++B):=by simp
   have e2:A++(S'++[s])++x :: T++B=(A++S')++s :: (x :: T++B):=by simp
   have g1:(A++(S'++[s])++x :: T++B).getD (j'+1) d=x:=by rw [e1,show j'+1=(A++S'++[s]).length from by simp; omega]; exact getD_app
   have g2:(A++(S'++[s])++x :: T++B).getD j' d=s:=by rw [e2,show j'=(A++S').length from by simp; omega]; exact getD_app
   rw [g1,g2]
   have ms:s∈(S'++[s])++x :: T:=by simp
   have mx:x∈(S'++[s])++x :: T:=by simp
   have hsx:=ht s (by simp)
   have hSp:=List.pairwise_append.1 hS
   by_cases hc:c x s<0
   · have hR:=(hO.as s x ms mx hsx).1 hc
     rw [if_pos ⟨by omega,hc⟩]
     have e3:A++(S'++[s])++x :: T++B=(A++S')++s :: []++x :: (T++B):=by simp
     rw [e3,swp_app' (i:=j') (j:=j'+1) (by simp; omega) (by simp; omega)]
     have e4:(A++S')++x :: []++s :: (T++B)=A++S'++x :: (s :: T)++B:=by simp
     rw [e4]
     obtain ⟨M,h1,h2,h3⟩:=insIn_app (d:=d) (c:=c) (R:=R) (tag:=tag) (A:=A) (B:=B) (x:=x) (n:=n) (S:=S') (T:=s :: T) (j:=j') (a:=a) (by omega) ha (by omega)
       (hO.sub (fun y hy=>by simp at hy ⊢; rcases hy with h | h | h | h <;> simp [h])) hSp.1 (fun y hy=>ht y (by simp [hy]))
       (fun y hy=>by rcases List.mem_cons.1 hy with rfl | hy; exact hR; exact hT y hy)
       (fun y hy z hz=>by
         rcases List.mem_cons.1 hz with rfl | hz
         · exact hSp.2.2 y hy z (by simp)
         · exact hST y (by simp [hy]) z hz)
       (List.pairwise_cons.2 ⟨fun z hz=>hST s (by simp) z hz,hTT⟩)
     refine ⟨M,h1,h2.trans ?_,h3⟩
     have:(S'++x :: s :: T).Perm (S'++s :: x :: T):=(List.Perm.swap ..).append_left _
     simpa using this
   · rw [if_neg (fun h=>hc h.2)]
     have hR:R s x:=hO.tot s x ms mx hsx (fun h=>hc ((hO.as s x ms mx hsx).2 h))
     refine ⟨(S'++[s])++x :: T,by simp,.refl _,List.pairwise_append.2 ⟨hS,List.pairwise_cons.2 ⟨hT,hTT⟩,fun y hy z hz=>?_⟩⟩
     rcases List.mem_cons.1 hz with rfl | hz
     · rcases List.mem_append.1 hy with h | h
       · exact hO.tr y s z (by simp [h]) ms mx (hSp.2.2 y h s (by simp)) hR
       · rw [List.mem_singleton] at h; subst h; exact hR
     · exact hST y hy z hz
theorem insOut_app {d:β} {c:β→β→Int} {R:β→β→Prop} {tag:β→Nat} {A B:List β}:∀ {T S:List β} {i a:Nat},a=A.length→i=A.length+S.length→Ords R tag c (S++T)→S.Pairwise R→(∀ y∈S,∀ z∈T,tag y<tag z)→T.Pairwise (fun y z=>tag y<tag z) →
   ∃ M,insOut d c a T.length i (A++S++T++B)=A++M++B∧M.Perm (S++T)∧M.Pairwise R
 | [],S,i,a,ha,hi,hO,hS,_,_=>⟨S,by simp [insOut],by simp,hS⟩
 | x :: T,S,i,a,ha,hi,hO,hS,ht,hT=>by
   show ∃ M,insOut d c a (T.length+1) i _=_∧_
   unfold insOut
   have hTp:=List.pairwise_cons.1 hT
   obtain ⟨M,h1,h2,h3⟩:=insIn_app (d:=d) (c:=c) (R:=R) (tag:=tag) (A:=A) (B:=T++B) (x:=x) (S:=S) (T:=[]) (j:=i) (a:=a) rfl ha hi
     (hO.sub (fun y hy=>by simp at hy ⊢; rcases hy with h | h <;> simp [h])) hS (fun y hy=>ht y hy x (by simp)) (fun y hy=>by cases hy) (fun y _ z hz=>by cases hz) .nil
   have e:A++S++x :: T++B=A++S++x :: []++(T++B):=by simp
   rw [e,h1]
   have e2:A++M++(T++B)=A++M++T++B:=by simp
   rw [e2]
   have hm:∀ y,y∈M ↔ y∈S∨y=x:=fun y=>by rw [h2.mem_iff]; simp
   obtain ⟨M',k1,k2,k3⟩:=insOut_app (d:=d) (c:=c) (R:=R) (tag:=tag) (A:=A) (B:=B) (T:=T) (S:=M) (i:=i+1) (a:=a) ha (by rw [h2.length_eq]; simp; omega)
     (hO.sub (fun y hy=>by
       rcases List.mem_append.1 hy with h | h
       · rcases (hm y).1 h with h | h <;> simp [h]
       · simp [h])) h3 (fun y hy z hz=>by
       rcases (hm y).1 hy with h | h
       · exact ht y h z (by simp [hz])
       · subst h; exact hTp.1 z hz) hTp.2
   refine ⟨M',k1,k2.trans ?_,k3⟩
   have:(M++T).Perm ((S++[x])++T):=h2.append_right T
   simpa using this
theorem insS_app {d:β} {c:β→β→Int} {R:β→β→Prop} {tag:β→Nat} {A T B:List β} {a b:Nat} (ha:a=A.length) (hb:b=A.length+T.length) (hO:Ords R tag c T) (hT:T.Pairwise (fun y z=>tag y<tag z)) :
   ∃ M,insS d c a b (A++T++B)=A++M++B∧M.Perm T∧M.Pairwise R:=by
 unfold insS
 cases T with
 | nil => 
   rw [show b - (a+1)=0 from by simp at hb; omega]
   exact ⟨[],by simp [insOut],.refl _,.nil⟩
 | cons x T =>
   have hTp:=List.pairwise_cons.1 hT
   obtain ⟨M,h1,h2,h3⟩:=insOut_app (d:=d) (c:=c) (R:=R) (tag:=tag) (A:=A) (B:=B) (T:=T) (S:=[x]) (i:=a+1) (a:=a) ha (by simp; omega) hO (List.pairwise_singleton _ _) (fun y hy z hz=>by rw [List.mem_singleton] at hy; subst hy; exact hTp.1 z hz) hTp.2
   refine ⟨M,?_,h2,h3⟩
   rw [show b - (a+1)=T.length from by simp at hb; omega]
   have e:A++x :: T++B=A++[x]++T++B:=by simp
   rw [e]; exact h1
theorem getD_mem {d:β} {l:List β} {i:Nat} (h:i<l.length):l.getD i d∈l:=by
 rw [List.getD_eq_getElem?_getD,List.getElem?_eq_getElem h]; exact List.getElem_mem h
theorem stable_sorted {d:β} {c:β→β→Int} {R:β→β→Prop} {tag:β→Nat} {l:List β} (hl:l.length<20) (hO:Ords R tag c l) (ht:l.Pairwise (fun y z=>tag y<tag z)):(stableS d c l).Pairwise R:=by
 have h20:=hl
 have hB:insB d c 20 l.length l.length 0 l=insS d c 0 l.length l:=by
   cases l with
   | nil=>rfl
   | cons x r=>show insB d c 20 (x :: r).length (r.length+1) 0 _=_; unfold insB; rw [if_neg (by simp at h20 ⊢; omega)]
 obtain ⟨M,h1,h2,h3⟩:=insS_app (d:=d) (c:=c) (A:=[]) (T:=l) (B:=[]) (a:=0) (b:=l.length) rfl (by simp) hO ht
 have:stableS d c l=M:=by
   unfold stableS
   rw [hB,show insS d c 0 l.length l=M from by simpa using h1]
   cases hk:l.length with
   | zero=>rfl
   | succ k=>unfold symA; rw [if_neg (by omega)]
 rw [this]; exact h3
end
end Go.Proofs.YtpbjekdjebjbkaaGreatDoor
