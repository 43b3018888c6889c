import Derived.Test.YthmmfhdpkddniaaGreatDoorRa
set_option maxRecDepth 20000
set_option maxHeartbeats 4000000
set_option linter.all false
namespace Go.Proofs.YthmmfhdpkddniaaGreatDoor
open Go.RowKit
theorem Gz {β:Type} (d:β) (ev:β→Value) (cs:β→Array Value) (hcs:∀ x,ev x=.agg (cs x)) (hsz:∀ x,(ev x).cells.size=3) (ho:∀ x,(ev x).cells.toList.all (·.oneCell')=true) (z:List β) (nn:Nat) (hz:z.length=nn) (p:Option Addr) (cc:Nat) (hm:nn≤1099511627776) (a b n:Nat) (ha:a+n≤nn) (hb:b+n≤nn) (fv:Value) (w:World) (HS:S w [Rw 44 3 p nn cc (mV ev z)]):Calls Tryz.prog 201 #[.slice p nn cc,vI a,vI b,vI n,fv] w fun e w'=>e=.returned (.tuple #[])∧S w' ([Rw 44 3 p nn cc (mV ev (Ax d a b n z))]++[aB w (aT [Rw 44 3 p nn cc (mV ev z)])]):=by
 have H0:=HS.beginI
 refine en Tryz.func201 ?_
 refine ah [0,1,2,3,4] ?_
 refine aE ?_
 refine cQ (ι:=Nat × List β) (fun (i,cur)=>[(0,.slice p nn cc),(1,vI a),(2,vI b),(3,vI n),(10,vI i)]) (fun (i,cur) wx=>(i≤n)∧(cur.length=nn)∧(EU d a b (n - i) i cur=Ax d a b n z)∧S wx [Rw 44 3 p nn cc (mV ev cur),aB w (aT [Rw 44 3 p nn cc (mV ev z)])]) (fun (i,cur)=>n - i) (0,z) ⟨Nat.zero_le _,hz,rfl,(H0.tk [0,1])⟩ ?_
 rintro ⟨i,cur⟩ h0 ⟨hi,hcl,hR,H2⟩
 refine ah [0,1,2,3,10] ?_
 refine a_ ?_
 by_cases H3:((i:Int):Int)<(n:Int)
 ·
  refine bm H3 ?_
  refine aE ?_
  refine g_anyY [] (fun wx=>S wx [Rw 44 3 p nn cc (mV ev cur),aB w (aT [Rw 44 3 p nn cc (mV ev z)])]) (fun wx=>S wx [aB w (aT [Rw 44 3 p nn cc (mV ev z)])]) [21,23] (by kernel_rfl) H2 (fun H8 H5=>?_)
  refine fu 0 ?_
  refine fu 1 ?_
  refine fu 2 ?_
  refine rE (v:=vI (((a+i:Nat):Int))) 3 rfl (fun _=>ai rfl rfl rfl (dq (a:=a) (b:=i) (by omega))) ?_
  refine fu 4 ?_
  refine fu 5 ?_
  refine fu 6 ?_
  refine rE (v:=vI (((b+i:Nat):Int))) 7 rfl (fun _=>ai rfl rfl rfl (dq (a:=b) (b:=i) (by omega))) ?_
  refine fu 8 ?_
  refine fu 9 ?_
  refine fu 10 ?_
  refine rE (v:=vI (((b+i:Nat):Int))) 11 rfl (fun _=>ai rfl rfl rfl (dq (a:=b) (b:=i) (by omega))) ?_
  refine rE 12 rfl (fun _=>eZ (b+i) (H5.rwSome (k:=0) rfl (by omega))) ?_
  refine yt (v:=ev (cur.getD (b+i) d)) 13 rfl H5 (fun _ H=>aH (bc (vs:=(ev (cur.getD (b+i) d)).cells.toList) (b+i) (H.rr 0) (by omega) rfl rfl Tryz.underlying44 rfl dE (by rw [Array.length_toList]; exact hsz _) (i7 hsz (by omega))) (by rw [hcs]; rfl)) ?_
  refine fu 14 ?_
  refine fu 15 ?_
  refine fu 16 ?_
  refine rE (v:=vI (((a+i:Nat):Int))) 17 rfl (fun _=>ai rfl rfl rfl (dq (a:=a) (b:=i) (by omega))) ?_
  refine rE 18 rfl (fun _=>eZ (a+i) (H5.rwSome (k:=0) rfl (by omega))) ?_
  refine yt (v:=ev (cur.getD (a+i) d)) 19 rfl H5 (fun _ H=>aH (bc (vs:=(ev (cur.getD (a+i) d)).cells.toList) (a+i) (H.rr 0) (by omega) rfl rfl Tryz.underlying44 rfl dE (by rw [Array.length_toList]; exact hsz _) (i7 hsz (by omega))) (by rw [hcs]; rfl)) ?_
  refine rE 20 rfl (fun _=>eZ (a+i) (H5.rwSome (k:=0) rfl (by omega))) ?_
  refine sf (i:=21) ?_
  refine jT (j:=(a+i)) H5 0 (bh rfl) rfl rfl rfl rfl rfl (by rw [hsz]; exact dE) (hsz _) (ho _) (by omega) ?_
  intro H6 H7
  rw [qc hsz (cur.getD (b+i) d) (by first | omega | (simp only [List.length_set]; omega))] at H7
  replace H7:S _ [_,_]:=H7
  refine sj rfl (H7.tk [1]) ?_
  refine rE 22 rfl (fun _=>eZ (b+i) (H7.rwSome (k:=0) rfl (by omega))) ?_
  refine sf (i:=23) ?_
  refine jT (j:=(b+i)) H7 0 (bh rfl) rfl rfl rfl rfl rfl (by rw [hsz]; exact dE) (hsz _) (ho _) (by omega) ?_
  intro H4 H9
  rw [qc hsz (cur.getD (a+i) d) (by first | omega | (simp only [List.length_set]; omega))] at H9
  replace H9:S _ [_,_]:=H9
  refine sj rfl (H9.tk [1]) ?_
  refine Cb ?_
  refine ae ?_
  refine ah [0,1,2,3,10] ?_
  refine ae ?_
  refine bP (v:=vI (((i+1:Nat):Int))) (hb:=(dq (a:=i) (b:=1) (by omega))) ?_
  refine ae ?_
  refine bD (i:=(i,cur)) ((i+1),((cur.set (a+i) (cur.getD (b+i) d)).set (b+i) (cur.getD (a+i) d))) ⟨by omega,(by simp only [List.length_set]; exact hcl),((Nb (by omega)).symm.trans hR),(H9.tk [0,1])⟩
 refine br H3 ?_
 refine aE ?_
 refine dO [] [] rfl trivial ?_
 exact ⟨rfl,by rw [← hR,JP (by omega)]; exact (H2.tk [0,1])⟩
theorem DY {β:Type} (d:β) (a b:Nat):∀ (n i:Nat) (l:List β),(EU d a b n i l).length=l.length
 | 0,_,_=>rfl
 | n+1,i,l=>by unfold EU; rw [DY d a b n,tY]
theorem D1 {β:Type} {d:β} {a b n:Nat} {l:List β}:(Ax d a b n l).length=l.length:=DY d a b n 0 l
theorem J5 {β:Type} {d:β} {m n i j:Nat} {l:List β} (h:j<i) (hj:1≤j) (hn:i+j≤n+2):kb d m n i j l=kb d m (n - 1) (i - j) j (Ax d (m - i) m j l):=by
 obtain ⟨k,rfl⟩:∃ k,n=k+1:=⟨n - 1,by omega⟩
 conv=>lhs; unfold kb
 rw [if_neg (by omega),if_pos h]; rfl
theorem J4 {β:Type} {d:β} {m n i j:Nat} {l:List β} (h:i<j) (hi:1≤i) (hn:i+j≤n+2):kb d m n i j l=kb d m (n - 1) i (j - i) (Ax d (m - i) (m+j - i) i l):=by
 obtain ⟨k,rfl⟩:∃ k,n=k+1:=⟨n - 1,by omega⟩
 conv=>lhs; unfold kb
 rw [if_neg (by omega),if_neg (by omega)]; rfl
theorem J6 {β:Type} {d:β} {m n i:Nat} {l:List β}:kb d m n i i l=Ax d (m - i) m i l:=by
 cases n with
 | zero=>rfl
 | succ n=>unfold kb; rw [if_pos rfl]
theorem NC {β:Type} (d:β) (ev:β→Value) (cs:β→Array Value) (hcs:∀ x,ev x=.agg (cs x)) (hsz:∀ x,(ev x).cells.size=3) (ho:∀ x,(ev x).cells.toList.all (·.oneCell')=true) (z:List β) (nn:Nat) (hz:z.length=nn) (p:Option Addr) (cc:Nat) (hm:nn≤1099511627776) (a m b:Nat) (ham:a<m) (hmb:m<b) (hb:b≤nn) (fv:Value) (w:World) (HS:S w [Rw 44 3 p nn cc (mV ev z)]):Calls Tryz.prog 189 #[.slice p nn cc,vI a,vI m,vI b,fv] w fun e w'=>e=.returned (.tuple #[])∧S w' ([Rw 44 3 p nn cc (mV ev (kb d m (b - a) (m - a) (b - m) z))]++[aB w (aT [Rw 44 3 p nn cc (mV ev z)])]):=by
 have H0:=HS.beginI
 refine en Tryz.func189 ?_
 refine ah [0,1,2,3,4] ?_
 refine aC ?_
 refine bP (v:=vI (((m - a:Nat):Int))) (hb:=(fj (a:=m) (b:=a) (by omega))) ?_
 refine aQ ?_
 refine bP (v:=vI (((b - m:Nat):Int))) (hb:=(fj (a:=b) (b:=m) (by omega))) ?_
 refine aE ?_
 refine cQ (ι:=Nat × Nat × Nat × List β) (fun (n,i,j,cur)=>[(0,.slice p nn cc),(2,vI m),(4,fv),(10,vI i),(11,vI j)]) (fun (n,i,j,cur) wx=>(1≤i∧1≤j∧a+i≤m∧m+j≤b)∧(i+j≤n+2)∧(cur.length=nn)∧(kb d m n i j cur=kb d m (b - a) (m - a) (b - m) z)∧S wx [Rw 44 3 p nn cc (mV ev cur),aB w (aT [Rw 44 3 p nn cc (mV ev z)])]) (fun (n,i,j,cur)=>i+j) ((b - a),(m - a),(b - m),z) ⟨(by omega),(by omega),hz,rfl,(H0.tk [0,1])⟩ ?_
 rintro ⟨n,i,j,cur⟩ h1 ⟨hij,hn,hcl,hR,H2⟩
 refine ah [0,2,4,10,11] ?_
 refine aE ?_
 refine bP (v:=.bool (!decide (((i:Int):Int)=(j:Int)))) (hb:=eh) ?_
 refine cD ?_
 by_cases H6:((i:Int):Int)=(j:Int)
 ·
  refine kw H6 ?_
  refine eG ?_
  refine bP (v:=vI (((m - i:Nat):Int))) (hb:=(fj (a:=m) (b:=i) (by omega))) ?_
  refine vV ?_
  refine l_of (aG (Gz d ev cs hcs hsz ho cur nn hcl p cc hm (m - i) m i (by omega) (by omega) (fv) _ (H2.tk [0])) ?_)
  rintro _ h0 ⟨rfl,H5⟩
  replace H5:=H2.aI1 [0] H5
  refine bW ?_
  refine aR ?_
  refine dO [] [] rfl trivial ?_
  have hij2:i=j:=by omega
  subst hij2
  exact ⟨rfl,by rw [← hR,J6]; exact (H5.tk [0,1])⟩
 refine mX H6 ?_
 refine dz ?_
 by_cases H4:((j:Int):Int)<(i:Int)
 ·
  refine bm H4 ?_
  refine aE ?_
  refine bP (v:=vI (((m - i:Nat):Int))) (hb:=(fj (a:=m) (b:=i) (by omega))) ?_
  refine vV ?_
  refine l_of (aG (Gz d ev cs hcs hsz ho cur nn hcl p cc hm (m - i) m j (by omega) (by omega) (fv) _ (H2.tk [0])) ?_)
  rintro _ H9 ⟨rfl,H8⟩
  replace H8:=H2.aI1 [0] H8
  refine bW ?_
  refine cD ?_
  refine ah [0,2,4,10,11] ?_
  refine aC ?_
  refine bP (v:=vI (((i - j:Nat):Int))) (hb:=(fj (a:=i) (b:=j) (by omega))) ?_
  refine aE ?_
  refine bD (i:=(n,i,j,cur)) ((n - 1),(i - j),j,(Ax d (m - i) m j cur)) ⟨(by omega),(by omega),(by rw [D1]; exact hcl),((J5 (by omega) (by omega) (by omega)).symm.trans hR),(H8.tk [0,1])⟩
 refine br H4 ?_
 refine aE ?_
 refine bP (v:=vI (((m - i:Nat):Int))) (hb:=(fj (a:=m) (b:=i) (by omega))) ?_
 refine ru ?_
 refine bP (v:=vI (((m+j:Nat):Int))) (hb:=(dq (a:=m) (b:=j) (by omega))) ?_
 refine cJ ?_
 refine bP (v:=vI (((m+j - i:Nat):Int))) (hb:=(fj (a:=m+j) (b:=i) (by omega))) ?_
 refine ru ?_
 refine l_of (aG (Gz d ev cs hcs hsz ho cur nn hcl p cc hm (m - i) (m+j - i) i (by omega) (by omega) (fv) _ (H2.tk [0])) ?_)
 rintro _ H7 ⟨rfl,H3⟩
 replace H3:=H2.aI1 [0] H3
 refine bW ?_
 refine cD ?_
 refine ah [0,2,4,10,11] ?_
 refine aC ?_
 refine bP (v:=vI (((j - i:Nat):Int))) (hb:=(fj (a:=j) (b:=i) (by omega))) ?_
 refine aE ?_
 refine bD (i:=(n,i,j,cur)) ((n - 1),i,(j - i),(Ax d (m - i) (m+j - i) i cur)) ⟨(by omega),(by omega),(by rw [D1]; exact hcl),((J4 (by omega) (by omega) (by omega)).symm.trans hR),(H3.tk [0,1])⟩
theorem Hb {β:Type} (d:β) (ev:β→Value) (cs:β→Array Value) (hcs:∀ x,ev x=.agg (cs x)) (hsz:∀ x,(ev x).cells.size=3) (ho:∀ x,(ev x).cells.toList.all (·.oneCell')=true) (z:List β) (nn:Nat) (hz:z.length=nn) (p:Option Addr) (cc:Nat) (hm:nn≤1099511627776) (c:β→β→Int) (gc:Nat) (fi ca:Array Value) (X:aD) (hc:zF Tryz.prog gc fi ca X ev c z) (a b:Nat) (hab:a≤b) (hb:b≤nn) (w:World) (HS:S w [Rw 44 3 p nn cc (mV ev z),X]):Calls Tryz.prog 172 #[.slice p nn cc,vI a,vI b,.func (.func gc) fi ca] w fun e w'=>e=.returned (.tuple #[])∧S w' ([Rw 44 3 p nn cc (mV ev (kU d c a b z)),X]++[aB w (aT [Rw 44 3 p nn cc (mV ev z),X])]):=by
 have H0:=HS.beginI
 refine en Tryz.func172 ?_
 refine ah [0,1,2,3] ?_
 refine ae ?_
 refine bP (v:=vI (((a+1:Nat):Int))) (hb:=(dq (a:=a) (b:=1) (by omega))) ?_
 refine aC ?_
 refine cQ (ι:=Nat × List β) (fun (i,cur)=>[(0,.slice p nn cc),(1,vI a),(2,vI b),(3,.func (.func gc) fi ca),(8,vI i)]) (fun (i,cur) wx=>(a+1≤i∧i≤max b (a+1))∧(cur.length=nn)∧(cur.Perm z)∧(j5 d c a (b - i) i cur=kU d c a b z)∧S wx [Rw 44 3 p nn cc (mV ev cur),X,aB w (aT [Rw 44 3 p nn cc (mV ev z),X])]) (fun (i,cur)=>b - i) ((a+1),z) ⟨(by omega),hz,(.refl _),rfl,(H0.tk [0,1,2])⟩ ?_
 rintro ⟨i,cur⟩ h8 ⟨hi,hcl,hpp,hR,H2⟩
 refine ah [0,1,2,3,8] ?_
 refine a_ ?_
 by_cases h1:((i:Int):Int)<(b:Int)
 ·
  refine bm h1 ?_
  refine eG ?_
  refine cQ (ι:=Nat × List β) (fun (j,cur2)=>[(0,.slice p nn cc),(1,vI a),(2,vI b),(3,.func (.func gc) fi ca),(8,vI i),(9,vI j)]) (fun (j,cur2) wx=>(a≤j∧j≤i)∧(cur2.length=nn)∧(cur2.Perm z)∧(i_ d c a j cur2=i_ d c a i cur)∧S wx [Rw 44 3 p nn cc (mV ev cur2),X,aB w (aT [Rw 44 3 p nn cc (mV ev z),X])]) (fun (j,cur2)=>j) (i,cur) ⟨(by omega),hcl,hpp,rfl,(H2.tk [0,1,2])⟩ ?_
  rintro ⟨j,cur2⟩ h7 ⟨hj,hcl2,hpp2,hR2,H5⟩
  refine ah [0,1,2,3,8,9] ?_
  have hpm:∀ y,y∈cur2→y∈z:=fun y hy=>(hpp2.mem_iff).1 hy
  iterate 2 refine g_seq ?_
  refine g_aS [] [] H5 (fun h6 H7=>?_)
  refine aU 0 H7 ?_
  refine aU 1 H7 ?_
  refine bT 2 rfl H7 (fun _ _=>ai rfl rfl rfl fK) ?_
  refine aU 3 H7 ?_
  by_cases H3:((a:Int):Int)<(j:Int)
  ·
   refine da 4 rfl (dt H3) H7 (fun _ _=>xm) ?_
   refine da 5 rfl (dt H3) H7 (fun _ _=>xm) ?_
   refine da 6 rfl (dt H3) H7 (fun _ _=>xm) ?_
   refine da (v:=.pointer ((p).map fun q=>q.add (j * 3))) 7 rfl (dt H3) H7 (fun _ _=>eZ j (H7.rwSome (k:=0) rfl (by omega))) ?_
   refine da (v:=ev (cur2.getD j d)) 8 rfl (dt H3) H7 (fun _ H=>aH (bc (vs:=(ev (cur2.getD j d)).cells.toList) j (H.rr 0) (by omega) rfl rfl Tryz.underlying44 rfl dE (by rw [Array.length_toList]; exact hsz _) (i7 hsz (by omega))) (by rw [hcs]; rfl)) ?_
   refine da 9 rfl (dt H3) H7 (fun _ _=>xm) ?_
   refine da 10 rfl (dt H3) H7 (fun _ _=>xm) ?_
   refine da (v:=vI (((j - 1:Nat):Int))) 11 rfl (dt H3) H7 (fun _ _=>ai rfl rfl rfl (fj (a:=j) (b:=1) (by omega))) ?_
   refine da (v:=.pointer ((p).map fun q=>q.add ((j - 1) * 3))) 12 rfl (dt H3) H7 (fun _ _=>eZ (j - 1) (H7.rwSome (k:=0) rfl (by omega))) ?_
   refine da (v:=ev (cur2.getD (j - 1) d)) 13 rfl (dt H3) H7 (fun _ H=>aH (bc (vs:=(ev (cur2.getD (j - 1) d)).cells.toList) (j - 1) (H.rr 0) (by omega) rfl rfl Tryz.underlying44 rfl dE (by rw [Array.length_toList]; exact hsz _) (i7 hsz (by omega))) (by rw [hcs]; rfl)) ?_
   refine bG (i:=14) ?_
   refine bR (cU rfl rfl rfl rfl (dt H3)) (gQ rfl rfl rfl hc.ok) (hc.does _ (hpm _ (gu (by omega))) _ (hpm _ (gu (by omega))) _ (H7.tk [1])) ?_
   rintro _ h5 ⟨rfl,H6⟩
   replace H6:=H7.aI1 [1] H6
   refine bW ?_
   refine bF (H6.tk [1,0,2]) ?_
   refine da 15 rfl (dt H3) (H6.tk [1,0,2]) (fun _ _=>ai rfl rfl rfl dG) ?_
   refine bT 16 rfl (H6.tk [1,0,2]) (fun _ _=>pt (dt H3)) ?_
   refine fP ?_
   refine aR ?_
   by_cases H4:((c (cur2.getD j d) (cur2.getD (j - 1) d)):Int)<0
   ·
    refine bm H4 ?_
    refine aE ?_
    refine g_anyY [] (fun wx=>S wx [X,Rw 44 3 p nn cc (mV ev cur2),aB w (aT [Rw 44 3 p nn cc (mV ev z),X])]) (fun wx=>S wx [X,aB w (aT [Rw 44 3 p nn cc (mV ev z),X])]) [15,17] (by kernel_rfl) H6 (fun h4 H9=>?_)
    refine fu 0 ?_
    refine fu 1 ?_
    refine fu 2 ?_
    refine fu 3 ?_
    refine rE (v:=vI (((j - 1:Nat):Int))) 4 rfl (fun _=>ai rfl rfl rfl (fj (a:=j) (b:=1) (by omega))) ?_
    refine fu 5 ?_
    refine fu 6 ?_
    refine rE (v:=vI (((j - 1:Nat):Int))) 7 rfl (fun _=>ai rfl rfl rfl (fj (a:=j) (b:=1) (by omega))) ?_
    refine rE 8 rfl (fun _=>eZ (j - 1) (H9.rwSome (k:=1) rfl (by omega))) ?_
    refine yt (v:=ev (cur2.getD (j - 1) d)) 9 rfl H9 (fun _ H=>aH (bc (vs:=(ev (cur2.getD (j - 1) d)).cells.toList) (j - 1) (H.rr 1) (by omega) rfl rfl Tryz.underlying44 rfl dE (by rw [Array.length_toList]; exact hsz _) (i7 hsz (by omega))) (by rw [hcs]; rfl)) ?_
    refine fu 10 ?_
    refine fu 11 ?_
    refine rE 12 rfl (fun _=>eZ j (H9.rwSome (k:=1) rfl (by omega))) ?_
    refine yt (v:=ev (cur2.getD j d)) 13 rfl H9 (fun _ H=>aH (bc (vs:=(ev (cur2.getD j d)).cells.toList) j (H.rr 1) (by omega) rfl rfl Tryz.underlying44 rfl dE (by rw [Array.length_toList]; exact hsz _) (i7 hsz (by omega))) (by rw [hcs]; rfl)) ?_
    refine rE 14 rfl (fun _=>eZ j (H9.rwSome (k:=1) rfl (by omega))) ?_
    refine sf (i:=15) ?_
    refine jT (j:=j) H9 1 (bh rfl) rfl rfl rfl rfl rfl (by rw [hsz]; exact dE) (hsz _) (ho _) (by omega) ?_
    intro h3 H8
    rw [qc hsz (cur2.getD (j - 1) d) (by first | omega | (simp only [List.length_set]; omega))] at H8
    replace H8:S _ [_,_,_]:=H8
    refine sj rfl (H8.tk [0,2]) ?_
    refine rE 16 rfl (fun _=>eZ (j - 1) (H8.rwSome (k:=1) rfl (by omega))) ?_
    refine sf (i:=17) ?_
    refine jT (j:=(j - 1)) H8 1 (bh rfl) rfl rfl rfl rfl rfl (by rw [hsz]; exact dE) (hsz _) (ho _) (by omega) ?_
    intro h2 h0
    rw [qc hsz (cur2.getD j d) (by first | omega | (simp only [List.length_set]; omega))] at h0
    replace h0:S _ [_,_,_]:=h0
    refine sj rfl (h0.tk [0,2]) ?_
    refine Cb ?_
    refine ae ?_
    refine ah [0,1,2,3,8,9,22,23,24,25,26,27,28,29,30,31,32,33] ?_
    refine ae ?_
    refine bP (v:=vI (((j - 1:Nat):Int))) (hb:=(fj (a:=j) (b:=1) (by omega))) ?_
    refine ae ?_
    refine bD (i:=(j,cur2)) ((j - 1),((cur2.set j (cur2.getD (j - 1) d)).set (j - 1) (cur2.getD j d))) ⟨(by omega),(by simp only [List.length_set]; exact hcl2),((A1 (by omega) (by omega)).trans hpp2),((IB (by omega) H4).symm.trans hR2),(h0.tk [1,0,2])⟩
   refine br H4 ?_
   refine aR ?_
   have hE:i_ d c a i cur=cur2:=hR2.symm.trans (Dg H4)
   refine cp ?_
   refine bP (v:=vI (((i+1:Nat):Int))) (hb:=(dq (a:=i) (b:=1) (by omega))) ?_
   refine ae ?_
   refine bD (i:=(i,cur)) ((i+1),cur2) ⟨(by omega),hcl2,hpp2,(by rw [← hE,← zm (by omega)]; exact hR),(H6.tk [1,0,2])⟩
  refine aZ 4 rfl (df H3) H7 ?_
  refine aZ 5 rfl (df H3) H7 ?_
  refine aZ 6 rfl (df H3) H7 ?_
  refine aZ 7 rfl (df H3) H7 ?_
  refine aZ 8 rfl (df H3) H7 ?_
  refine aZ 9 rfl (df H3) H7 ?_
  refine aZ 10 rfl (df H3) H7 ?_
  refine aZ 11 rfl (df H3) H7 ?_
  refine aZ 12 rfl (df H3) H7 ?_
  refine aZ 13 rfl (df H3) H7 ?_
  refine bG (i:=14) ?_
  refine ku (df H3) ?_
  refine bF H7 ?_
  refine aZ 15 rfl (df H3) H7 ?_
  refine bT 16 rfl H7 (fun _ _=>pf (df H3)) ?_
  refine fP ?_
  refine aR ?_
  refine g_cond_f rfl rfl ?_
  refine aR ?_
  have hE:i_ d c a i cur=cur2:=hR2.symm.trans (FQ (by omega))
  refine cp ?_
  refine bP (v:=vI (((i+1:Nat):Int))) (hb:=(dq (a:=i) (b:=1) (by omega))) ?_
  refine ae ?_
  refine bD (i:=(i,cur)) ((i+1),cur2) ⟨(by omega),hcl2,hpp2,(by rw [← hE,← zm (by omega)]; exact hR),(H7.tk [0,1,2])⟩
 refine br h1 ?_
 refine aE ?_
 refine dO [] [] rfl trivial ?_
 exact ⟨rfl,by rw [← hR,Df (by omega)]; exact (H2.tk [0,1,2])⟩
end Go.Proofs.YthmmfhdpkddniaaGreatDoor
