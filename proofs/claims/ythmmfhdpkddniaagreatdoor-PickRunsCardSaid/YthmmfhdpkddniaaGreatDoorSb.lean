import Derived.Test.YthmmfhdpkddniaaGreatDoorSa
set_option maxRecDepth 20000
set_option maxHeartbeats 4000000
set_option linter.all false
namespace Go.Proofs.YthmmfhdpkddniaaGreatDoor
open Go.RowKit
def MH {β:Type} (d:β) (ev:β→Value) (gc:Nat) (fi ca:Array Value) (c:β→β→Int) (X:aD) (zall:List β) (nn:Nat) (p:Option Addr) (cc n:Nat):Prop:=
 ∀ (z:List β) (_:z.length=nn) (_:z.Perm zall) (a m b:Nat) (_:a<m) (_:m<b) (_:b≤nn) (_:b - a≤n) (w:World) (_:S w [Rw 44 3 p nn cc (mV ev z),X]),
   Calls Tryz.prog 173 #[.slice p nn cc,.int .i64 (a:Int),.int .i64 (m:Int),.int .i64 (b:Int),.func (.func gc) fi ca] w fun e w'=>e=.returned (.tuple #[])∧S w' ([Rw 44 3 p nn cc (mV ev (iI d c n a m b z)),X]++[aB w (aT [Rw 44 3 p nn cc (mV ev z),X])])
theorem HL {β:Type} {d:β} {c:β→β→Int} {n a m b:Nat} {z:List β} (h:m - a=1):iI d c (n+1) a m b z=Dx d (pH (fun h=>decide (c (z.getD h d) (z.getD a d)<0)) (b - m) m b - 1 - a) a z:=by
 unfold iI; rw [if_pos h]
theorem HK {β:Type} {d:β} {c:β→β→Int} {n a m b:Nat} {z:List β} (h:¬ m - a=1) (h2:b - m=1):iI d c (n+1) a m b z=EV d (m - pH (fun h=>!decide (c (z.getD m d) (z.getD h d)<0)) (m - a) a m) m z:=by
 unfold iI; rw [if_neg h,if_pos h2]
theorem wU {β:Type} {d:β} {c:β→β→Int} {n a m b:Nat} {z:List β} (h:¬ m - a=1) (h2:¬ b - m=1) {s0 r0 st en:Nat} {l1 l2:List β} (e1:s0=if (a+b) / 2<m then (a+b) / 2+m - b else a) (e2:r0=if (a+b) / 2<m then (a+b) / 2 else m)
   (e3:pH (fun h=>!decide (c (z.getD ((a+b) / 2+m - 1 - h) d) (z.getD h d)<0)) (r0 - s0) s0 r0=st) (e4:en=(a+b) / 2+m - st) (e5:l1=if st<m∧m<en then kb d m (en - st) (m - st) (en - m) z else z)
   (e6:l2=if a<st∧st<(a+b) / 2 then iI d c n a st ((a+b) / 2) l1 else l1):iI d c (n+1) a m b z=if (a+b) / 2<en∧en<b then iI d c n ((a+b) / 2) en b l2 else l2:=by
 conv=>lhs; unfold iI
 rw [if_neg h,if_neg h2]
 dsimp only
 rw [← e1,← e2,e3,← e4,← e5,← e6]
theorem JM {a b m s0 r0:Nat} (h1:a<m) (h2:m<b) (e1:s0=if (a+b) / 2<m then (a+b) / 2+m - b else a) (e2:r0=if (a+b) / 2<m then (a+b) / 2 else m):s0≤r0∧a≤s0∧r0≤m∧r0≤(a+b) / 2∧(a+b) / 2+m - b≤s0:=by
 subst e1 e2; split <;> omega
theorem BU {β:Type} (d:β) (ev:β→Value) (cs:β→Array Value) (hcs:∀ x,ev x=.agg (cs x)) (hsz:∀ x,(ev x).cells.size=3) (ho:∀ x,(ev x).cells.toList.all (·.oneCell')=true) (z:List β) (nn:Nat) (hz:z.length=nn) (p:Option Addr) (cc:Nat) (hm:nn≤1099511627776) (c:β→β→Int) (gc:Nat) (fi ca:Array Value) (X:aD) (zall:List β) (hpp:z.Perm zall) (hc:zF Tryz.prog gc fi ca X ev c zall) (n:Nat) (ih:MH d ev gc fi ca c X zall nn p cc n) (a m b:Nat) (ham:a<m) (hmb:m<b) (hb:b≤nn) (hn:b - a≤n+1) (w:World) (HS:S w [Rw 44 3 p nn cc (mV ev z),X]):Calls Tryz.prog 173 #[.slice p nn cc,vI a,vI m,vI b,.func (.func gc) fi ca] w fun e w'=>e=.returned (.tuple #[])∧S w' ([Rw 44 3 p nn cc (mV ev (iI d c (n+1) a m b z)),X]++[aB w (aT [Rw 44 3 p nn cc (mV ev z),X])]):=by
 have H0:=HS.beginI
 have hpm:∀ y,y∈z→y∈zall:=fun y hy=>(hpp.mem_iff).1 hy
 refine en Tryz.func173 ?_
 refine ah [0,1,2,3,4] ?_
 refine aE ?_
 refine bP (v:=vI (((m - a:Nat):Int))) (hb:=(fj (a:=m) (b:=a) (by omega))) ?_
 refine ae ?_
 by_cases x5:(((m - a:Nat):Int):Int)=1
 ·
  refine bm x5 ?_
  refine cS ?_
  refine cQ (ι:=Nat × Nat × Nat) (fun (n9,i,j)=>[(0,.slice p nn cc),(1,vI a),(4,.func (.func gc) fi ca),(10,vI i),(11,vI j)]) (fun (n9,i,j) wx=>(m≤i∧i≤j∧j≤b)∧(j - i≤n9)∧(pH (fun h=>decide (c (z.getD h d) (z.getD a d)<0)) n9 i j=pH (fun h=>decide (c (z.getD h d) (z.getD a d)<0)) (b - m) m b)∧S wx [Rw 44 3 p nn cc (mV ev z),X,aB w (aT [Rw 44 3 p nn cc (mV ev z),X])]) (fun (n9,i,j)=>j - i) ((b - m),m,b) ⟨(by omega),(Nat.le_refl _),rfl,(H0.tk [0,1,2])⟩ ?_
  rintro ⟨n9,i,j⟩ m4 ⟨hij,hn9,hbs,H3⟩
  refine ah [0,1,4,10,11] ?_
  refine a_ ?_
  by_cases x4:((i:Int):Int)<(j:Int)
  ·
   refine bm x4 ?_
   refine a_ ?_
   refine bP (v:=vI (((i+j:Nat):Int))) (hb:=(dq (a:=i) (b:=j) (by omega))) ?_
   refine w_v (v:=.int .u64 (((i+j:Nat):Int))) (fg rfl rfl Tryz.underlying3 Tryz.underlying144 (kK (by omega))) ?_
   refine bP (v:=.int .u64 ((((i+j) / 2:Nat):Int))) (hb:=(mI (a:=i+j) (n:=1) (by decide))) ?_
   refine w_v (v:=vI ((((i+j) / 2:Nat):Int))) (fg rfl rfl Tryz.underlying144 Tryz.underlying3 (jD (by omega))) ?_
   refine ae ?_
   refine g_seq ?_
   refine g_aS [] [] H3 (fun m3 H6=>?_)
   refine aU 0 H6 ?_
   refine aU 1 H6 ?_
   refine aU 2 H6 ?_
   refine bT (v:=.pointer ((p).map fun q=>q.add (((i+j) / 2) * 3))) 3 rfl H6 (fun _ _=>eZ ((i+j) / 2) (H6.rwSome (k:=0) rfl (by omega))) ?_
   refine bT (v:=ev (z.getD ((i+j) / 2) d)) 4 rfl H6 (fun _ H=>aH (bc (vs:=(ev (z.getD ((i+j) / 2) d)).cells.toList) ((i+j) / 2) (H.rr 0) (by omega) rfl rfl Tryz.underlying44 rfl dE (by rw [Array.length_toList]; exact hsz _) (i7 hsz (by omega))) (by rw [hcs]; rfl)) ?_
   refine aU 5 H6 ?_
   refine aU 6 H6 ?_
   refine bT (v:=.pointer ((p).map fun q=>q.add (a * 3))) 7 rfl H6 (fun _ _=>eZ a (H6.rwSome (k:=0) rfl (by omega))) ?_
   refine bT (v:=ev (z.getD a d)) 8 rfl H6 (fun _ H=>aH (bc (vs:=(ev (z.getD a d)).cells.toList) a (H.rr 0) (by omega) rfl rfl Tryz.underlying44 rfl dE (by rw [Array.length_toList]; exact hsz _) (i7 hsz (by omega))) (by rw [hcs]; rfl)) ?_
   refine bG (i:=9) ?_
   refine bR (bh rfl) (gQ rfl rfl rfl hc.ok) (hc.does _ (hpm _ (gu (by omega))) _ (hpm _ (gu (by omega))) _ (H6.tk [1])) ?_
   rintro _ m2 ⟨rfl,H8⟩
   replace H8:=H6.aI1 [1] H8
   refine bW ?_
   refine bF (H8.tk [1,0,2]) ?_
   refine bT 10 rfl (H8.tk [1,0,2]) (fun _ _=>ai rfl rfl rfl dG) ?_
   refine fP ?_
   refine aR ?_
   refine ah [0,1,4,10,11,12,50] ?_
   by_cases x1:((c (z.getD ((i+j) / 2) d) (z.getD a d)):Int)<0
   ·
    refine bm x1 ?_
    refine ae ?_
    refine bP (v:=vI (((((i+j) / 2)+1:Nat):Int))) (hb:=(dq (a:=((i+j) / 2)) (b:=1) (by omega))) ?_
    refine aE ?_
    refine bD (i:=(n9,i,j)) ((n9 - 1),((i+j) / 2+1),j) ⟨(by omega),(by omega),((GI (by omega) hn9 (dt x1)).symm.trans hbs),(H8.tk [1,0,2])⟩
   refine br x1 ?_
   refine a_ ?_
   refine bD (i:=(n9,i,j)) ((n9 - 1),i,((i+j) / 2)) ⟨(by omega),(by omega),((GK (by omega) hn9 (df x1)).symm.trans hbs),(H8.tk [1,0,2])⟩
  refine br x4 ?_
  refine aR ?_
  have hst:i=pH (fun h=>decide (c (z.getD h d) (z.getD a d)<0)) (b - m) m b:=(xA (by omega)).symm.trans hbs
  obtain ⟨st,hst2⟩:∃ st,st=i:=⟨_,rfl⟩
  rw [← hst2] at hst
  have hst3:m≤st∧st≤b:=by omega
  rw [show i=st from hst2.symm]
  refine cS ?_
  refine cQ (ι:=Nat × List β) (fun (k,cur)=>[(0,.slice p nn cc),(10,vI st),(13,vI k)]) (fun (k,cur) wx=>(a≤k∧k<b)∧(cur.length=nn)∧(Dx d (st - 1 - k) k cur=Dx d (st - 1 - a) a z)∧S wx [Rw 44 3 p nn cc (mV ev cur),X,aB w (aT [Rw 44 3 p nn cc (mV ev z),X])]) (fun (k,cur)=>st - 1 - k) (a,z) ⟨(by omega),hz,rfl,(H3.tk [0,1,2])⟩ ?_
  rintro ⟨k,cur⟩ k9 ⟨hk,hcl,hR,c7⟩
  refine ah [0,10,13] ?_
  refine aE ?_
  refine bP (v:=vI (((st - 1:Nat):Int))) (hb:=(fj (a:=st) (b:=1) (by omega))) ?_
  refine ae ?_
  by_cases g6:((k:Int):Int)<((st - 1:Nat):Int)
  ·
   refine bm g6 ?_
   refine aE ?_
   refine g_anyY [] (fun wx=>S wx [Rw 44 3 p nn cc (mV ev cur),X,aB w (aT [Rw 44 3 p nn cc (mV ev z),X])]) (fun wx=>S wx [X,aB w (aT [Rw 44 3 p nn cc (mV ev z),X])]) [15,17] (by kernel_rfl) c7 (fun k7 h7=>?_)
   refine fu 0 ?_
   refine fu 1 ?_
   refine fu 2 ?_
   refine fu 3 ?_
   refine rE (v:=vI (((k+1:Nat):Int))) 4 rfl (fun _=>ai rfl rfl rfl (dq (a:=k) (b:=1) (by omega))) ?_
   refine fu 5 ?_
   refine fu 6 ?_
   refine rE (v:=vI (((k+1:Nat):Int))) 7 rfl (fun _=>ai rfl rfl rfl (dq (a:=k) (b:=1) (by omega))) ?_
   refine rE 8 rfl (fun _=>eZ (k+1) (h7.rwSome (k:=0) rfl (by omega))) ?_
   refine yt (v:=ev (cur.getD (k+1) d)) 9 rfl h7 (fun _ H=>aH (bc (vs:=(ev (cur.getD (k+1) d)).cells.toList) (k+1) (H.rr 0) (by omega) rfl rfl Tryz.underlying44 rfl dE (by rw [Array.length_toList]; exact hsz _) (i7 hsz (by omega))) (by rw [hcs]; rfl)) ?_
   refine fu 10 ?_
   refine fu 11 ?_
   refine rE 12 rfl (fun _=>eZ k (h7.rwSome (k:=0) rfl (by omega))) ?_
   refine yt (v:=ev (cur.getD k d)) 13 rfl h7 (fun _ H=>aH (bc (vs:=(ev (cur.getD k d)).cells.toList) k (H.rr 0) (by omega) rfl rfl Tryz.underlying44 rfl dE (by rw [Array.length_toList]; exact hsz _) (i7 hsz (by omega))) (by rw [hcs]; rfl)) ?_
   refine rE 14 rfl (fun _=>eZ k (h7.rwSome (k:=0) rfl (by omega))) ?_
   refine sf (i:=15) ?_
   refine jT (j:=k) h7 0 (bh rfl) rfl rfl rfl rfl rfl (by rw [hsz]; exact dE) (hsz _) (ho _) (by omega) ?_
   intro k6 h6
   rw [qc hsz (cur.getD (k+1) d) (by first | omega | (simp only [List.length_set]; omega))] at h6
   replace h6:S _ [_,_,_]:=h6
   refine sj rfl (h6.tk [1,2]) ?_
   refine rE 16 rfl (fun _=>eZ (k+1) (h6.rwSome (k:=0) rfl (by omega))) ?_
   refine sf (i:=17) ?_
   refine jT (j:=(k+1)) h6 0 (bh rfl) rfl rfl rfl rfl rfl (by rw [hsz]; exact dE) (hsz _) (ho _) (by omega) ?_
   intro k5 g9
   rw [qc hsz (cur.getD k d) (by first | omega | (simp only [List.length_set]; omega))] at g9
   replace g9:S _ [_,_,_]:=g9
   refine sj rfl (g9.tk [1,2]) ?_
   refine Cb ?_
   refine ae ?_
   refine ah [0,10,13] ?_
   refine ae ?_
   refine bP (v:=vI (((k+1:Nat):Int))) (hb:=(dq (a:=k) (b:=1) (by omega))) ?_
   refine ae ?_
   refine bD (i:=(k,cur)) ((k+1),((cur.set k (cur.getD (k+1) d)).set (k+1) (cur.getD k d))) ⟨(by omega),(by simp only [List.length_set]; exact hcl),((Np (by omega)).symm.trans hR),(g9.tk [0,1,2])⟩
  refine br g6 ?_
  refine cp ?_
  refine d5 [] [] rfl trivial ?_
  exact ⟨rfl,by rw [HL (by omega),← hst,← hR,JX (by omega)]; exact (c7.tk [0,1,2])⟩
 refine br x5 ?_
 refine a_ ?_
 refine bP (v:=vI (((b - m:Nat):Int))) (hb:=(fj (a:=b) (b:=m) (by omega))) ?_
 refine ae ?_
 by_cases g5:(((b - m:Nat):Int):Int)=1
 ·
  refine bm g5 ?_
  refine dz ?_
  refine ah [0,2,4,14,15] ?_
  refine ae ?_
  refine cQ (ι:=Nat × Nat × Nat) (fun (n9,i,j)=>[(0,.slice p nn cc),(2,vI m),(4,.func (.func gc) fi ca),(14,vI i),(15,vI j)]) (fun (n9,i,j) wx=>(a≤i∧i≤j∧j≤m)∧(j - i≤n9)∧(pH (fun h=>!decide (c (z.getD m d) (z.getD h d)<0)) n9 i j=pH (fun h=>!decide (c (z.getD m d) (z.getD h d)<0)) (m - a) a m)∧S wx [Rw 44 3 p nn cc (mV ev z),X,aB w (aT [Rw 44 3 p nn cc (mV ev z),X])]) (fun (n9,i,j)=>j - i) ((m - a),a,m) ⟨(by omega),(Nat.le_refl _),rfl,(H0.tk [0,1,2])⟩ ?_
  rintro ⟨n9,i,j⟩ k4 ⟨hij,hn9,hbs,c6⟩
  refine ah [0,2,4,14,15] ?_
  refine a_ ?_
  by_cases g4:((i:Int):Int)<(j:Int)
  ·
   refine bm g4 ?_
   refine a_ ?_
   refine bP (v:=vI (((i+j:Nat):Int))) (hb:=(dq (a:=i) (b:=j) (by omega))) ?_
   refine w_v (v:=.int .u64 (((i+j:Nat):Int))) (fg rfl rfl Tryz.underlying3 Tryz.underlying144 (kK (by omega))) ?_
   refine bP (v:=.int .u64 ((((i+j) / 2:Nat):Int))) (hb:=(mI (a:=i+j) (n:=1) (by decide))) ?_
   refine w_v (v:=vI ((((i+j) / 2:Nat):Int))) (fg rfl rfl Tryz.underlying144 Tryz.underlying3 (jD (by omega))) ?_
   refine ae ?_
   refine g_seq ?_
   refine g_aS [] [] c6 (fun k3 H4=>?_)
   refine aU 0 H4 ?_
   refine aU 1 H4 ?_
   refine aU 2 H4 ?_
   refine bT (v:=.pointer ((p).map fun q=>q.add (m * 3))) 3 rfl H4 (fun _ _=>eZ m (H4.rwSome (k:=0) rfl (by omega))) ?_
   refine bT (v:=ev (z.getD m d)) 4 rfl H4 (fun _ H=>aH (bc (vs:=(ev (z.getD m d)).cells.toList) m (H.rr 0) (by omega) rfl rfl Tryz.underlying44 rfl dE (by rw [Array.length_toList]; exact hsz _) (i7 hsz (by omega))) (by rw [hcs]; rfl)) ?_
   refine aU 5 H4 ?_
   refine aU 6 H4 ?_
   refine bT (v:=.pointer ((p).map fun q=>q.add (((i+j) / 2) * 3))) 7 rfl H4 (fun _ _=>eZ ((i+j) / 2) (H4.rwSome (k:=0) rfl (by omega))) ?_
   refine bT (v:=ev (z.getD ((i+j) / 2) d)) 8 rfl H4 (fun _ H=>aH (bc (vs:=(ev (z.getD ((i+j) / 2) d)).cells.toList) ((i+j) / 2) (H.rr 0) (by omega) rfl rfl Tryz.underlying44 rfl dE (by rw [Array.length_toList]; exact hsz _) (i7 hsz (by omega))) (by rw [hcs]; rfl)) ?_
   refine bG (i:=9) ?_
   refine bR (bh rfl) (gQ rfl rfl rfl hc.ok) (hc.does _ (hpm _ (gu (by omega))) _ (hpm _ (gu (by omega))) _ (H4.tk [1])) ?_
   rintro _ k2 ⟨rfl,h3⟩
   replace h3:=H4.aI1 [1] h3
   refine bW ?_
   refine bF (h3.tk [1,0,2]) ?_
   refine bT 10 rfl (h3.tk [1,0,2]) (fun _ _=>ai rfl rfl rfl dG) ?_
   refine bT (v:=.bool (!decide (((c (z.getD m d) (z.getD ((i+j) / 2) d)):Int)<0))) 11 rfl (h3.tk [1,0,2]) (fun _ _=>cj (b:=decide (((c (z.getD m d) (z.getD ((i+j) / 2) d)):Int)<0)) rfl rfl) ?_
   refine fP ?_
   refine aR ?_
   refine ah [0,2,4,14,15,16,103] ?_
   by_cases h1:((c (z.getD m d) (z.getD ((i+j) / 2) d)):Int)<0
   ·
    refine kw h1 ?_
    refine a_ ?_
    refine bD (i:=(n9,i,j)) ((n9 - 1),i,((i+j) / 2)) ⟨(by omega),(by omega),((GK (by omega) hn9 (nf h1)).symm.trans hbs),(h3.tk [1,0,2])⟩
   refine mX h1 ?_
   refine ae ?_
   refine bP (v:=vI (((((i+j) / 2)+1:Nat):Int))) (hb:=(dq (a:=((i+j) / 2)) (b:=1) (by omega))) ?_
   refine aE ?_
   refine bD (i:=(n9,i,j)) ((n9 - 1),((i+j) / 2+1),j) ⟨(by omega),(by omega),((GI (by omega) hn9 (nt h1)).symm.trans hbs),(h3.tk [1,0,2])⟩
  refine br g4 ?_
  refine aR ?_
  have hst:i=pH (fun h=>!decide (c (z.getD m d) (z.getD h d)<0)) (m - a) a m:=(xA (by omega)).symm.trans hbs
  obtain ⟨st,hst2⟩:∃ st,st=i:=⟨_,rfl⟩
  rw [← hst2] at hst
  have hst3:a≤st∧st≤m:=by omega
  rw [show i=st from hst2.symm]
  refine cS ?_
  refine cQ (ι:=Nat × List β) (fun (k,cur)=>[(0,.slice p nn cc),(14,vI st),(17,vI k)]) (fun (k,cur) wx=>(k≤m∧(k=m∨st≤k))∧(cur.length=nn)∧(EV d (k - st) k cur=EV d (m - st) m z)∧S wx [Rw 44 3 p nn cc (mV ev cur),X,aB w (aT [Rw 44 3 p nn cc (mV ev z),X])]) (fun (k,cur)=>k - st) (m,z) ⟨(by omega),hz,rfl,(c6.tk [0,1,2])⟩ ?_
  rintro ⟨k,cur⟩ k1 ⟨hk,hcl,hR,x9⟩
  refine ah [0,14,17] ?_
  refine a_ ?_
  by_cases g3:((st:Int):Int)<(k:Int)
  ·
   refine bm g3 ?_
   refine aE ?_
   refine g_anyY [] (fun wx=>S wx [Rw 44 3 p nn cc (mV ev cur),X,aB w (aT [Rw 44 3 p nn cc (mV ev z),X])]) (fun wx=>S wx [X,aB w (aT [Rw 44 3 p nn cc (mV ev z),X])]) [15,17] (by kernel_rfl) x9 (fun k0 h5=>?_)
   refine fu 0 ?_
   refine fu 1 ?_
   refine fu 2 ?_
   refine fu 3 ?_
   refine rE (v:=vI (((k - 1:Nat):Int))) 4 rfl (fun _=>ai rfl rfl rfl (fj (a:=k) (b:=1) (by omega))) ?_
   refine fu 5 ?_
   refine fu 6 ?_
   refine rE (v:=vI (((k - 1:Nat):Int))) 7 rfl (fun _=>ai rfl rfl rfl (fj (a:=k) (b:=1) (by omega))) ?_
   refine rE 8 rfl (fun _=>eZ (k - 1) (h5.rwSome (k:=0) rfl (by omega))) ?_
   refine yt (v:=ev (cur.getD (k - 1) d)) 9 rfl h5 (fun _ H=>aH (bc (vs:=(ev (cur.getD (k - 1) d)).cells.toList) (k - 1) (H.rr 0) (by omega) rfl rfl Tryz.underlying44 rfl dE (by rw [Array.length_toList]; exact hsz _) (i7 hsz (by omega))) (by rw [hcs]; rfl)) ?_
   refine fu 10 ?_
   refine fu 11 ?_
   refine rE 12 rfl (fun _=>eZ k (h5.rwSome (k:=0) rfl (by omega))) ?_
   refine yt (v:=ev (cur.getD k d)) 13 rfl h5 (fun _ H=>aH (bc (vs:=(ev (cur.getD k d)).cells.toList) k (H.rr 0) (by omega) rfl rfl Tryz.underlying44 rfl dE (by rw [Array.length_toList]; exact hsz _) (i7 hsz (by omega))) (by rw [hcs]; rfl)) ?_
   refine rE 14 rfl (fun _=>eZ k (h5.rwSome (k:=0) rfl (by omega))) ?_
   refine sf (i:=15) ?_
   refine jT (j:=k) h5 0 (bh rfl) rfl rfl rfl rfl rfl (by rw [hsz]; exact dE) (hsz _) (ho _) (by omega) ?_
   intro b9 h4
   rw [qc hsz (cur.getD (k - 1) d) (by first | omega | (simp only [List.length_set]; omega))] at h4
   replace h4:S _ [_,_,_]:=h4
   refine sj rfl (h4.tk [1,2]) ?_
   refine rE 16 rfl (fun _=>eZ (k - 1) (h4.rwSome (k:=0) rfl (by omega))) ?_
   refine sf (i:=17) ?_
   refine jT (j:=(k - 1)) h4 0 (bh rfl) rfl rfl rfl rfl rfl (by rw [hsz]; exact dE) (hsz _) (ho _) (by omega) ?_
   intro b8 g8
   rw [qc hsz (cur.getD k d) (by first | omega | (simp only [List.length_set]; omega))] at g8
   replace g8:S _ [_,_,_]:=g8
   refine sj rfl (g8.tk [1,2]) ?_
   refine Cb ?_
   refine ae ?_
   refine ah [0,14,17] ?_
   refine ae ?_
   refine bP (v:=vI (((k - 1:Nat):Int))) (hb:=(fj (a:=k) (b:=1) (by omega))) ?_
   refine ae ?_
   refine bD (i:=(k,cur)) ((k - 1),((cur.set k (cur.getD (k - 1) d)).set (k - 1) (cur.getD k d))) ⟨(by omega),(by simp only [List.length_set]; exact hcl),((Nq (by omega)).symm.trans hR),(g8.tk [0,1,2])⟩
  refine br g3 ?_
  refine cp ?_
  refine d5 [] [] rfl trivial ?_
  exact ⟨rfl,by rw [HK (by omega) (by omega),← hst,← hR,JY (by omega)]; exact (x9.tk [0,1,2])⟩
 refine br g5 ?_
 refine aQ ?_
 refine bP (v:=vI (((a+b:Nat):Int))) (hb:=(dq (a:=a) (b:=b) (by omega))) ?_
 refine w_v (v:=.int .u64 (((a+b:Nat):Int))) (fg rfl rfl Tryz.underlying3 Tryz.underlying144 (kK (by omega))) ?_
 refine bP (v:=.int .u64 ((((a+b) / 2:Nat):Int))) (hb:=(mI (a:=a+b) (n:=1) (by decide))) ?_
 refine w_v (v:=vI ((((a+b) / 2:Nat):Int))) (fg rfl rfl Tryz.underlying144 Tryz.underlying3 (jD (by omega))) ?_
 refine ae ?_
 refine ah [0,1,2,3,4,18] ?_
 refine aC ?_
 refine bP (v:=vI (((((a+b) / 2)+m:Nat):Int))) (hb:=(dq (a:=((a+b) / 2)) (b:=m) (by omega))) ?_
 refine a_ ?_
 refine g_seq ?_
 refine g_cut (ι:=Nat × Nat) (fun (s0,r0)=>[(0,.slice p nn cc),(1,vI a),(2,vI m),(3,vI b),(4,.func (.func gc) fi ca),(18,vI ((((a+b) / 2:Nat):Int))),(19,vI (((((a+b) / 2)+m:Nat):Int))),(20,vI s0),(21,vI r0)]) (fun (s0,r0) wx=>(s0=if (a+b) / 2<m then (a+b) / 2+m - b else a)∧(r0=if (a+b) / 2<m then (a+b) / 2 else m)∧S wx [Rw 44 3 p nn cc (mV ev z),X,aB w (aT [Rw 44 3 p nn cc (mV ev z),X])]) ?_ ?_
 ·
  refine aQ ?_
  by_cases g2:((((a+b) / 2:Nat):Int):Int)<(m:Int)
  ·
   refine bm g2 ?_
   refine aC ?_
   refine bP (v:=vI ((((a+b) / 2+m - b:Nat):Int))) (hb:=(fj (a:=(a+b) / 2+m) (b:=b) (by omega))) ?_
   refine a_ ?_
   refine iu (((a+b) / 2+m - b),((a+b) / 2)) ?_ ?_
   · exact ⟨rfl,rfl,rfl,rfl,rfl,rfl,rfl,rfl,rfl,trivial⟩
   exact ⟨((if_pos (by omega)).symm),((if_pos (by omega)).symm),H0⟩
  refine br g2 ?_
  refine dz ?_
  refine iu (a,m) ?_ ?_
  · exact ⟨rfl,rfl,rfl,rfl,rfl,rfl,rfl,rfl,rfl,trivial⟩
  exact ⟨((if_neg (by omega)).symm),((if_neg (by omega)).symm),H0⟩
 rintro ⟨s0,r0⟩ b7 ⟨hs0,hr0,m1⟩
 refine ah [0,1,2,3,4,18,19,20,21] ?_
 refine ae ?_
 refine bP (v:=vI ((((a+b) / 2+m - 1:Nat):Int))) (hb:=(fj (a:=(a+b) / 2+m) (b:=1) (by omega))) ?_
 refine aE ?_
 obtain ⟨x5,m7,m6,x4,m5⟩:=JM ham hmb hs0 hr0
 refine cQ (ι:=Nat × Nat × Nat) (fun (n9,s,r)=>[(0,.slice p nn cc),(1,vI a),(2,vI m),(3,vI b),(4,.func (.func gc) fi ca),(18,vI ((((a+b) / 2:Nat):Int))),(19,vI (((((a+b) / 2)+m:Nat):Int))),(20,vI s),(21,vI r),(22,vI ((((a+b) / 2+m - 1:Nat):Int)))]) (fun (n9,s,r) wx=>(s0≤s∧s≤r∧r≤r0)∧(r - s≤n9)∧(pH (fun h=>!decide (c (z.getD ((a+b) / 2+m - 1 - h) d) (z.getD h d)<0)) n9 s r=pH (fun h=>!decide (c (z.getD ((a+b) / 2+m - 1 - h) d) (z.getD h d)<0)) (r0 - s0) s0 r0)∧S wx [Rw 44 3 p nn cc (mV ev z),X,aB w (aT [Rw 44 3 p nn cc (mV ev z),X])]) (fun (n9,s,r)=>r - s) ((r0 - s0),s0,r0) ⟨(by omega),(Nat.le_refl _),rfl,(m1.tk [0,1,2])⟩ ?_
 rintro ⟨n9,s,r⟩ b6 ⟨hij,hn9,hbs,g7⟩
 refine ah [0,1,2,3,4,18,19,20,21,22] ?_
 refine a_ ?_
 by_cases g1:((s:Int):Int)<(r:Int)
 ·
  refine bm g1 ?_
  refine a_ ?_
  refine bP (v:=vI (((s+r:Nat):Int))) (hb:=(dq (a:=s) (b:=r) (by omega))) ?_
  refine w_v (v:=.int .u64 (((s+r:Nat):Int))) (fg rfl rfl Tryz.underlying3 Tryz.underlying144 (kK (by omega))) ?_
  refine bP (v:=.int .u64 ((((s+r) / 2:Nat):Int))) (hb:=(mI (a:=s+r) (n:=1) (by decide))) ?_
  refine w_v (v:=vI ((((s+r) / 2:Nat):Int))) (fg rfl rfl Tryz.underlying144 Tryz.underlying3 (jD (by omega))) ?_
  refine ae ?_
  refine g_seq ?_
  refine g_aS [] [] g7 (fun b2 H2=>?_)
  refine aU 0 H2 ?_
  refine aU 1 H2 ?_
  refine aU 2 H2 ?_
  refine aU 3 H2 ?_
  refine bT (v:=vI ((((a+b) / 2+m - 1 - (s+r) / 2:Nat):Int))) 4 rfl H2 (fun _ _=>ai rfl rfl rfl (fj (a:=(a+b) / 2+m - 1) (b:=(s+r) / 2) (by omega))) ?_
  refine bT (v:=.pointer ((p).map fun q=>q.add (((a+b) / 2+m - 1 - (s+r) / 2) * 3))) 5 rfl H2 (fun _ _=>eZ ((a+b) / 2+m - 1 - (s+r) / 2) (H2.rwSome (k:=0) rfl (by omega))) ?_
  refine bT (v:=ev (z.getD ((a+b) / 2+m - 1 - (s+r) / 2) d)) 6 rfl H2 (fun _ H=>aH (bc (vs:=(ev (z.getD ((a+b) / 2+m - 1 - (s+r) / 2) d)).cells.toList) ((a+b) / 2+m - 1 - (s+r) / 2) (H.rr 0) (by omega) rfl rfl Tryz.underlying44 rfl dE (by rw [Array.length_toList]; exact hsz _) (i7 hsz (by omega))) (by rw [hcs]; rfl)) ?_
  refine aU 7 H2 ?_
  refine aU 8 H2 ?_
  refine bT (v:=.pointer ((p).map fun q=>q.add (((s+r) / 2) * 3))) 9 rfl H2 (fun _ _=>eZ ((s+r) / 2) (H2.rwSome (k:=0) rfl (by omega))) ?_
  refine bT (v:=ev (z.getD ((s+r) / 2) d)) 10 rfl H2 (fun _ H=>aH (bc (vs:=(ev (z.getD ((s+r) / 2) d)).cells.toList) ((s+r) / 2) (H.rr 0) (by omega) rfl rfl Tryz.underlying44 rfl dE (by rw [Array.length_toList]; exact hsz _) (i7 hsz (by omega))) (by rw [hcs]; rfl)) ?_
  refine bG (i:=11) ?_
  refine bR (bh rfl) (gQ rfl rfl rfl hc.ok) (hc.does _ (hpm _ (gu (by omega))) _ (hpm _ (gu (by omega))) _ (H2.tk [1])) ?_
  rintro _ b1 ⟨rfl,h2⟩
  replace h2:=H2.aI1 [1] h2
  refine bW ?_
  refine bF (h2.tk [1,0,2]) ?_
  refine bT 12 rfl (h2.tk [1,0,2]) (fun _ _=>ai rfl rfl rfl dG) ?_
  refine bT (v:=.bool (!decide (((c (z.getD ((a+b) / 2+m - 1 - (s+r) / 2) d) (z.getD ((s+r) / 2) d)):Int)<0))) 13 rfl (h2.tk [1,0,2]) (fun _ _=>cj (b:=decide (((c (z.getD ((a+b) / 2+m - 1 - (s+r) / 2) d) (z.getD ((s+r) / 2) d)):Int)<0)) rfl rfl) ?_
  refine fP ?_
  refine aR ?_
  refine ah [0,1,2,3,4,18,19,20,21,22,23,171] ?_
  by_cases h0:((c (z.getD ((a+b) / 2+m - 1 - (s+r) / 2) d) (z.getD ((s+r) / 2) d)):Int)<0
  ·
   refine kw h0 ?_
   refine a_ ?_
   refine bD (i:=(n9,s,r)) ((n9 - 1),s,((s+r) / 2)) ⟨(by omega),(by omega),((GK (by omega) hn9 (nf h0)).symm.trans hbs),(h2.tk [1,0,2])⟩
  refine mX h0 ?_
  refine ae ?_
  refine bP (v:=vI (((((s+r) / 2)+1:Nat):Int))) (hb:=(dq (a:=((s+r) / 2)) (b:=1) (by omega))) ?_
  refine aE ?_
  refine bD (i:=(n9,s,r)) ((n9 - 1),((s+r) / 2+1),r) ⟨(by omega),(by omega),((GI (by omega) hn9 (nt h0)).symm.trans hbs),(h2.tk [1,0,2])⟩
 refine br g1 ?_
 refine aR ?_
 have hst:s=pH (fun h=>!decide (c (z.getD ((a+b) / 2+m - 1 - h) d) (z.getD h d)<0)) (r0 - s0) s0 r0:=(xA (by omega)).symm.trans hbs
 obtain ⟨st,hst2⟩:∃ st,st=s:=⟨_,rfl⟩
 rw [← hst2] at hst
 have hst3:s0≤st∧st≤r0:=by omega
 rw [show s=st from hst2.symm]
 refine cp ?_
 obtain ⟨en,hen⟩:∃ en,en=(a+b) / 2+m - st:=⟨_,rfl⟩
 have hen2:m≤en∧en≤b∧a≤st∧st≤m∧st≤(a+b) / 2∧(a+b) / 2≤en∧((st<m∧m<en)→en - st<b - a+1):=by omega
 refine w_v (v:=vI en) (aH (ai rfl rfl rfl (fj (a:=(a+b) / 2+m) (b:=st) (by omega))) (by rw [hen])) ?_
 refine ae ?_
 refine g_seq ?_
 refine g_cut (ι:=List β) (fun l1=>[(0,.slice p nn cc),(1,vI a),(3,vI b),(4,.func (.func gc) fi ca),(18,vI ((((a+b) / 2:Nat):Int))),(20,vI st),(24,vI en)]) (fun l1 wx=>(l1=if st<m∧m<en then kb d m (en - st) (m - st) (en - m) z else z)∧(l1.length=nn)∧(l1.Perm zall)∧S wx [Rw 44 3 p nn cc (mV ev l1),X,aB w (aT [Rw 44 3 p nn cc (mV ev z),X])]) ?_ ?_
 ·
  refine aQ ?_
  by_cases H9:((st:Int):Int)<(m:Int)
  ·
   iterate 2 refine aN (dt H9) xm ?_
   refine aN (dt H9) (ai rfl rfl rfl dG) ?_
   refine w_v (pt (dt H9)) ?_
   refine cD ?_
   refine ah [0,1,2,3,4,18,20,24,185] ?_
   by_cases g0:((m:Int):Int)<(en:Int)
   ·
    refine bm g0 ?_
    refine a_ ?_
    refine l_of (aG (NC d ev cs hcs hsz ho z nn hz p cc hm st m en (by omega) (by omega) (by omega) (.func (.func gc) fi ca) _ (g7.tk [0])) ?_)
    rintro _ b0 ⟨rfl,x8⟩
    replace x8:=g7.aI1 [0] x8
    refine bW ?_
    refine cD ?_
    refine iu ((kb d m (en - st) (m - st) (en - m) z)) ?_ ?_
    · exact ⟨rfl,rfl,rfl,rfl,rfl,rfl,rfl,trivial⟩
    exact ⟨((if_pos (by omega)).symm),(by rw [(t7 (a:=a) (b:=b) (by omega) (by omega) (by omega) (by omega) (by omega) (by omega)).len]; exact hz),((t7 (a:=a) (b:=b) (by omega) (by omega) (by omega) (by omega) (by omega) (by omega)).1.trans hpp),x8⟩
   refine br g0 ?_
   refine ae ?_
   refine iu (z) ?_ ?_
   · exact ⟨rfl,rfl,rfl,rfl,rfl,rfl,rfl,trivial⟩
   exact ⟨((if_neg (by omega)).symm),hz,hpp,g7⟩
  iterate 3 refine dh (df H9) ?_
  refine w_v (pf (df H9)) ?_
  refine cD ?_
  refine ah [0,1,2,3,4,18,20,24,185] ?_
  refine g_cond_f rfl rfl ?_
  refine ae ?_
  refine iu (z) ?_ ?_
  · exact ⟨rfl,rfl,rfl,rfl,rfl,rfl,rfl,trivial⟩
  exact ⟨((if_neg (by omega)).symm),hz,hpp,g7⟩
 rintro l1 w9 ⟨he1,x0,hp1,x3⟩
 refine ah [0,1,3,4,18,20,24] ?_
 refine g_seq ?_
 refine g_cut (ι:=List β) (fun l2=>[(0,.slice p nn cc),(3,vI b),(4,.func (.func gc) fi ca),(18,vI ((((a+b) / 2:Nat):Int))),(24,vI en)]) (fun l2 wx=>(l2=if a<st∧st<(a+b) / 2 then iI d c n a st ((a+b) / 2) l1 else l1)∧(l2.length=nn)∧(l2.Perm zall)∧S wx [Rw 44 3 p nn cc (mV ev l2),X,aB w (aT [Rw 44 3 p nn cc (mV ev z),X])]) ?_ ?_
 ·
  refine aQ ?_
  by_cases H7:((a:Int):Int)<(st:Int)
  ·
   iterate 2 refine aN (dt H7) xm ?_
   refine aN (dt H7) (ai rfl rfl rfl dG) ?_
   refine w_v (pt (dt H7)) ?_
   refine cD ?_
   by_cases h9:((st:Int):Int)<(((a+b) / 2:Nat):Int)
   ·
    refine bm h9 ?_
    refine a_ ?_
    refine l_of (aG (ih l1 x0 hp1 a st ((a+b) / 2) (by omega) (by omega) (by omega) (by omega) _ (x3.tk [0,1])) ?_)
    rintro _ w8 ⟨rfl,x7⟩
    replace x7:=x3.aI2 [0,1] x7
    refine bW ?_
    refine cD ?_
    refine iu ((iI d c n a st ((a+b) / 2) l1)) ?_ ?_
    · exact ⟨rfl,rfl,rfl,rfl,rfl,trivial⟩
    exact ⟨((if_pos (by omega)).symm),(by rw [(jP (by omega) (by omega) (by omega) (by omega)).len]; exact x0),((jP (by omega) (by omega) (by omega) (by omega)).1.trans hp1),x7⟩
   refine br h9 ?_
   refine ae ?_
   refine iu (l1) ?_ ?_
   · exact ⟨rfl,rfl,rfl,rfl,rfl,trivial⟩
   exact ⟨((if_neg (by omega)).symm),x0,hp1,x3⟩
  iterate 3 refine dh (df H7) ?_
  refine w_v (pf (df H7)) ?_
  refine cD ?_
  refine g_cond_f rfl rfl ?_
  refine ae ?_
  refine iu (l1) ?_ ?_
  · exact ⟨rfl,rfl,rfl,rfl,rfl,trivial⟩
  exact ⟨((if_neg (by omega)).symm),x0,hp1,x3⟩
 rintro l2 c9 ⟨he2,m0,hp2,x2⟩
 refine ah [0,3,4,18,24] ?_
 refine aQ ?_
 by_cases H5:((((a+b) / 2:Nat):Int):Int)<(en:Int)
 ·
  iterate 2 refine aN (dt H5) xm ?_
  refine aN (dt H5) (ai rfl rfl rfl dG) ?_
  refine w_v (pt (dt H5)) ?_
  refine cD ?_
  by_cases h8:((en:Int):Int)<(b:Int)
  ·
   refine bm h8 ?_
   refine a_ ?_
   refine l_of (aG (ih l2 m0 hp2 ((a+b) / 2) en b (by omega) (by omega) (by omega) (by omega) _ (x2.tk [0,1])) ?_)
   rintro _ c8 ⟨rfl,x6⟩
   replace x6:=x2.aI2 [0,1] x6
   refine bW ?_
   refine aR ?_
   refine dO [] [] rfl trivial ?_
   exact ⟨rfl,by rw [wU (by omega) (by omega) hs0 hr0 hst.symm hen he1 he2,if_pos (by omega)]; exact (x6.tk [0,1,2])⟩
  refine br h8 ?_
  refine aR ?_
  refine dO [] [] rfl trivial ?_
  exact ⟨rfl,by rw [wU (by omega) (by omega) hs0 hr0 hst.symm hen he1 he2,if_neg (by omega)]; exact (x2.tk [0,1,2])⟩
 iterate 3 refine dh (df H5) ?_
 refine w_v (pf (df H5)) ?_
 refine cD ?_
 refine g_cond_f rfl rfl ?_
 refine aR ?_
 refine dO [] [] rfl trivial ?_
 exact ⟨rfl,by rw [wU (by omega) (by omega) hs0 hr0 hst.symm hen he1 he2,if_neg (by omega)]; exact (x2.tk [0,1,2])⟩
theorem Cj {β:Type} (d:β) (ev:β→Value) (cs:β→Array Value) (hcs:∀ x,ev x=.agg (cs x)) (hsz:∀ x,(ev x).cells.size=3) (ho:∀ x,(ev x).cells.toList.all (·.oneCell')=true) (zall:List β) (nn:Nat) (p:Option Addr) (cc:Nat) (hm:nn≤1099511627776) (c:β→β→Int) (gc:Nat) (fi ca:Array Value) (X:aD) (hc:zF Tryz.prog gc fi ca X ev c zall):∀ n,MH d ev gc fi ca c X zall nn p cc n
 | 0=>fun z _ _ a m b h1 h2 h3 h4=>absurd h4 (by omega)
 | n+1=>fun z hz hpp a m b h1 h2 h3 h4 w HS=>BU d ev cs hcs hsz ho z nn hz p cc hm c gc fi ca X zall hpp hc n (Cj d ev cs hcs hsz ho zall nn p cc hm c gc fi ca X hc n) a m b h1 h2 h3 h4 w HS
end Go.Proofs.YthmmfhdpkddniaaGreatDoor
