import Derived.Test.YthmmfhdpkddniaaGreatDoorXp
set_option maxRecDepth 20000
set_option maxHeartbeats 4000000
set_option linter.all false
namespace Go.Proofs.YthmmfhdpkddniaaGreatDoor
open Go.RowKit
theorem pZ:aI Tryz.prog 168=true:=by kernel_rfl
theorem rH:jW Tryz.prog 179=some 8:=by kernel_rfl
theorem rF:tw Tryz.prog 179=some (.agg #[.int .i64 0,.int .i64 0,.int .i64 0,.int .i64 0,.int .i64 0,.int .i64 0,.int .i64 0,.int .i64 0]):=by kernel_rfl
theorem pY (b:Bool)  (w:World):Calls Tryz.prog 168 #[.bool b] w fun e w'=>e=.returned (vI (eo b))∧S w' [aB w no]:=by
 have H0:=S.old w
 refine en Tryz.func168 ?_
 refine ah [0] ?_
 refine cp ?_
 rcases ef (b) with H2 | H2
 ·
  refine g_cond_t rfl H2 ?_
  refine aQ ?_
  refine af ?_
  exact ⟨by rw [H2]; rfl,H0.tk [0]⟩
 refine g_cond_f rfl H2 ?_
 refine a_ ?_
 refine af ?_
 exact ⟨by rw [H2]; rfl,H0.tk [0]⟩
theorem A6 (X:XP) (A:PK) (j:Nat) (hX:di X A) (hI:bQ j A) (q:Nat) (m:Mt) (hm:X.ms[q]?=some m) (i:Int) (hi:0≤i∧i<(A.n:Int))  (w:World) (HS:S w [(XI X A)]):Calls Tryz.prog 154 #[vP X.g,vP m.b,vI i] w fun e w'=>e=.returned (.agg #[vI (eo (decide (0<A.du i))),vI (A.du i),vI (eo (A.partB i)),vI (eo (aF m.sug i)),vI (0 - A.lv i),vI (if A.ino=true then 0 else (A.countV i:Int)),vI (if A.ino=true then 0 else o8 A.seed i),vI i])∧S w' ([(XI X A)]++[aB w (aT [(XI X A)])]):=by
 have H0:=HS.bu
 have h8:=hI.a8
 have hsd9:=hI.sd
 refine en Tryz.func154 ?_
 refine ah [0,1,2] ?_
 refine iF ?_
 refine l_of (cA H0 rF ?_)
 intro g1 e0 H3
 refine cS ?_
 refine w_v (iH ((i).toNat) (H3.rr 3)) ?_
 obtain ⟨x4,g8⟩:=(H3.rr 3).exL lA ((i).toNat)
 have hlv9:A.lv i=x4.lv:=vi g8
 have hdu9:A.du i=x4.du:=wj g8
 have hwr9:=hI.wishr x4 (List.mem_of_getElem? g8)
 refine w_v (bc (vs:=jC x4) ((i).toNat) (H3.rr 3) (by omega) rfl rfl Tryz.underlying40 rfl EW (by rfl) (lA.flAt g8)) ?_
 refine l_of (cA H3 MO ?_)
 intro g5 a9 H7
 refine l_of (eu H7 0 ?_)
 intro a7 H9
 refine cD ?_
 refine g_seq ?_
 refine g_aS [] [] H9 (fun j2 H5=>?_)
 refine aU 0 H5 ?_
 refine aU 1 H5 ?_
 refine eY 2 0 H5 ?_
 refine bT 3 rfl H5 (fun _ _=>ai rfl rfl rfl fK) ?_
 refine aU 5 H5 ?_
 refine eY 6 0 H5 ?_
 refine aU 7 H5 ?_
 refine aU 8 H5 ?_
 refine aU 9 H5 ?_
 refine aU 12 H5 ?_
 refine aU 13 H5 ?_
 refine aU 14 H5 ?_
 refine aU 15 H5 ?_
 refine bT (v:=.map (some m.sm)) 16 rfl H5 (fun _ H=>f_ rfl rfl Tryz.underlying86 rfl (H.mtCell (k:=6) rfl hm (c:=2) rfl)) ?_
 refine aU 17 H5 ?_
 refine bT (v:=.bool ((aF m.sug i))) 18 rfl H5 (fun _ H=>aH (bU (x:=i) (iG Tryz.underlying86 Tryz.underlying3) (H.mtSug (k:=6) rfl hm) 0 rfl rfl rfl rfl (⟨by omega,by omega⟩) Jw) (by rw [Cq,xE (by omega)])) ?_
 refine aU 20 H5 ?_
 refine eY 21 0 H5 ?_
 refine bT (v:=vI (0 - x4.lv)) 22 rfl H5 (fun _ _=>Mj rfl rfl (jD (by omega))) ?_
 refine aU 23 H5 ?_
 refine lH (i:=4) (j:=25) (by kernel_rfl) rfl rfl ?_ ?_
 ·
  refine bZ H5 (bh rfl) (gQ rfl rfl rfl pZ) (pY (decide ((0:Int)<x4.du)) _) rfl rfl ?_
  intro j1 c8
  refine bF c8 ?_
  refine lH (i:=10) (j:=25) (by kernel_rfl) rfl rfl ?_ ?_
  ·
   refine fZ c8 [2,3,4,5,6,7,8,0,1,9] (uR X A j hX hI i hi _) ?_
   intro j0 x8
   refine bF (x8.tk [7,8,0,1,2,3,4,5,6,9]) ?_
   refine lH (i:=11) (j:=25) (by kernel_rfl) rfl rfl ?_ ?_
   ·
    refine bZ x8 (bh rfl) (gQ rfl rfl rfl pZ) (pY (A.partB i) _) rfl rfl ?_
    intro i9 x7
    refine bF (x7.tk [7,8,0,1,2,3,4,5,6,9]) ?_
    refine lH (i:=19) (j:=25) (by kernel_rfl) rfl rfl ?_ ?_
    ·
     refine bZ x7 (bh rfl) (gQ rfl rfl rfl pZ) (pY (aF m.sug i) _) rfl rfl ?_
     intro i8 x6
     refine bF (x6.tk [7,8,0,1,2,3,4,5,6,9]) ?_
     refine bT (v:=.agg #[vI ((eo (decide ((0:Int)<x4.du)))),vI x4.du,vI ((eo (A.partB i))),vI ((eo (aF m.sug i))),vI (0 - x4.lv),vI 0,vI 0,vI i]) 24 rfl (x6.tk [7,8,0,1,2,3,4,5,6,9]) (fun _ _=>j4) ?_
     refine bG (i:=25) ?_
     refine cA x6 rF ?_
     intro m6 i5 q9
     refine bF (q9.tk [8,9,1,2,3,4,5,6,7,10]) ?_
     refine bG (i:=26) ?_
     refine eu q9 0 ?_
     intro i4 x1
     refine bF (x1.tk [8,9,1,2,3,4,5,6,7,10]) ?_
     refine fP ?_
     refine aR ?_
     refine ah [0,2,6,9] ?_
     refine a_ ?_
     refine w_v (cj (b:=A.ino) rfl rfl) ?_
     refine cD ?_
     rcases ef (A.ino) with h0 | h0
     ·
      refine g_cond_f rfl (aa h0) ?_
      refine aC ?_
      refine w_v (fS x1 0) ?_
      refine l_of (eu x1 9 ?_)
      intro i3 q8
      refine ae ?_
      refine d5 [.cell 6 179] [.agg #[vI ((eo (decide ((0:Int)<x4.du)))),vI x4.du,vI ((eo (A.partB i))),vI ((eo (aF m.sug i))),vI (0 - x4.lv),vI 0,vI 0,vI i]] rfl ⟨⟨_,rfl,dK (q8.ob (k:=9) rfl) Tryz.underlying179 rfl rH rfl rfl⟩,trivial⟩ ?_
      have e5:(if A.ino=true then 0 else (A.countV i:Int))=0:=if_pos h0
      have e6:(if A.ino=true then 0 else o8 A.seed i)=0:=if_pos h0
      rw [hlv9,hdu9,e5,e6]
      exact ⟨rfl,(q8.b7 [1,2,3,4,5,6,7,10])⟩
     refine g_cond_t rfl (aa h0) ?_
     refine aC ?_
     refine l_of (fZ x1 [1,2,3,4,5,6,7,0,8,9,10] (qM X A j hX hI i hi _) ?_)
     intro i1 a6
     refine w_v (v:=.pointer (some ⟨m6,5,none⟩)) (dw 5 rfl rfl rfl Tryz.underlying179 si (by omega) (off':=5) rfl) ?_
     refine l_of (eu a6 7 ?_)
     intro y9 a5
     refine cp ?_
     refine l_of (cz a5 (wG A.seed i (by omega) (by omega) (by omega) _) ?_)
     intro y8 a3
     refine vV ?_
     refine w_v (v:=.pointer (some ⟨m6,6,none⟩)) (dw 6 rfl rfl rfl Tryz.underlying179 si (by omega) (off':=6) rfl) ?_
     refine l_of (eu a3 7 ?_)
     intro y7 q7
     refine cD ?_
     refine ah [6,9] ?_
     refine iF ?_
     refine w_v (fS q7 7) ?_
     refine l_of (eu q7 9 ?_)
     intro y6 q6
     refine ae ?_
     refine d5 [.cell 6 179] [.agg #[vI ((eo (decide ((0:Int)<x4.du)))),vI x4.du,vI ((eo (A.partB i))),vI ((eo (aF m.sug i))),vI (0 - x4.lv),vI ((A.countV i:Int)),vI ((o8 A.seed i)),vI i]] rfl ⟨⟨_,rfl,dK (q6.ob (k:=9) rfl) Tryz.underlying179 rfl rH rfl rfl⟩,trivial⟩ ?_
     have e5:(if A.ino=true then 0 else (A.countV i:Int))=(A.countV i:Int):=if_neg (by rw [h0]; decide)
     have e6:(if A.ino=true then 0 else o8 A.seed i)=(o8 A.seed i):=if_neg (by rw [h0]; decide)
     rw [hlv9,hdu9,e5,e6]
     exact ⟨rfl,(q6.b7 [0,1,2,3,4,5,6,10])⟩
    refine cA x7 rF ?_
    intro m5 y5 q5
    refine bF (q5.tk [8,9,1,2,3,4,5,6,7,10]) ?_
    refine bG (i:=19) ?_
    refine bZ q5 (bh rfl) (gQ rfl rfl rfl pZ) (pY (aF m.sug i) _) rfl rfl ?_
    intro y4 x5
    refine bF (x5.tk [8,9,1,2,3,4,5,6,7,10]) ?_
    refine bT (v:=.agg #[vI ((eo (decide ((0:Int)<x4.du)))),vI x4.du,vI ((eo (A.partB i))),vI ((eo (aF m.sug i))),vI (0 - x4.lv),vI 0,vI 0,vI i]) 24 rfl (x5.tk [8,9,1,2,3,4,5,6,7,10]) (fun _ _=>j4) ?_
    refine bG (i:=26) ?_
    refine eu x5 0 ?_
    intro y3 x0
    refine bF (x0.tk [8,9,1,2,3,4,5,6,7,10]) ?_
    refine fP ?_
    refine aR ?_
    refine ah [0,2,6,9] ?_
    refine a_ ?_
    refine w_v (cj (b:=A.ino) rfl rfl) ?_
    refine cD ?_
    rcases ef (A.ino) with H8 | H8
    ·
     refine g_cond_f rfl (aa H8) ?_
     refine aC ?_
     refine w_v (fS x0 0) ?_
     refine l_of (eu x0 9 ?_)
     intro y2 q4
     refine ae ?_
     refine d5 [.cell 6 179] [.agg #[vI ((eo (decide ((0:Int)<x4.du)))),vI x4.du,vI ((eo (A.partB i))),vI ((eo (aF m.sug i))),vI (0 - x4.lv),vI 0,vI 0,vI i]] rfl ⟨⟨_,rfl,dK (q4.ob (k:=9) rfl) Tryz.underlying179 rfl rH rfl rfl⟩,trivial⟩ ?_
     have e5:(if A.ino=true then 0 else (A.countV i:Int))=0:=if_pos H8
     have e6:(if A.ino=true then 0 else o8 A.seed i)=0:=if_pos H8
     rw [hlv9,hdu9,e5,e6]
     exact ⟨rfl,(q4.b7 [1,2,3,4,5,6,7,10])⟩
    refine g_cond_t rfl (aa H8) ?_
    refine aC ?_
    refine l_of (fZ x0 [1,2,3,4,5,6,7,0,8,9,10] (qM X A j hX hI i hi _) ?_)
    intro y1 a2
    refine w_v (v:=.pointer (some ⟨m5,5,none⟩)) (dw 5 rfl rfl rfl Tryz.underlying179 si (by omega) (off':=5) rfl) ?_
    refine l_of (eu a2 7 ?_)
    intro y0 d4
    refine cp ?_
    refine l_of (cz d4 (wG A.seed i (by omega) (by omega) (by omega) _) ?_)
    intro v9 d3
    refine vV ?_
    refine w_v (v:=.pointer (some ⟨m5,6,none⟩)) (dw 6 rfl rfl rfl Tryz.underlying179 si (by omega) (off':=6) rfl) ?_
    refine l_of (eu d3 7 ?_)
    intro v8 q3
    refine cD ?_
    refine ah [6,9] ?_
    refine iF ?_
    refine w_v (fS q3 7) ?_
    refine l_of (eu q3 9 ?_)
    intro v7 q2
    refine ae ?_
    refine d5 [.cell 6 179] [.agg #[vI ((eo (decide ((0:Int)<x4.du)))),vI x4.du,vI ((eo (A.partB i))),vI ((eo (aF m.sug i))),vI (0 - x4.lv),vI ((A.countV i:Int)),vI ((o8 A.seed i)),vI i]] rfl ⟨⟨_,rfl,dK (q2.ob (k:=9) rfl) Tryz.underlying179 rfl rH rfl rfl⟩,trivial⟩ ?_
    have e5:(if A.ino=true then 0 else (A.countV i:Int))=(A.countV i:Int):=if_neg (by rw [H8]; decide)
    have e6:(if A.ino=true then 0 else o8 A.seed i)=(o8 A.seed i):=if_neg (by rw [H8]; decide)
    rw [hlv9,hdu9,e5,e6]
    exact ⟨rfl,(q2.b7 [0,1,2,3,4,5,6,10])⟩
   refine cA x8 rF ?_
   intro m4 v6 q1
   refine bF (q1.tk [8,9,1,2,3,4,5,6,7,10]) ?_
   refine bG (i:=11) ?_
   refine bZ q1 (bh rfl) (gQ rfl rfl rfl pZ) (pY (A.partB i) _) rfl rfl ?_
   intro v5 q0
   refine bF (q0.tk [8,9,1,2,3,4,5,6,7,10]) ?_
   refine bG (i:=19) ?_
   refine bZ q0 (bh rfl) (gQ rfl rfl rfl pZ) (pY (aF m.sug i) _) rfl rfl ?_
   intro v4 x3
   refine bF (x3.tk [8,9,1,2,3,4,5,6,7,10]) ?_
   refine bT (v:=.agg #[vI ((eo (decide ((0:Int)<x4.du)))),vI x4.du,vI ((eo (A.partB i))),vI ((eo (aF m.sug i))),vI (0 - x4.lv),vI 0,vI 0,vI i]) 24 rfl (x3.tk [8,9,1,2,3,4,5,6,7,10]) (fun _ _=>j4) ?_
   refine bG (i:=26) ?_
   refine eu x3 0 ?_
   intro v3 g9
   refine bF (g9.tk [8,9,1,2,3,4,5,6,7,10]) ?_
   refine fP ?_
   refine aR ?_
   refine ah [0,2,6,9] ?_
   refine a_ ?_
   refine w_v (cj (b:=A.ino) rfl rfl) ?_
   refine cD ?_
   rcases ef (A.ino) with H6 | H6
   ·
    refine g_cond_f rfl (aa H6) ?_
    refine aC ?_
    refine w_v (fS g9 0) ?_
    refine l_of (eu g9 9 ?_)
    intro v2 n2
    refine ae ?_
    refine d5 [.cell 6 179] [.agg #[vI ((eo (decide ((0:Int)<x4.du)))),vI x4.du,vI ((eo (A.partB i))),vI ((eo (aF m.sug i))),vI (0 - x4.lv),vI 0,vI 0,vI i]] rfl ⟨⟨_,rfl,dK (n2.ob (k:=9) rfl) Tryz.underlying179 rfl rH rfl rfl⟩,trivial⟩ ?_
    have e5:(if A.ino=true then 0 else (A.countV i:Int))=0:=if_pos H6
    have e6:(if A.ino=true then 0 else o8 A.seed i)=0:=if_pos H6
    rw [hlv9,hdu9,e5,e6]
    exact ⟨rfl,(n2.b7 [1,2,3,4,5,6,7,10])⟩
   refine g_cond_t rfl (aa H6) ?_
   refine aC ?_
   refine l_of (fZ g9 [1,2,3,4,5,6,7,0,8,9,10] (qM X A j hX hI i hi _) ?_)
   intro v1 d2
   refine w_v (v:=.pointer (some ⟨m4,5,none⟩)) (dw 5 rfl rfl rfl Tryz.underlying179 si (by omega) (off':=5) rfl) ?_
   refine l_of (eu d2 7 ?_)
   intro v0 d1
   refine cp ?_
   refine l_of (cz d1 (wG A.seed i (by omega) (by omega) (by omega) _) ?_)
   intro u9 d0
   refine vV ?_
   refine w_v (v:=.pointer (some ⟨m4,6,none⟩)) (dw 6 rfl rfl rfl Tryz.underlying179 si (by omega) (off':=6) rfl) ?_
   refine l_of (eu d0 7 ?_)
   intro u0 n1
   refine cD ?_
   refine ah [6,9] ?_
   refine iF ?_
   refine w_v (fS n1 7) ?_
   refine l_of (eu n1 9 ?_)
   intro r7 n0
   refine ae ?_
   refine d5 [.cell 6 179] [.agg #[vI ((eo (decide ((0:Int)<x4.du)))),vI x4.du,vI ((eo (A.partB i))),vI ((eo (aF m.sug i))),vI (0 - x4.lv),vI ((A.countV i:Int)),vI ((o8 A.seed i)),vI i]] rfl ⟨⟨_,rfl,dK (n0.ob (k:=9) rfl) Tryz.underlying179 rfl rH rfl rfl⟩,trivial⟩ ?_
   have e5:(if A.ino=true then 0 else (A.countV i:Int))=(A.countV i:Int):=if_neg (by rw [H6]; decide)
   have e6:(if A.ino=true then 0 else o8 A.seed i)=(o8 A.seed i):=if_neg (by rw [H6]; decide)
   rw [hlv9,hdu9,e5,e6]
   exact ⟨rfl,(n0.b7 [0,1,2,3,4,5,6,10])⟩
  refine cA c8 rF ?_
  intro m3 r4 m9
  refine bF (m9.tk [1,2,3,4,5,6,7,8,9,10]) ?_
  refine bG (i:=10) ?_
  refine fZ m9 [3,4,5,6,7,8,9,0,1,2,10] (uR X A j hX hI i hi _) ?_
  intro r3 m8
  refine bF (m8.tk [8,9,0,1,2,3,4,5,6,10]) ?_
  refine bG (i:=11) ?_
  refine bZ m8 (bh rfl) (gQ rfl rfl rfl pZ) (pY (A.partB i) _) rfl rfl ?_
  intro r2 m7
  refine bF (m7.tk [8,9,0,1,2,3,4,5,6,10]) ?_
  refine bG (i:=19) ?_
  refine bZ m7 (bh rfl) (gQ rfl rfl rfl pZ) (pY (aF m.sug i) _) rfl rfl ?_
  intro r1 x2
  refine bF (x2.tk [8,9,0,1,2,3,4,5,6,10]) ?_
  refine bT (v:=.agg #[vI ((eo (decide ((0:Int)<x4.du)))),vI x4.du,vI ((eo (A.partB i))),vI ((eo (aF m.sug i))),vI (0 - x4.lv),vI 0,vI 0,vI i]) 24 rfl (x2.tk [8,9,0,1,2,3,4,5,6,10]) (fun _ _=>j4) ?_
  refine bG (i:=26) ?_
  refine eu x2 7 ?_
  intro r0 h2
  refine bF (h2.tk [8,9,0,1,2,3,4,5,6,10]) ?_
  refine fP ?_
  refine aR ?_
  refine ah [0,2,6,9] ?_
  refine a_ ?_
  refine w_v (cj (b:=A.ino) rfl rfl) ?_
  refine cD ?_
  rcases ef (A.ino) with H4 | H4
  ·
   refine g_cond_f rfl (aa H4) ?_
   refine aC ?_
   refine w_v (fS h2 7) ?_
   refine l_of (eu h2 9 ?_)
   intro m2 g7
   refine ae ?_
   refine d5 [.cell 6 179] [.agg #[vI ((eo (decide ((0:Int)<x4.du)))),vI x4.du,vI ((eo (A.partB i))),vI ((eo (aF m.sug i))),vI (0 - x4.lv),vI 0,vI 0,vI i]] rfl ⟨⟨_,rfl,dK (g7.ob (k:=9) rfl) Tryz.underlying179 rfl rH rfl rfl⟩,trivial⟩ ?_
   have e5:(if A.ino=true then 0 else (A.countV i:Int))=0:=if_pos H4
   have e6:(if A.ino=true then 0 else o8 A.seed i)=0:=if_pos H4
   rw [hlv9,hdu9,e5,e6]
   exact ⟨rfl,(g7.b7 [0,1,2,3,4,5,6,10])⟩
  refine g_cond_t rfl (aa H4) ?_
  refine aC ?_
  refine l_of (fZ h2 [0,1,2,3,4,5,6,7,8,9,10] (qM X A j hX hI i hi _) ?_)
  intro m1 w9
  refine w_v (v:=.pointer (some ⟨m3,5,none⟩)) (dw 5 rfl rfl rfl Tryz.underlying179 si (by omega) (off':=5) rfl) ?_
  refine l_of (eu w9 7 ?_)
  intro m0 w8
  refine cp ?_
  refine l_of (cz w8 (wG A.seed i (by omega) (by omega) (by omega) _) ?_)
  intro k9 c9
  refine vV ?_
  refine w_v (v:=.pointer (some ⟨m3,6,none⟩)) (dw 6 rfl rfl rfl Tryz.underlying179 si (by omega) (off':=6) rfl) ?_
  refine l_of (eu c9 7 ?_)
  intro k7 g6
  refine cD ?_
  refine ah [6,9] ?_
  refine iF ?_
  refine w_v (fS g6 7) ?_
  refine l_of (eu g6 9 ?_)
  intro k6 g4
  refine ae ?_
  refine d5 [.cell 6 179] [.agg #[vI ((eo (decide ((0:Int)<x4.du)))),vI x4.du,vI ((eo (A.partB i))),vI ((eo (aF m.sug i))),vI (0 - x4.lv),vI ((A.countV i:Int)),vI ((o8 A.seed i)),vI i]] rfl ⟨⟨_,rfl,dK (g4.ob (k:=9) rfl) Tryz.underlying179 rfl rH rfl rfl⟩,trivial⟩ ?_
  have e5:(if A.ino=true then 0 else (A.countV i:Int))=(A.countV i:Int):=if_neg (by rw [H4]; decide)
  have e6:(if A.ino=true then 0 else o8 A.seed i)=(o8 A.seed i):=if_neg (by rw [H4]; decide)
  rw [hlv9,hdu9,e5,e6]
  exact ⟨rfl,(g4.b7 [0,1,2,3,4,5,6,10])⟩
 refine cA H5 rF ?_
 intro h4 k5 g3
 refine bF (g3.tk [1,2,3,4,5,6,7,8,9,10]) ?_
 refine bG (i:=4) ?_
 refine bZ g3 (bh rfl) (gQ rfl rfl rfl pZ) (pY (decide ((0:Int)<x4.du)) _) rfl rfl ?_
 intro k4 g2
 refine bF (g2.tk [1,2,3,4,5,6,7,8,9,10]) ?_
 refine bG (i:=10) ?_
 refine fZ g2 [3,4,5,6,7,8,9,0,1,2,10] (uR X A j hX hI i hi _) ?_
 intro k3 g0
 refine bF (g0.tk [8,9,0,1,2,3,4,5,6,10]) ?_
 refine bG (i:=11) ?_
 refine bZ g0 (bh rfl) (gQ rfl rfl rfl pZ) (pY (A.partB i) _) rfl rfl ?_
 intro k2 h9
 refine bF (h9.tk [8,9,0,1,2,3,4,5,6,10]) ?_
 refine bG (i:=19) ?_
 refine bZ h9 (bh rfl) (gQ rfl rfl rfl pZ) (pY (aF m.sug i) _) rfl rfl ?_
 intro k1 h3
 refine bF (h3.tk [8,9,0,1,2,3,4,5,6,10]) ?_
 refine bT (v:=.agg #[vI ((eo (decide ((0:Int)<x4.du)))),vI x4.du,vI ((eo (A.partB i))),vI ((eo (aF m.sug i))),vI (0 - x4.lv),vI 0,vI 0,vI i]) 24 rfl (h3.tk [8,9,0,1,2,3,4,5,6,10]) (fun _ _=>j4) ?_
 refine bG (i:=26) ?_
 refine eu h3 7 ?_
 intro k0 h1
 refine bF (h1.tk [8,9,0,1,2,3,4,5,6,10]) ?_
 refine fP ?_
 refine aR ?_
 refine ah [0,2,6,9] ?_
 refine a_ ?_
 refine w_v (cj (b:=A.ino) rfl rfl) ?_
 refine cD ?_
 rcases ef (A.ino) with H2 | H2
 ·
  refine g_cond_f rfl (aa H2) ?_
  refine aC ?_
  refine w_v (fS h1 7) ?_
  refine l_of (eu h1 9 ?_)
  intro b9 h7
  refine ae ?_
  refine d5 [.cell 6 179] [.agg #[vI ((eo (decide ((0:Int)<x4.du)))),vI x4.du,vI ((eo (A.partB i))),vI ((eo (aF m.sug i))),vI (0 - x4.lv),vI 0,vI 0,vI i]] rfl ⟨⟨_,rfl,dK (h7.ob (k:=9) rfl) Tryz.underlying179 rfl rH rfl rfl⟩,trivial⟩ ?_
  have e5:(if A.ino=true then 0 else (A.countV i:Int))=0:=if_pos H2
  have e6:(if A.ino=true then 0 else o8 A.seed i)=0:=if_pos H2
  rw [hlv9,hdu9,e5,e6]
  exact ⟨rfl,(h7.b7 [0,1,2,3,4,5,6,10])⟩
 refine g_cond_t rfl (aa H2) ?_
 refine aC ?_
 refine l_of (fZ h1 [0,1,2,3,4,5,6,7,8,9,10] (qM X A j hX hI i hi _) ?_)
 intro b8 c7
 refine w_v (v:=.pointer (some ⟨h4,5,none⟩)) (dw 5 rfl rfl rfl Tryz.underlying179 si (by omega) (off':=5) rfl) ?_
 refine l_of (eu c7 7 ?_)
 intro b6 c6
 refine cp ?_
 refine l_of (cz c6 (wG A.seed i (by omega) (by omega) (by omega) _) ?_)
 intro b2 x9
 refine vV ?_
 refine w_v (v:=.pointer (some ⟨h4,6,none⟩)) (dw 6 rfl rfl rfl Tryz.underlying179 si (by omega) (off':=6) rfl) ?_
 refine l_of (eu x9 7 ?_)
 intro b1 h6
 refine cD ?_
 refine ah [6,9] ?_
 refine iF ?_
 refine w_v (fS h6 7) ?_
 refine l_of (eu h6 9 ?_)
 intro b0 h5
 refine ae ?_
 refine d5 [.cell 6 179] [.agg #[vI ((eo (decide ((0:Int)<x4.du)))),vI x4.du,vI ((eo (A.partB i))),vI ((eo (aF m.sug i))),vI (0 - x4.lv),vI ((A.countV i:Int)),vI ((o8 A.seed i)),vI i]] rfl ⟨⟨_,rfl,dK (h5.ob (k:=9) rfl) Tryz.underlying179 rfl rH rfl rfl⟩,trivial⟩ ?_
 have e5:(if A.ino=true then 0 else (A.countV i:Int))=(A.countV i:Int):=if_neg (by rw [H2]; decide)
 have e6:(if A.ino=true then 0 else o8 A.seed i)=(o8 A.seed i):=if_neg (by rw [H2]; decide)
 rw [hlv9,hdu9,e5,e6]
 exact ⟨rfl,(h5.b7 [0,1,2,3,4,5,6,10])⟩
def sg (a b:Int):Int:=if a<b then -1 else if b<a then 1 else 0
theorem Mq (a b:Int):-1≤sg a b∧sg a b≤1:=by unfold sg; split; omega; split <;> omega
theorem PT {a b:Int} (h:sg a b=0):a=b:=by unfold sg at h; split at h; cases h; split at h; cases h; omega
def vA:List Int→List Int→Int
 | a :: l,b :: m=>if sg a b ≠ 0 then sg a b else vA l m
 | [],[]=>0
 | [],_ :: _=>-1
 | _ :: _,[]=>1
theorem EE:∀ {l m:List Int} {i:Nat} {x y:Int},l.take i=m.take i→l[i]?=some x→m[i]?=some y→sg x y ≠ 0→vA l m=sg x y
 | a :: l,b :: m,0,x,y,_,hx,hy,hn=>by
   cases hx; cases hy
   unfold vA; exact if_pos hn
 | a :: l,b :: m,i+1,x,y,ht,hx,hy,hn=>by
   rw [List.take_succ_cons,List.take_succ_cons] at ht
   obtain ⟨e,ht9⟩:=List.cons.inj ht
   subst e
   unfold vA
   rw [if_neg (by unfold sg; simp)]
   exact EE ht9 hx hy hn
 | [],_,_,_,_,_,hx,_,_=>by cases hx
 | _ :: _,[],_,_,_,_,_,hy,_=>by cases hy
theorem Gb (l:List Int):vA l l=0:=by
 induction l with
 | nil=>rfl
 | cons a l ih=>unfold vA; rw [if_neg (by unfold sg; simp)]; exact ih
theorem I9 {α:Type} (ks:List (α→Int)) (x y:α):vA (ks.map fun k=>k x) (ks.map fun k=>k y)=sg (jn ks x y) 0:=by
 induction ks with
 | nil=>rfl
 | cons k ks ih =>
   rw [List.map_cons,List.map_cons]
   unfold vA jn
   by_cases h:k x=k y
   · rw [if_neg (by rw [h]; unfold sg; simp),if_neg (by omega)]; exact ih
   · have e:sg (k x) (k y)=sg (k x - k y) 0:=by unfold sg; split <;> split <;> (first | rfl | omega | (split <;> (first | rfl | omega | (split <;> first | rfl | omega))))
     rw [if_pos (fun h0=>h (PT h0)),if_pos (by omega)]; exact e
theorem Mx (x:Int)  (w:World):Calls Tryz.prog 159 #[vI x] w fun e w'=>e=.returned (.bool false)∧S w' [aB w no]:=by
 have H0:=S.old w
 refine en Tryz.func159 ?_
 refine ah [0] ?_
 refine a_ ?_
 refine bP (v:=.bool (!decide ((x:Int)=x))) (hb:=eh) ?_
 refine aC ?_
 refine af ?_
 exact ⟨by simp [dQ],H0.tk [0]⟩
theorem MB (x y:Int)  (w:World):Calls Tryz.prog 138 #[vI x,vI y] w fun e w'=>e=.returned (vI (sg x y))∧S w' [aB w no]:=by
 have H0:=S.old w
 refine en Tryz.func138 ?_
 refine ah [0,1] ?_
 refine aQ ?_
 refine l_of (cz H0 (Mx x _) ?_)
 intro H7 H2
 refine aE ?_
 refine l_of (cz H2 (Mx y _) ?_)
 intro H6 H4
 refine a_ ?_
 refine g_cond_f rfl rfl ?_
 refine a_ ?_
 refine g_cond_f rfl rfl ?_
 refine dz ?_
 by_cases H3:(x:Int)<y
 ·
  refine bm H3 ?_
  refine aC ?_
  refine ah [4] ?_
  refine ae ?_
  refine af ?_
  have he:sg x y=-1:=by unfold sg; exact if_pos H3
  exact ⟨by rw [he]; rfl,H4.tk [0]⟩
 refine br H3 ?_
 refine ae ?_
 refine ah [0,1] ?_
 refine a_ ?_
 by_cases H5:(y:Int)<x
 ·
  refine bm H5 ?_
  refine aQ ?_
  refine af ?_
  have he:sg x y=1:=by unfold sg; rw [if_neg H3]; exact if_pos H5
  exact ⟨by rw [he]; rfl,H4.tk [0]⟩
 refine br H5 ?_
 refine a_ ?_
 refine af ?_
 have he:sg x y=0:=by unfold sg; rw [if_neg H3]; exact if_neg H5
 exact ⟨by rw [he]; rfl,H4.tk [0]⟩
theorem Ny (l l2:List Int) (hl:l.length=l2.length∧l.length≤1000) (p:Option Addr) (n c:Nat) (q:Option Addr) (m d:Nat)  (w:World) (hr:bz w p n c 1 (fl cg l)) (hq:bz w q m d 1 (fl cg l2)):Calls Tryz.prog 157 #[.slice p n c,.slice q m d] w fun e w'=>e=.returned (vI (vA l l2))∧S w' [aB w no]:=by
 have H0:=S.old w
 have hnl:=hr.lenL bE
 have hml:=hq.lenL bE
 refine en Tryz.func157 ?_
 refine ah [0,1] ?_
 refine cS ?_
 refine cQ (ι:=Nat) (fun i=>[(0,.slice p n c),(1,.slice q m d),(9,.slice p n c),(10,vI n),(11,vI i)]) (fun i wx=>(i≤n)∧(l.take i=l2.take i)∧S wx [aB w no]) (fun i=>n - i) (0) ⟨Nat.zero_le _,rfl,H0⟩ ?_
 rintro i h1 ⟨hi,hno,H2⟩
 refine ah [0,1,9,10,11] ?_
 refine aC ?_
 refine g_seq ?_
 by_cases H9:((i:Int):Int)<(n:Int)
 ·
  refine bm H9 ?_
  refine a_ ?_
  refine w_v (iH i (H2.exReads (k:=0) rfl hr (fun _ _ _ h=>h))) ?_
  obtain ⟨x4,H6⟩:=(H2.exReads (k:=0) rfl hr (fun _ _ _ h=>h)).exL bE i
  refine w_v (nX i (H2.exReads (k:=0) rfl hr (fun _ _ _ h=>h)) (bE.flAt1 H6 rfl)) ?_
  refine cS ?_
  by_cases H7:((m:Int):Int)≤(i:Int)
  ·
   refine bm H7 ?_
   refine aC ?_
   refine ah [4] ?_
   refine cp ?_
   refine af ?_
   omega
  refine br H7 ?_
  refine aQ ?_
  refine w_v (iH i (H2.exReads (k:=0) rfl hq (fun _ _ _ h=>h))) ?_
  obtain ⟨x6,H5⟩:=(H2.exReads (k:=0) rfl hq (fun _ _ _ h=>h)).exL bE i
  refine w_v (nX i (H2.exReads (k:=0) rfl hq (fun _ _ _ h=>h)) (bE.flAt1 H5 rfl)) ?_
  refine ae ?_
  refine ah [0,1,6,7,9,10,11] ?_
  refine aC ?_
  refine l_of (aG (MB x4 x6 _) ?_)
  rintro _ h0 ⟨rfl,H8⟩
  replace H8:=H2.ab0 H8
  have hsg9:=Mq x4 x6
  refine bW ?_
  refine aE ?_
  refine bP (v:=.bool (!decide (((sg x4 x6):Int)=0))) (hb:=eh) ?_
  refine cD ?_
  by_cases H4:((sg x4 x6):Int)=0
  ·
   refine kw H4 ?_
   refine aE ?_
   refine gI i ?_
   refine ae ?_
   refine bD (i:=(i)) ((i+1)) ⟨by omega,(by rw [aj H6,aj H5,hno,PT H4]),H8⟩
  refine mX H4 ?_
  refine aE ?_
  refine ah [4] ?_
  refine a_ ?_
  refine af ?_
  exact ⟨by rw [EE hno H6 H5 H4]; rfl,H8.tk [0]⟩
 refine br H9 ?_
 refine v_ ?_
 by_cases H3:((n:Int):Int)<(m:Int)
 ·
  refine bm H3 ?_
  refine aQ ?_
  refine af ?_
  omega
 refine br H3 ?_
 refine a_ ?_
 refine af ?_
 rw [List.take_of_length_le (by omega),List.take_of_length_le (by omega)] at hno
 subst hno
 exact ⟨by rw [Gb]; rfl,H2.tk [0]⟩
theorem Oz (X:XP) (A:PK) (j:Nat) (hX:di X A) (hI:bQ j A) (k i:Int)  (w:World) (HS:S w [(XI X A)]):Calls Tryz.prog 64 #[vP X.g,vI k,vI i] w fun e w'=>∃ (Y:XP),Y.g=X.g∧di Y (A.setA k i true)∧e=.returned (vI (A.boE k i))∧S w' ([(XI Y (A.setA k i true))]++[aB w (aT [(XI X A)])]):=by
 have H0:=HS.bu
 have h8:=hI.a8
 refine en Tryz.func64 ?_
 refine ah [0,1,2] ?_
 refine cp ?_
 have H4:=H0.b7 [0,1,2,3,4,5,6,7]
 refine l_of (aG (Mr X A j hX hI k i true _ (H4.tk [0])) ?_)
 rintro _ H2 ⟨Y1,hg2,hY3,rfl,H6⟩
 replace H6:=H4.aI1 [0] H6
 refine bW ?_
 refine aC ?_
 refine af ?_
 exact ⟨Y1,hg2,hY3,rfl,H6.tk [0,1]⟩
theorem N8 (X:XP) (A:PK) (j:Nat) (hX:di X A) (hI:bQ j A) (k i:Int)  (w:World) (HS:S w [(XI X A)]):Calls Tryz.prog 67 #[vP X.g,vI k,vI i] w fun e w'=>∃ (Y:XP),Y.g=X.g∧di Y (A.setA k i false)∧e=.returned (vI (A.boE k i))∧S w' ([(XI Y (A.setA k i false))]++[aB w (aT [(XI X A)])]):=by
 have H0:=HS.bu
 have h8:=hI.a8
 refine en Tryz.func67 ?_
 refine ah [0,1,2] ?_
 refine cp ?_
 have H4:=H0.b7 [0,1,2,3,4,5,6,7]
 refine l_of (aG (Mr X A j hX hI k i false _ (H4.tk [0])) ?_)
 rintro _ H2 ⟨Y1,hg2,hY3,rfl,H6⟩
 replace H6:=H4.aI1 [0] H6
 refine bW ?_
 refine aC ?_
 refine af ?_
 exact ⟨Y1,hg2,hY3,rfl,H6.tk [0,1]⟩
theorem NZ (n pz la:Int) (seed:ByteArray) (ino:Bool) (hb:100<(seed.size:Int)∨n<1∨4096<n∨pz<16∨1024<pz∨¬ pz % 16=0∨la<1∨pz<la)  (w:World):Calls Tryz.prog 34 #[vI n,vI pz,vI la,.string seed,.bool ino] w fun e w'=>e=.returned (.tuple #[.pointer none,vI (gJ n pz la seed)])∧S w' [aB w no]:=by
 have H0:=S.old w
 refine en Tryz.func34 ?_
 refine ah [0,1,2,3,4] ?_
 refine dz ?_
 refine w_v (iJ rfl rfl Tryz.underlying9) ?_
 refine aC ?_
 by_cases H2:(100:Int)<(seed.size:Int)
 ·
  refine bm H2 ?_
  refine cp ?_
  refine af ?_
  have hE:gJ n pz la seed=1:=if_pos H2
  rw [hE]
  exact ⟨rfl,H0.tk [0]⟩
 refine br H2 ?_
 refine aE ?_
 by_cases H8:(n:Int)<1
 ·
  iterate 2 refine dh (dt H8) ?_
  refine w_v (pt (dt H8)) ?_
  refine cJ ?_
  iterate 2 refine dh rfl ?_
  refine w_v (pt rfl) ?_
  refine cJ ?_
  iterate 2 refine dh rfl ?_
  refine w_v (pt rfl) ?_
  refine cJ ?_
  iterate 3 refine dh rfl ?_
  refine w_v (pt rfl) ?_
  refine cJ ?_
  iterate 2 refine dh rfl ?_
  refine w_v (pt rfl) ?_
  refine cJ ?_
  iterate 3 refine dh rfl ?_
  refine w_v (pt rfl) ?_
  refine ae ?_
  refine ah [0,1,2,3,4,18] ?_
  refine g_cond_t rfl rfl ?_
  refine cp ?_
  refine af ?_
  have hE:gJ n pz la seed=7:=by unfold gJ; rw [if_neg H2,if_pos (by omega)]
  rw [hE]
  exact ⟨rfl,H0.tk [0]⟩
 refine aN (df H8) xm ?_
 refine aN (df H8) (ai rfl rfl rfl fK) ?_
 refine w_v (pf (df H8)) ?_
 refine cJ ?_
 by_cases H7:(4096:Int)<n
 ·
  iterate 2 refine dh (dt H7) ?_
  refine w_v (pt (dt H7)) ?_
  refine cJ ?_
  iterate 2 refine dh rfl ?_
  refine w_v (pt rfl) ?_
  refine cJ ?_
  iterate 3 refine dh rfl ?_
  refine w_v (pt rfl) ?_
  refine cJ ?_
  iterate 2 refine dh rfl ?_
  refine w_v (pt rfl) ?_
  refine cJ ?_
  iterate 3 refine dh rfl ?_
  refine w_v (pt rfl) ?_
  refine ae ?_
  refine ah [0,1,2,3,4,18] ?_
  refine g_cond_t rfl rfl ?_
  refine cp ?_
  refine af ?_
  have hE:gJ n pz la seed=7:=by unfold gJ; rw [if_neg H2,if_pos (by omega)]
  rw [hE]
  exact ⟨rfl,H0.tk [0]⟩
 refine aN (df H7) xm ?_
 refine aN (df H7) (ai rfl rfl rfl dG) ?_
 refine w_v (pf (df H7)) ?_
 refine cJ ?_
 by_cases H6:(pz:Int)<16
 ·
  iterate 2 refine dh (dt H6) ?_
  refine w_v (pt (dt H6)) ?_
  refine cJ ?_
  iterate 3 refine dh rfl ?_
  refine w_v (pt rfl) ?_
  refine cJ ?_
  iterate 2 refine dh rfl ?_
  refine w_v (pt rfl) ?_
  refine cJ ?_
  iterate 3 refine dh rfl ?_
  refine w_v (pt rfl) ?_
  refine ae ?_
  refine ah [0,1,2,3,4,18] ?_
  refine g_cond_t rfl rfl ?_
  refine cp ?_
  refine af ?_
  have hE:gJ n pz la seed=7:=by unfold gJ; rw [if_neg H2,if_pos (by omega)]
  rw [hE]
  exact ⟨rfl,H0.tk [0]⟩
 refine aN (df H6) xm ?_
 refine aN (df H6) (ai rfl rfl rfl fK) ?_
 refine w_v (pf (df H6)) ?_
 refine cJ ?_
 by_cases H3:(1024:Int)<pz
 ·
  iterate 3 refine dh (dt H3) ?_
  refine w_v (pt (dt H3)) ?_
  refine cJ ?_
  iterate 2 refine dh rfl ?_
  refine w_v (pt rfl) ?_
  refine cJ ?_
  iterate 3 refine dh rfl ?_
  refine w_v (pt rfl) ?_
  refine ae ?_
  refine ah [0,1,2,3,4,18] ?_
  refine g_cond_t rfl rfl ?_
  refine cp ?_
  refine af ?_
  have hE:gJ n pz la seed=7:=by unfold gJ; rw [if_neg H2,if_pos (by omega)]
  rw [hE]
  exact ⟨rfl,H0.tk [0]⟩
 refine aN (df H3) xm ?_
 refine aN (v:=vI (pz % 16)) (df H3) (ai rfl rfl rfl (yR (by omega) (EZ (by omega)))) ?_
 refine aN (df H3) (ai rfl rfl rfl eh) ?_
 refine w_v (pf (df H3)) ?_
 refine cJ ?_
 by_cases H5:(pz % 16:Int)=0
 ·
  refine aN (nf H5) xm ?_
  refine aN (nf H5) (ai rfl rfl rfl dG) ?_
  refine w_v (pf (nf H5)) ?_
  refine cJ ?_
  by_cases H4:(la:Int)<1
  ·
   iterate 3 refine dh (dt H4) ?_
   refine w_v (pt (dt H4)) ?_
   refine ae ?_
   refine ah [0,1,2,3,4,18] ?_
   refine g_cond_t rfl rfl ?_
   refine cp ?_
   refine af ?_
   have hE:gJ n pz la seed=7:=by unfold gJ; rw [if_neg H2,if_pos (by omega)]
   rw [hE]
   exact ⟨rfl,H0.tk [0]⟩
  iterate 2 refine aN (df H4) xm ?_
  refine aN (df H4) (ai rfl rfl rfl fK) ?_
  refine w_v (pf (df H4)) ?_
  refine ae ?_
  refine ah [0,1,2,3,4,18] ?_
  refine g_cond_t rfl (dt (by omega)) ?_
  refine cp ?_
  refine af ?_
  have hE:gJ n pz la seed=7:=by unfold gJ; rw [if_neg H2,if_pos (by omega)]
  rw [hE]
  exact ⟨rfl,H0.tk [0]⟩
 iterate 2 refine dh (nt H5) ?_
 refine w_v (pt (nt H5)) ?_
 refine cJ ?_
 iterate 3 refine dh rfl ?_
 refine w_v (pt rfl) ?_
 refine ae ?_
 refine ah [0,1,2,3,4,18] ?_
 refine g_cond_t rfl rfl ?_
 refine cp ?_
 refine af ?_
 have hE:gJ n pz la seed=7:=by unfold gJ; rw [if_neg H2,if_pos (by omega)]
 rw [hE]
 exact ⟨rfl,H0.tk [0]⟩
theorem Io (n:Nat):(madeCells #[Value.int .i64 0,Value.int .i64 0] (n * 2)).toList=fl jC (List.replicate n ⟨0,0⟩):=by
 have h:∀ m,fl jC (List.replicate m ⟨0,0⟩)=List.replicate (m * 2) (Value.int .i64 0):=fun m=>by
   induction m with
   | zero=>rfl
   | succ m ih =>
     have e:fl jC (List.replicate (m+1) ⟨0,0⟩)=jC ⟨0,0⟩++fl jC (List.replicate m ⟨0,0⟩):=rfl
     rw [e,ih,show (m+1) * 2=m * 2+1+1 by omega,List.replicate_succ,List.replicate_succ]
     rfl
 rw [h]
 apply List.ext_getElem
 · simp [madeCells]
 · intro i h1 h2
   simp [madeCells]
   rcases Nat.mod_two_eq_zero_or_one i with e | e <;> simp [e]
section
variable {P:Program} {N:Nat} {Q:Exit→Act→World→Prop} {f:Fr} {ds:List Deferred} {w:World} {o:Oper} {ops:Array Oper} {L:List aD} {K:Act→World→Prop}
theorem J1 {d t e bytes:Nat} {x y:Operand} {kx ky:IntKind} {i j:Int} {z:Value} (n:Nat) (H:S w L) (hw:Wt ops f o) (hd:o.dst=some d) (hN:Nat.blt d N=true) (ho:o.op=.makeSlice t x y) (hx:cy f x=some (.int kx i)) (hy:cy f y=some (.int ky j))
   (hu:P.underlying t=some (.slice e)) (hi:kf P e=some (some z,2,bytes)) (hz:z.cells=#[.int .i64 0,.int .i64 0]) (hn:i=(n:Int)∧j=(n:Int)∧bytes * n≤281474976710656∧n≤4611686018427387904)
   (h:∀ g w',S w' (Rw e 2 (some ⟨g,0,none⟩) (List.replicate n (⟨0,0⟩:o_)).length n (fl jC (List.replicate n ⟨0,0⟩)) :: L)→G N K ((d,.slice (some ⟨g,0,none⟩) (List.replicate n (⟨0,0⟩:o_)).length n) :: f) ds w'):G N (bH P ops Q o K) f ds w:=
 yO (v:=fun g=>.slice (some ⟨g,0,none⟩) n n) (b:=.cells (madeCells #[.int .i64 0,.int .i64 0] (n * 2)) e (0,0)) H hw hd hN (fun a ha=>by
   obtain ⟨rfl,rfl,h1,h2⟩:=hn
   obtain ⟨I,hI,hIz,hIs,hIb⟩:=zU hi
   have hb:(I.bytes:Int) * (n:Int)≤281474976710656:=by
     have h:((I.bytes * n:Nat):Int)≤281474976710656:=by rw [hIb]; omega
     rwa [Int.natCast_mul] at h
   have:=Go.run_make (P:=P) w t e I z hu hI hIz kx ky n n (by omega) (Int.le_refl _) hb (by omega)
   rw [hIs,hz,Int.toNat_natCast] at this
   unfold execOp
   simp only [ho,ha.eval hx,ha.eval hy,Sem.run_bind,this,Result.andThen_ok]
   rfl) fun g w' h9=>by
     have h1:=h g w'
     rw [List.length_replicate] at h1
     exact h1 (S.obFl (l:=List.replicate n (⟨0,0⟩:o_)) lA h9 (k:=0) rfl List.length_replicate.symm (by unfold maxLen; omega) (Io n))
end
section
variable {P:Program} {N:Nat} {ops:Array Oper} {Q:Exit→Act→World→Prop} {md:Region.Mode} {C:World→Prop} {T:List Nat} {f:Fr} {ds:List Deferred} {w:World} {listed:Array Bool} {fuel:Nat}
theorem Pw {i j k l:Nat} {o o' o'' o3:Oper} (hr:Region.ready md ops listed=[i,j,k,l]) (hi:ops[i]?=some o) (hj:ops[j]?=some o') (hk:ops[k]?=some o'') (hl:ops[l]?=some o3) (h:G N (bH P ops Q o (AK P md ops Q C T fuel listed i)) f ds w) (h':G N (bH P ops Q o' (AK P md ops Q C T fuel listed j)) f ds w) (h'':G N (bH P ops Q o'' (AK P md ops Q C T fuel listed k)) f ds w) (h3:G N (bH P ops Q o3 (AK P md ops Q C T fuel listed l)) f ds w):G N (cF P md ops Q C T (fuel+1) listed) f ds w:=fun a ha =>
 ⟨fun h0=>absurd (hr.symm.trans h0) (by simp),fun m hm=>by
   rw [hr] at hm
   simp only [List.mem_cons,List.not_mem_nil,or_false] at hm
   rcases hm with rfl | rfl | rfl | rfl
   · exact vW hi h a ha
   · exact vW hj h' a ha
   · exact vW hk h'' a ha
   · exact vW hl h3 a ha⟩
end
theorem J8 {α:Type} (a b:α) (n i:Nat) (h:i<n):(List.replicate i a++List.replicate (n - i) b).set i a=List.replicate (i+1) a++List.replicate (n - (i+1)) b:=by
 rw [List.set_append_right _ _ (by simp),List.length_replicate,Nat.sub_self,show n - i=(n - (i+1))+1 by omega,List.replicate_succ,List.set_cons_zero,List.replicate_succ' (n:=i),List.append_assoc]
 rfl
theorem NH {α:Type} (a b:α) (n i:Nat) {x:α} (h:(List.replicate i a++List.replicate (n - i) b)[i]?=some x):x=b:=by
 rw [List.getElem?_append_right (by simp),List.length_replicate,Nat.sub_self] at h
 exact List.eq_of_mem_replicate (List.mem_of_getElem? h)
theorem N2 (g mg bg n pz la:Nat) (hp wp:Option Addr) (seed:ByteArray) (ino:Bool):di ⟨g,hp,n,wp,n,mg,[],bg,[]⟩ (fa n pz la seed ino):=
 ⟨rfl,fun m hm=>absurd hm List.not_mem_nil,List.nodup_nil,fun p=>by simp [kfd,PK.ent,fa,PK.freeC,cn]⟩
end Go.Proofs.YthmmfhdpkddniaaGreatDoor
