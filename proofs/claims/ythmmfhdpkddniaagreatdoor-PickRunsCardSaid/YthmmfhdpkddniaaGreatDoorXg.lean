import Derived.Test.YthmmfhdpkddniaaGreatDoorXf
set_option maxRecDepth 20000
set_option maxHeartbeats 4000000
set_option linter.all false
namespace Go.Proofs.YthmmfhdpkddniaaGreatDoor
open Go.RowKit
theorem P7:aI Tryz.prog 38=true:=by kernel_rfl
theorem RS:aI Tryz.prog 41=true:=by kernel_rfl
theorem di.upM {X:XP} {A:PK} {j q:Nat} {m m':Mt} {f:fV→fV} (hX:di X A) (hI:bQ j A) (hm:X.ms[q]?=some m) (hk:m'.k=m.k) (hp:m'.pe=f m.pe) (ha:m'.asked=m.asked):di { X with ms:=X.ms.set q m' } (A.upd m.k f):=by
 have h1:=hX.at hm
 have h2:=GT hI.nd h1 f
 have h2:A.upd m.k f={ A with peers:=A.peers.set q (f m.pe) }:=h2
 rw [h2]
 refine ⟨?_,fun x hx=>?_,hX.bn,hX.bf⟩
 · show (X.ms.set q m').map Mt.pe=A.peers.set q (f m.pe)
   rw [List.map_set,hX.ms,hp]
 show x.asked=bO A.asked x.k
 rcases List.mem_or_eq_of_mem_set hx with h | rfl
 · exact hX.ask x h
 rw [ha,hk]; exact hX.ask m (List.mem_of_getElem? hm)
theorem Nk (X:XP) (A:PK) (j:Nat) (hX:di X A) (hI:bQ j A) (k:Int) (b:Bool)  (w:World) (HS:S w [(XI X A)]):Calls Tryz.prog 73 #[vP X.g,vI k,.bool b] w fun e w'=>∃ (Y:XP),Y.g=X.g∧di Y (A.snubA k b)∧e=.returned (vI (A.peE k))∧S w' ([(XI Y (A.snubA k b))]++[aB w (aT [(XI X A)])]):=by
 have H0:=HS.bu
 have h8:=hI.a8
 refine mG Tryz.func73 ?_
 refine ah [0,1,2] ?_
 refine iF ?_
 refine l_of (cA H0 l_ ?_)
 intro g1 g6 H3
 refine ae ?_
 refine l_of (eM (bh rfl) rfl (dc rfl rfl rfl) ?_)
 refine aE ?_
 by_cases H2:(A.peE k)=0
 ·
  have H9:=H3.b7 [1,2,3,4,5,6,7,0,8]
  refine l_of (aG (qb X A j hX hI k H2 _ (H9.tk [0])) ?_)
  rintro _ h5 ⟨h6,m6,H4,h7,rfl,g5⟩
  have g4:=H9.au g5
  refine bW ?_
  have g3:S _ [_,_,_,_,_,_,_,_,_,_,_,_,_]:=S.unbig (L:=[_,_,_,_]) (S.lstOut (F:=fA) (g4.tk [4,0,1,2,3,5,6,7,8]) H4)
  refine vV ?_
  refine l_of (eu g3 0 ?_)
  intro h4 g2
  refine ae ?_
  refine l_of (eu g2 11 ?_)
  intro h3 g0
  refine ae ?_
  refine cY ?_
  refine dV (cT g1 _) ?_
  rintro _ _ h2 ⟨⟨rfl,H6⟩,rfl⟩
  replace H6:=g0.ab0 H6
  refine fG H6 11 ?_
  have hL20:=S.lstIn (F:=fA) (x:=({ m6 with sn:=b }:Mt)) (S.big (L:=[_,_,_,_]) (H6.tk [0,1,2,3,4,5,6,7,8,9,10,12])) (List.getElem?_eq_some_iff.1 H4).1
  have hF21:=hL20.tj [1,2,3,4,0,5,6,7]; rw [← gm (m':=({ m6 with sn:=b }:Mt)) (hX.nd hI) H4 rfl rfl] at hF21
  have hA9:A.snubA k b=A.upd k (fun p=>{ p with sn:=b }):=by unfold PK.snubA; exact if_pos H2
  rw [hA9]
  exact ⟨({ X with ms:=X.ms.set h6 ({ m6 with sn:=b }:Mt) }:XP),rfl,(by rw [← h7]; exact hX.upM hI H4 rfl rfl rfl),(by rw [H2]; rfl),((S.big (L:=[_,_,_,_,_,_,_]) hF21).tk [0,1])⟩
 have H8:=H3.b7 [1,2,3,4,5,6,7,0,8]
 refine l_of (aG (su X A j hX hI k H2 _ (H8.tk [0])) ?_)
 rintro _ h1 ⟨rfl,h9⟩
 have H7:=H8.au h9
 refine bB ?_
 refine aA ?_
 refine aX ?_
 refine dV (bC g1 (A.peE k) (0) [] _ (H7.ob (k:=7) rfl)) ?_
 rintro _ _ h0 ⟨⟨rfl,H5⟩,rfl⟩
 replace H5:=H7.aK 7 H5
 refine fG H5 0 ?_
 have hA9:A.snubA k b=A:=by unfold PK.snubA; exact if_neg H2
 rw [hA9]
 exact ⟨X,rfl,hX,rfl,(H5.b7 [1,2,3,4,5,6,7,8])⟩
theorem Ma (X:XP) (A:PK) (j:Nat) (hX:di X A) (hI:bQ j A) (k i:Int)  (w:World) (HS:S w [(XI X A)]):Calls Tryz.prog 69 #[vP X.g,vI k,vI i] w fun e w'=>∃ (Y:XP),Y.g=X.g∧di Y (A.allowA k i)∧e=.returned (vI (A.boE k i))∧S w' ([(XI Y (A.allowA k i))]++[aB w (aT [(XI X A)])]):=by
 have H0:=HS.bu
 have h8:=hI.a8
 refine mG Tryz.func69 ?_
 refine ah [0,1,2] ?_
 refine iF ?_
 refine l_of (cA H0 l_ ?_)
 intro g1 g7 H3
 refine ae ?_
 refine l_of (eM (bh rfl) rfl (dc rfl rfl rfl) ?_)
 refine aQ ?_
 by_cases H2:(A.boE k i)=0
 ·
  have H9:=H3.b7 [1,2,3,4,5,6,7,0,8]
  refine l_of (aG (wH X A j hX hI k i H2 _ (H9.tk [0])) ?_)
  rintro _ h5 ⟨h6,m6,H4,h7,rfl,g6⟩
  have g5:=H9.au g6
  refine bW ?_
  have g4:S _ [_,_,_,_,_,_,_,_,_,_,_,_,_]:=S.unbig (L:=[_,_,_,_]) (S.lstOut (F:=fA) (g5.tk [4,0,1,2,3,5,6,7,8]) H4)
  refine aE ?_
  refine l_of (jz (x:=i) (a:=true) (iG Tryz.underlying86 Tryz.underlying3) g4 1 (bh rfl) rfl rfl rfl rfl rfl rfl ((by have h9:=(fQ H2).2; exact ⟨by omega,by omega⟩)) ?_)
  intro h4 g3
  refine ae ?_
  refine l_of (eu g3 11 ?_)
  intro h3 g2
  refine ae ?_
  refine cY ?_
  refine dV (cT g1 _) ?_
  rintro _ _ h2 ⟨⟨rfl,H5⟩,rfl⟩
  replace H5:=g2.ab0 H5
  refine fG H5 11 ?_
  have hfl9:=hI.fl m6.pe (List.mem_of_getElem? (hX.at H4))
  have hup9:(upM (cX m6.alw) i true)=(cX (m6.alw.set (i).toNat true)):=EO (by have h9:=(fQ H2).2; omega) (by have h9:=(fQ H2).2; have h8:m6.alw.length=A.n:=hfl9.2.1; omega)
  rw [hup9] at H5
  have hL20:=S.lstIn (F:=fA) (x:=({ m6 with alw:=m6.alw.set (i).toNat true }:Mt)) (S.big (L:=[_,_,_,_]) (H5.tk [0,1,2,3,4,5,6,7,8,9,10,12])) (List.getElem?_eq_some_iff.1 H4).1
  have hF21:=hL20.tj [1,2,3,4,0,5,6,7]; rw [← gm (m':=({ m6 with alw:=m6.alw.set (i).toNat true }:Mt)) (hX.nd hI) H4 rfl rfl] at hF21
  have hA9:A.allowA k i=A.upd k (fun p=>{ p with alw:=p.alw.set (i).toNat true }):=by unfold PK.allowA; exact if_pos H2
  rw [hA9]
  exact ⟨({ X with ms:=X.ms.set h6 ({ m6 with alw:=m6.alw.set (i).toNat true }:Mt) }:XP),rfl,(by rw [← h7]; exact hX.upM hI H4 rfl rfl rfl),(by rw [H2]; rfl),((S.big (L:=[_,_,_,_,_,_,_]) hF21).tk [0,1])⟩
 have H8:=H3.b7 [1,2,3,4,5,6,7,0,8]
 refine l_of (aG (wI X A j hX hI k i H2 _ (H8.tk [0])) ?_)
 rintro _ h1 ⟨rfl,g0⟩
 have H7:=H8.au g0
 refine bB ?_
 refine aA ?_
 refine aX ?_
 refine dV (bC g1 (A.boE k i) (0) [] _ (H7.ob (k:=7) rfl)) ?_
 rintro _ _ h0 ⟨⟨rfl,H6⟩,rfl⟩
 replace H6:=H7.aK 7 H6
 refine fG H6 0 ?_
 have hA9:A.allowA k i=A:=by unfold PK.allowA; exact if_neg H2
 rw [hA9]
 exact ⟨X,rfl,hX,rfl,(H6.b7 [1,2,3,4,5,6,7,8])⟩
theorem Fb (X:XP) (A:PK) (j:Nat) (hX:di X A) (hI:bQ j A) (k i:Int)  (w:World) (HS:S w [(XI X A)]):Calls Tryz.prog 71 #[vP X.g,vI k,vI i] w fun e w'=>∃ (Y:XP),Y.g=X.g∧di Y (A.suggA k i)∧e=.returned (vI (A.boE k i))∧S w' ([(XI Y (A.suggA k i))]++[aB w (aT [(XI X A)])]):=by
 have H0:=HS.bu
 have h8:=hI.a8
 refine mG Tryz.func71 ?_
 refine ah [0,1,2] ?_
 refine iF ?_
 refine l_of (cA H0 l_ ?_)
 intro g1 g7 H3
 refine ae ?_
 refine l_of (eM (bh rfl) rfl (dc rfl rfl rfl) ?_)
 refine aQ ?_
 by_cases H2:(A.boE k i)=0
 ·
  have H9:=H3.b7 [1,2,3,4,5,6,7,0,8]
  refine l_of (aG (wH X A j hX hI k i H2 _ (H9.tk [0])) ?_)
  rintro _ h5 ⟨h6,m6,H4,h7,rfl,g6⟩
  have g5:=H9.au g6
  refine bW ?_
  have g4:S _ [_,_,_,_,_,_,_,_,_,_,_,_,_]:=S.unbig (L:=[_,_,_,_]) (S.lstOut (F:=fA) (g5.tk [4,0,1,2,3,5,6,7,8]) H4)
  refine aE ?_
  refine l_of (jz (x:=i) (a:=true) (iG Tryz.underlying86 Tryz.underlying3) g4 2 (bh rfl) rfl rfl rfl rfl rfl rfl ((by have h9:=(fQ H2).2; exact ⟨by omega,by omega⟩)) ?_)
  intro h4 g3
  refine ae ?_
  refine l_of (eu g3 11 ?_)
  intro h3 g2
  refine ae ?_
  refine cY ?_
  refine dV (cT g1 _) ?_
  rintro _ _ h2 ⟨⟨rfl,H5⟩,rfl⟩
  replace H5:=g2.ab0 H5
  refine fG H5 11 ?_
  have hfl9:=hI.fl m6.pe (List.mem_of_getElem? (hX.at H4))
  have hup9:(upM (cX m6.sug) i true)=(cX (m6.sug.set (i).toNat true)):=EO (by have h9:=(fQ H2).2; omega) (by have h9:=(fQ H2).2; have h8:m6.sug.length=A.n:=hfl9.2.2; omega)
  rw [hup9] at H5
  have hL20:=S.lstIn (F:=fA) (x:=({ m6 with sug:=m6.sug.set (i).toNat true }:Mt)) (S.big (L:=[_,_,_,_]) (H5.tk [0,1,2,3,4,5,6,7,8,9,10,12])) (List.getElem?_eq_some_iff.1 H4).1
  have hF21:=hL20.tj [1,2,3,4,0,5,6,7]; rw [← gm (m':=({ m6 with sug:=m6.sug.set (i).toNat true }:Mt)) (hX.nd hI) H4 rfl rfl] at hF21
  have hA9:A.suggA k i=A.upd k (fun p=>{ p with sug:=p.sug.set (i).toNat true }):=by unfold PK.suggA; exact if_pos H2
  rw [hA9]
  exact ⟨({ X with ms:=X.ms.set h6 ({ m6 with sug:=m6.sug.set (i).toNat true }:Mt) }:XP),rfl,(by rw [← h7]; exact hX.upM hI H4 rfl rfl rfl),(by rw [H2]; rfl),((S.big (L:=[_,_,_,_,_,_,_]) hF21).tk [0,1])⟩
 have H8:=H3.b7 [1,2,3,4,5,6,7,0,8]
 refine l_of (aG (wI X A j hX hI k i H2 _ (H8.tk [0])) ?_)
 rintro _ h1 ⟨rfl,g0⟩
 have H7:=H8.au g0
 refine bB ?_
 refine aA ?_
 refine aX ?_
 refine dV (bC g1 (A.boE k i) (0) [] _ (H7.ob (k:=7) rfl)) ?_
 rintro _ _ h0 ⟨⟨rfl,H6⟩,rfl⟩
 replace H6:=H7.aK 7 H6
 refine fG H6 0 ?_
 have hA9:A.suggA k i=A:=by unfold PK.suggA; exact if_neg H2
 rw [hA9]
 exact ⟨X,rfl,hX,rfl,(H6.b7 [1,2,3,4,5,6,7,8])⟩
theorem Mr (X:XP) (A:PK) (j:Nat) (hX:di X A) (hI:bQ j A) (k i:Int) (b:Bool)  (w:World) (HS:S w [(XI X A)]):Calls Tryz.prog 121 #[vP X.g,vI k,vI i,.bool b] w fun e w'=>∃ (Y:XP),Y.g=X.g∧di Y (A.setA k i b)∧e=.returned (vI (A.boE k i))∧S w' ([(XI Y (A.setA k i b))]++[aB w (aT [(XI X A)])]):=by
 have H0:=HS.bu
 have h8:=hI.a8
 refine mG Tryz.func121 ?_
 refine ah [0,1,2,3] ?_
 refine iF ?_
 refine l_of (cA H0 l_ ?_)
 intro g1 x2 H3
 refine ae ?_
 refine l_of (eM (bh rfl) rfl (dc rfl rfl rfl) ?_)
 refine aQ ?_
 by_cases H2:(A.boE k i)=0
 ·
  have H9:=H3.b7 [1,2,3,4,5,6,7,0,8]
  refine l_of (aG (wH X A j hX hI k i H2 _ (H9.tk [0])) ?_)
  rintro _ g4 ⟨g5,m6,H4,g6,rfl,x1⟩
  have x0:=H9.au x1
  refine bW ?_
  have g9:S _ [_,_,_,_,_,_,_,_,_,_,_,_,_]:=S.unbig (L:=[_,_,_,_]) (S.lstOut (F:=fA) (x0.tk [4,0,1,2,3,5,6,7,8]) H4)
  refine ae ?_
  refine g_seq ?_
  refine PY [] [0,5] [5] [17] g9 (fun g3 h4=>?_)
  refine fu 0 ?_
  refine fu 1 ?_
  refine fu 2 ?_
  refine fu 3 ?_
  have h0:=h4.tk [0,5]
  refine Dw 4 1 h0 ?_
  refine fu 5 ?_
  refine fu 6 ?_
  refine fu 7 ?_
  refine Dw 8 0 h0 ?_
  refine fu 9 ?_
  refine fu 10 ?_
  refine sf (i:=11) ?_
  refine cz h4 (Rt A.n m6.fld i b (by omega) (hI.fl m6.pe (List.mem_of_getElem? (hX.at H4))).1 (fQ H2).2 _) ?_
  intro g2 H5
  have H8:=H5.tk [0,5]
  refine Ca H8 (H5.tk [5]) ?_
  refine fu 12 ?_
  refine fu 13 ?_
  refine fu 14 ?_
  refine sf (i:=15) ?_
  refine iW xn ?_
  refine Ca H8 (H5.tk [5]) ?_
  refine sf (i:=16) ?_
  refine iW yq ?_
  refine Ca H8 (H5.tk [5]) ?_
  refine sf (i:=17) ?_
  refine eu H5 0 ?_
  intro g0 h3
  refine sj rfl (h3.tk [5]) ?_
  refine Cb ?_
  refine aR ?_
  refine ah [8] ?_
  refine iF ?_
  refine l_of (eu h3 11 ?_)
  intro h9 g8
  refine ae ?_
  refine cY ?_
  refine dV (cT g1 _) ?_
  rintro _ _ h7 ⟨⟨rfl,H7⟩,rfl⟩
  replace H7:=g8.ab0 H7
  refine fG H7 11 ?_
  have hL24:=S.lstIn (F:=fA) (x:=({ m6 with fld:=m6.fld.set (i).toNat b }:Mt)) (S.big (L:=[_,_,_,_]) (H7.tk [0,1,2,3,4,5,6,7,8,9,10,12])) (List.getElem?_eq_some_iff.1 H4).1
  have hF25:=hL24.tj [1,2,3,4,0,5,6,7]; rw [← gm (m':=({ m6 with fld:=m6.fld.set (i).toNat b }:Mt)) (hX.nd hI) H4 rfl rfl] at hF25
  have hA9:A.setA k i b=A.upd k (fun p=>{ p with fld:=p.fld.set (i).toNat b }):=by unfold PK.setA; exact if_pos H2
  rw [hA9]
  exact ⟨({ X with ms:=X.ms.set g5 ({ m6 with fld:=m6.fld.set (i).toNat b }:Mt) }:XP),rfl,(by rw [← g6]; exact hX.upM hI H4 rfl rfl rfl),(by rw [H2]; rfl),((S.big (L:=[_,_,_,_,_,_,_]) hF25).tk [0,1])⟩
 have h2:=H3.b7 [1,2,3,4,5,6,7,0,8]
 refine l_of (aG (wI X A j hX hI k i H2 _ (h2.tk [0])) ?_)
 rintro _ h6 ⟨rfl,g7⟩
 have h1:=h2.au g7
 refine bB ?_
 refine aA ?_
 refine aX ?_
 refine dV (bC g1 (A.boE k i) (0) [] _ (h1.ob (k:=7) rfl)) ?_
 rintro _ _ h5 ⟨⟨rfl,H6⟩,rfl⟩
 replace H6:=h1.aK 7 H6
 refine fG H6 0 ?_
 have hA9:A.setA k i b=A:=by unfold PK.setA; exact if_neg H2
 rw [hA9]
 exact ⟨X,rfl,hX,rfl,(H6.b7 [1,2,3,4,5,6,7,8])⟩
theorem OD (X:XP) (A:PK) (j:Nat) (hX:di X A) (hI:bQ j A) (k:Int) (s:ByteArray)  (w:World) (HS:S w [(XI X A)]):Calls Tryz.prog 13 #[vP X.g,vI k,.string s] w fun e w'=>∃ (Y:XP),Y.g=X.g∧di Y (A.hasFA k s)∧e=.returned (vI (A.hasFE k s))∧S w' ([(XI Y (A.hasFA k s))]++[aB w (aT [(XI X A)])]):=by
 have H0:=HS.bu
 have h8:=hI.a8
 refine mG Tryz.func13 ?_
 refine ah [0,1,2] ?_
 refine iF ?_
 refine l_of (cA H0 l_ ?_)
 intro g1 x7 H3
 refine ae ?_
 refine l_of (eM (bh rfl) rfl (dc rfl rfl rfl) ?_)
 refine aC ?_
 refine bP (v:=.bool true) (hb:=(lG (r:=false) Tryz.underlying26 rfl)) ?_
 refine cJ ?_
 refine aN rfl xm ?_
 refine aN rfl xn ?_
 refine aN rfl (xf 1) ?_
 refine aN rfl (xl H3 1) ?_
 refine aN rfl xm ?_
 refine l_of (bZ H3 (cU rfl rfl rfl rfl rfl) (aP rfl rfl RS) (M8 A.n s _) rfl rfl ?_)
 intro x6 H5
 refine w_v (pt rfl) ?_
 rcases ef ((jK (A.n:Int) s)) with H7 | H7
 ·
  refine l_of (cz H5 (ez (jK (A.n:Int) s) 1 H7 _) ?_)
  intro x5 H8
  refine aE ?_
  by_cases h0:(A.peE k)=0
  ·
   have h9:=H8.b7 [1,2,3,4,5,6,7,0,8]
   refine l_of (aG (qb X A j hX hI k h0 _ (h9.tk [0])) ?_)
   rintro _ g7 ⟨H4,H2,H6,h5,rfl,x4⟩
   have x3:=h9.au x4
   refine bW ?_
   have x2:S _ [_,_,_,_,_,_,_,_,_,_,_,_,_]:=S.unbig (L:=[_,_,_,_]) (S.lstOut (F:=fA) (x3.tk [4,0,1,2,3,5,6,7,8]) H6)
   refine vV ?_
   refine l_of (eu x2 0 ?_)
   intro g6 x1
   refine cD ?_
   refine ah [6] ?_
   refine iF ?_
   refine l_of (eu x1 11 ?_)
   intro g5 x0
   refine ae ?_
   refine cY ?_
   refine dV (cT g1 _) ?_
   rintro _ _ H9 ⟨⟨rfl,h4⟩,rfl⟩
   replace h4:=x0.ab0 h4
   refine fG h4 11 ?_
   have hse9:s=fieldS (cE A.n s):=(Vf.of_valid (n:=(A.n:Int)) ⟨by omega,by omega⟩ H7).is
   have g9:S H9 [Ob H2.b (.cells #[.string ((fieldS (cE A.n s))),.map (some H2.am),.map (some H2.sm),.bool H2.ch,.bool H2.sn,.slice H2.ap H2.asked.length H2.ac] 88 (0,0)),Mp (Value.int .i64) Value.bool cO H2.am (cX H2.alw),Mp (Value.int .i64) Value.bool cO H2.sm (cX H2.sug),Rw 44 3 H2.ap H2.asked.length H2.ac (fl aO H2.asked),(bM fA (X.ms.eraseIdx H4)),X0 X A,X1 X A,X2 X A,X3 X,X5 X,bM g_ X.bs,Ob g1 (.cells #[vI 0] 30 (0,0)),aB w (aT [(XI X A)])]:=by rw [← hse9]; exact h4
   have hL26:=S.lstIn (F:=fA) (x:=({ H2 with fld:=(cE A.n s) }:Mt)) (S.big (L:=[_,_,_,_]) (g9.tk [0,1,2,3,4,5,6,7,8,9,10,12])) (List.getElem?_eq_some_iff.1 H6).1
   have hF27:S H9 [Ob X.g (.cells #[.map (some X.mg),.int .i64 ((A.n:Int)),.int .i64 ((A.pz:Int)),.int .i64 ((A.la:Int)),.string (A.seed),.bool A.ino,.slice X.hp A.had.length X.hc,.slice X.wp A.wish.length X.wc,.map (some X.bg)] 85 (0,0)),Rw 4 1 X.hp A.had.length X.hc (fl cG A.had),Rw 40 2 X.wp A.wish.length X.wc (fl jC A.wish),Mp (Value.int .i64) j_ cO X.mg (gV (X.ms.set H4 ({ H2 with fld:=(cE A.n s) }:Mt))),(bM fA (X.ms.set H4 ({ H2 with fld:=(cE A.n s) }:Mt))),Mp pQ j_ qE X.bg (gZ X.bs),(bM g_ X.bs),aB w (aT [(XI X A)])]:=by rw [gm (m':=({ H2 with fld:=(cE A.n s) }:Mt)) (hX.nd hI) H6 rfl rfl]; exact hL26.tk [1,2,3,4,0,5,6,7]
   have hE:A.hasFE k s=0:=(if_pos H7).trans h0
   have hA9:A.hasFA k s=A.upd k (fun p=>{ p with fld:=cE A.n s }):=if_pos hE
   rw [hA9,hE]
   exact ⟨({ X with ms:=X.ms.set H4 ({ H2 with fld:=(cE A.n s) }:Mt) }:XP),rfl,(by rw [← h5]; exact hX.upM hI H6 rfl rfl rfl),rfl,((S.big (L:=[_,_,_,_,_,_,_]) hF27).tk [0,1])⟩
  have h7:=H8.b7 [1,2,3,4,5,6,7,0,8]
  refine l_of (aG (su X A j hX hI k h0 _ (h7.tk [0])) ?_)
  rintro _ g4 ⟨rfl,g8⟩
  have h6:=h7.au g8
  refine bB ?_
  refine aA ?_
  refine aX ?_
  refine dV (bC g1 (A.peE k) (0) [] _ (h6.ob (k:=7) rfl)) ?_
  rintro _ _ g3 ⟨⟨rfl,h3⟩,rfl⟩
  replace h3:=h6.aK 7 h3
  refine fG h3 0 ?_
  have hE:A.hasFE k s=A.peE k:=if_pos H7
  have hA9:A.hasFA k s=A:=by unfold PK.hasFA; rw [hE]; exact if_neg h0
  rw [hA9]
  exact ⟨X,rfl,hX,(by rw [hE]; rfl),(h3.b7 [1,2,3,4,5,6,7,8])⟩
 refine l_of (aG (fh (jK (A.n:Int) s) 1 H7 _) ?_)
 rintro _ g2 ⟨rfl,h2⟩
 replace h2:=H5.ab0 h2
 refine bB ?_
 refine aA ?_
 refine aX ?_
 refine dV (bC g1 1 (0) [] _ (h2.ob (k:=0) rfl)) ?_
 rintro _ _ g0 ⟨⟨rfl,h1⟩,rfl⟩
 replace h1:=h2.aK 0 h1
 refine fG h1 0 ?_
 have hE:A.hasFE k s=1:=if_neg (by rw [H7]; decide)
 have hA9:A.hasFA k s=A:=by unfold PK.hasFA; rw [hE]; exact if_neg (by decide)
 rw [hA9]
 exact ⟨X,rfl,hX,(by rw [hE]; rfl),(h1.b7 [1,2,3,4,5,6,7,8])⟩
theorem M4 (X:XP) (A:PK) (j:Nat) (hX:di X A) (hI:bQ j A) (i:Int) (x:o_)  (w:World) (HS:S w [(XI X A)]):Calls Tryz.prog 15 #[vP X.g,vI i,.agg #[vI x.lv,vI x.du]] w fun e w'=>∃ (Y:XP),Y.g=X.g∧di Y (A.wishA i x)∧e=.returned (vI (A.wishE i x))∧S w' ([(XI Y (A.wishA i x))]++[aB w (aT [(XI X A)])]):=by
 have H0:=HS.bu
 have h8:=hI.a8
 refine mG Tryz.func15 ?_
 refine ah [0,1,2] ?_
 refine iF ?_
 refine l_of (fq H0 ?_)
 intro g1 b8 H3
 refine l_of (cA H3 l_ ?_)
 intro g4 b6 H6
 refine ae ?_
 refine l_of (eM (bh rfl) rfl (dc rfl rfl rfl) ?_)
 refine aE ?_
 by_cases g6:0≤i∧i<(A.n:Int)
 ·
  refine l_of (fZ H6 [2,3,4,5,6,7,8,0,1,9] (oM X A j hX hI i g6 _) ?_)
  intro b2 H7
  refine a_ ?_
  by_cases H5:(0:Int)≤x.lv
  ·
   refine aN (dt H5) (xf 0) ?_
   refine aN (dt H5) (xl H7 8) ?_
   refine aN (dt H5) (ai rfl rfl rfl pA) ?_
   refine w_v (pt (dt H5)) ?_
   refine cJ ?_
   by_cases H4:(x.lv:Int)≤7
   ·
    refine aN (dt H4) (xf 1) ?_
    refine aN (dt H4) (xl H7 8) ?_
    refine aN (dt H4) (ai rfl rfl rfl nm) ?_
    refine w_v (pt (dt H4)) ?_
    refine cJ ?_
    by_cases H2:(0:Int)≤x.du
    ·
     refine aN (dt H2) (xf 1) ?_
     refine aN (dt H2) (xl H7 8) ?_
     refine aN (dt H2) (ai rfl rfl rfl pA) ?_
     refine w_v (pt (dt H2)) ?_
     by_cases H9:(x.du:Int)≤1000000000
     ·
      refine l_of (cz H7 (ez (decide ((x.du:Int)≤1000000000)) 7 (dt H9) _) ?_)
      intro c8 b1
      refine cD ?_
      refine ah [0,1,5,6] ?_
      refine g_seq ?_
      refine g_aM [] [0,8] [7] b1 (fun c7 g5=>?_)
      have H8:=g5.tk [0,8]
      refine aU 0 H8 ?_
      refine aU 1 H8 ?_
      refine aU 2 H8 ?_
      refine eY 3 0 H8 ?_
      refine aU 4 H8 ?_
      refine bT 5 rfl H8 (fun _ H=>fS H 1) ?_
      refine bG (i:=6) ?_
      refine iW (iH ((i).toNat) (g5.rr 2)) ?_
      refine bF H8 ?_
      refine bG (i:=7) ?_
      refine mH (j:=((i).toNat)) lA x g5 2 (bh rfl) rfl rfl rfl rfl rfl rfl EW (by omega) ?_
      intro g3 b0
      have w9:S g3 [Ob X.g (.cells #[.map (some X.mg),vI A.n,vI A.pz,vI A.la,.string (A.seed),.bool A.ino,.slice X.hp A.had.length X.hc,.slice X.wp ((A.wish.set (i).toNat x).length) X.wc,.map (some X.bg)] 85 (0,0)),X1 X A,Rw 40 2 X.wp ((A.wish.set (i).toNat x).length) X.wc (fl jC (A.wish.set (i).toNat x)),X3 X,bM fA X.ms,X5 X,bM g_ X.bs,Ob g4 (.cells #[vI 0] 30 (0,0)),Ob g1 (.cells #[vI x.lv,vI x.du] 40 (0,0)),aB w (aT [(XI X A)])]:=by rw [show (A.wish.set (i).toNat x).length=A.wish.length from List.length_set]; exact b0
      refine m_ rfl ?_
      refine fP ?_
      refine ae ?_
      refine l_of (eu w9 7 ?_)
      intro c6 w8
      refine ae ?_
      refine cY ?_
      refine dV (cT g4 _) ?_
      rintro _ _ x9 ⟨⟨rfl,g2⟩,rfl⟩
      replace g2:=w8.ab0 g2
      refine fG g2 7 ?_
      have h7:¬ ((i<0∨(A.n:Int)≤i)∨(x.lv<0∨7<x.lv)∨(x.du<0∨1000000000<x.du)):=by omega
      have hE:A.wishE i x=0:=if_neg h7
      have hA9:A.wishA i x={ A with wish:=A.wish.set i.toNat x }:=if_pos hE
      rw [hA9,hE]
      exact ⟨X,rfl,⟨hX.ms,hX.ask,hX.bn,hX.bf⟩,rfl,(g2.b7 [0,1,2,3,4,5,6,9])⟩
     refine l_of (aG (fh (decide ((x.du:Int)≤1000000000)) 7 (df H9) _) ?_)
     rintro _ x8 ⟨rfl,g0⟩
     replace g0:=H7.ab0 g0
     refine bB ?_
     refine aA ?_
     refine aX ?_
     refine dV (bC g4 7 (0) [] _ (g0.ob (k:=7) rfl)) ?_
     rintro _ _ x7 ⟨⟨rfl,h9⟩,rfl⟩
     replace h9:=g0.aK 7 h9
     refine fG h9 0 ?_
     have h7:(i<0∨(A.n:Int)≤i)∨(x.lv<0∨7<x.lv)∨(x.du<0∨1000000000<x.du):=by omega
     have hE:A.wishE i x=7:=if_pos h7
     have hA9:A.wishA i x=A:=by unfold PK.wishA; rw [hE]; exact if_neg (by decide)
     rw [hA9]
     exact ⟨X,rfl,hX,(by rw [hE]; rfl),(h9.b7 [1,2,3,4,5,6,7,9])⟩
    iterate 3 refine dh (df H2) ?_
    refine w_v (pf (df H2)) ?_
    refine l_of (aG (fh false 7 rfl _) ?_)
    rintro _ x6 ⟨rfl,h6⟩
    replace h6:=H7.ab0 h6
    refine bB ?_
    refine aA ?_
    refine aX ?_
    refine dV (bC g4 7 (0) [] _ (h6.ob (k:=7) rfl)) ?_
    rintro _ _ x5 ⟨⟨rfl,h5⟩,rfl⟩
    replace h5:=h6.aK 7 h5
    refine fG h5 0 ?_
    have h7:(i<0∨(A.n:Int)≤i)∨(x.lv<0∨7<x.lv)∨(x.du<0∨1000000000<x.du):=by omega
    have hE:A.wishE i x=7:=if_pos h7
    have hA9:A.wishA i x=A:=by unfold PK.wishA; rw [hE]; exact if_neg (by decide)
    rw [hA9]
    exact ⟨X,rfl,hX,(by rw [hE]; rfl),(h5.b7 [1,2,3,4,5,6,7,9])⟩
   iterate 3 refine dh (df H4) ?_
   refine w_v (pf (df H4)) ?_
   refine cJ ?_
   iterate 3 refine dh rfl ?_
   refine w_v (pf rfl) ?_
   refine l_of (aG (fh false 7 rfl _) ?_)
   rintro _ x4 ⟨rfl,h4⟩
   replace h4:=H7.ab0 h4
   refine bB ?_
   refine aA ?_
   refine aX ?_
   refine dV (bC g4 7 (0) [] _ (h4.ob (k:=7) rfl)) ?_
   rintro _ _ x3 ⟨⟨rfl,h3⟩,rfl⟩
   replace h3:=h4.aK 7 h3
   refine fG h3 0 ?_
   have h7:(i<0∨(A.n:Int)≤i)∨(x.lv<0∨7<x.lv)∨(x.du<0∨1000000000<x.du):=by omega
   have hE:A.wishE i x=7:=if_pos h7
   have hA9:A.wishA i x=A:=by unfold PK.wishA; rw [hE]; exact if_neg (by decide)
   rw [hA9]
   exact ⟨X,rfl,hX,(by rw [hE]; rfl),(h3.b7 [1,2,3,4,5,6,7,9])⟩
  iterate 3 refine dh (df H5) ?_
  refine w_v (pf (df H5)) ?_
  refine cJ ?_
  iterate 3 refine dh rfl ?_
  refine w_v (pf rfl) ?_
  refine cJ ?_
  iterate 3 refine dh rfl ?_
  refine w_v (pf rfl) ?_
  refine l_of (aG (fh false 7 rfl _) ?_)
  rintro _ x2 ⟨rfl,h2⟩
  replace h2:=H7.ab0 h2
  refine bB ?_
  refine aA ?_
  refine aX ?_
  refine dV (bC g4 7 (0) [] _ (h2.ob (k:=7) rfl)) ?_
  rintro _ _ x1 ⟨⟨rfl,h1⟩,rfl⟩
  replace h1:=h2.aK 7 h1
  refine fG h1 0 ?_
  have h7:(i<0∨(A.n:Int)≤i)∨(x.lv<0∨7<x.lv)∨(x.du<0∨1000000000<x.du):=by omega
  have hE:A.wishE i x=7:=if_pos h7
  have hA9:A.wishA i x=A:=by unfold PK.wishA; rw [hE]; exact if_neg (by decide)
  rw [hA9]
  exact ⟨X,rfl,hX,(by rw [hE]; rfl),(h1.b7 [1,2,3,4,5,6,7,9])⟩
 have g8:=H6.b7 [2,3,4,5,6,7,8,0,1,9]
 refine l_of (aG (qH X A j hX hI i g6 _ (g8.tk [0])) ?_)
 rintro _ x0 ⟨rfl,c9⟩
 have g7:=g8.au c9
 refine bB ?_
 refine aA ?_
 refine aX ?_
 refine dV (bC g4 7 (0) [] _ (g7.ob (k:=7) rfl)) ?_
 rintro _ _ g9 ⟨⟨rfl,h0⟩,rfl⟩
 replace h0:=g7.aK 7 h0
 refine fG h0 0 ?_
 have h7:(i<0∨(A.n:Int)≤i)∨(x.lv<0∨7<x.lv)∨(x.du<0∨1000000000<x.du):=by omega
 have hE:A.wishE i x=7:=if_pos h7
 have hA9:A.wishA i x=A:=by unfold PK.wishA; rw [hE]; exact if_neg (by decide)
 rw [hA9]
 exact ⟨X,rfl,hX,(by rw [hE]; rfl),(h0.b7 [1,2,3,4,5,6,7,9])⟩
end Go.Proofs.YthmmfhdpkddniaaGreatDoor
