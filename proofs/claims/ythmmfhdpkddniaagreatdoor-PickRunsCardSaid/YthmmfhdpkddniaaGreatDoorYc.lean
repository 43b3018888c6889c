import Derived.Test.YthmmfhdpkddniaaGreatDoorYb
set_option maxRecDepth 20000
set_option maxHeartbeats 4000000
set_option linter.all false
namespace Go.Proofs.YthmmfhdpkddniaaGreatDoor
open Go.RowKit
theorem Se:aI Tryz.prog 12=true:=by kernel_rfl
theorem R_:aI Tryz.prog 13=true:=by kernel_rfl
theorem R9:aI Tryz.prog 15=true:=by kernel_rfl
theorem R7:aI Tryz.prog 16=true:=by kernel_rfl
theorem MV:aI Tryz.prog 29=true:=by kernel_rfl
theorem Rq:jW Tryz.prog 55=some 13:=by kernel_rfl
structure De where
 kd:Int
 pe:Int
 pi:Int
 n:Int
 wh:Int
 fl:ByteArray
 is:Bool
 kp:Bool
 wi:o_
 bl:aV
def PN (d:De):List Value:=[.int .i64 d.kd,.int .i64 d.pe,.int .i64 d.pi,.int .i64 d.n,.int .i64 d.wh,.string d.fl,.bool d.is,.bool d.kp,.int .i64 d.wi.lv,.int .i64 d.wi.du,.int .i64 d.bl.pc,.int .i64 d.bl.bg,.int .i64 d.bl.ln]
theorem Rj:mT 13 PN:=⟨by decide,fun _=>rfl,fun _=>rfl⟩
def PK.dblk (A:PK) (d:De):aV:=if d.wh<0∨(bO A.asked d.pe).length=0 then d.bl else (bO A.asked d.pe).getD (d.wh.toNat % (bO A.asked d.pe).length) ⟨0,0,0⟩
def PK.deed (A:PK) (d:De):PK:=
 if d.kd=0 then A.joinA d.pe else if d.kd=1 then A.leaveA d.pe else if d.kd=2 then A.hasFA d.pe d.fl else if d.kd=3 then A.setA d.pe d.pi true
 else if d.kd=4 then A.setA d.pe d.pi false else if d.kd=5 then A.chokeA d.pe d.is d.kp else if d.kd=6 then A.allowA d.pe d.pi else if d.kd=7 then A.suggA d.pe d.pi
 else if d.kd=8 then A.snubA d.pe d.is else if d.kd=9 then A.wishA d.pi d.wi else if d.kd=10 then A.nextA d.pe d.n else if d.kd=11 then A.hereA d.pe (A.dblk d)
 else if d.kd=12 then A.rejA d.pe (A.dblk d) else if d.kd=13 then A.doneA d.pi d.is else A.setHA d.pi d.is
def gy (n pz:Int) (sd:ByteArray):Prop:=(sd.size:Int)≤300∧(n≤24∨4096<n)∧(pz≤128∨1024<pz)
instance (n pz:Int) (sd:ByteArray):Decidable (gy n pz sd):=inferInstanceAs (Decidable (_∧_∧_))
section
variable {A:PK} {j:Nat} (h:bQ j A)
include h
theorem nO (k:Int):(bO A.asked k).length≤400 * j+400:=by
 have h1:=iK A.asked k
 have h2:=h.al
 omega
theorem ya (k:Int):(A.leaveL k).length≤400 * j+400:=by
 unfold PK.leaveL
 split
 · exact nO h k
 · exact Nat.zero_le _
theorem s8 (k:Int) (a b:Bool):(A.chokeL k a b).length≤400 * j+400:=by
 unfold PK.chokeL
 split
 · exact Nat.le_trans (List.length_filter_le _ _) (nO h k)
 · exact Nat.zero_le _
theorem qV (k m:Int):(A.lookV k m).length≤400 * j+400:=by
 have:=nK h k m
 omega
theorem zh (k:Int) (c:aV):(A.hereL k c).length≤400 * j+400:=by
 unfold PK.hereL
 split
 · rw [List.length_map]
   refine Nat.le_trans (List.length_filter_le _ _) ?_
   have h1:=kY A.asked c
   have h2:=h.al
   omega
 exact Nat.zero_le _
theorem zi (i:Int):(A.freeV i).length≤400 * j+400:=by
 unfold PK.freeV PK.freeL
 split
 · have h1:=(cZ h i).2
   have h2:=List.length_filter_le (fun c=>!aF A.had i && A.freeC c) (A.blocks i)
   omega
 · exact Nat.zero_le _
end
theorem Pr {P:Program} {t:Nat} {xo yo:Operand} {w:World} {x:Int} {b:Nat} (hx:0≤x) (hb:0<b):iM P .rem t xo yo (.int .i64 x) (.int .i64 (b:Int)) w (.int .i64 ((x.toNat % b:Nat):Int)):=by
 obtain ⟨a,rfl⟩:=Int.eq_ofNat_of_zero_le hx
 rw [Int.toNat_natCast]
 exact qh hb
theorem Kn (n pz la:Int) (sd:ByteArray) (ino:Bool)  (w:World):Calls Tryz.prog 8 #[.agg #[vI n,vI pz,vI la,.string sd,.bool ino]] w fun e w'=>e=.returned (.bool (decide (gy n pz sd)))∧S w' [aB w no]:=by
 have H0:=S.old w
 refine en Tryz.func8 ?_
 refine ah [0] ?_
 refine iF ?_
 refine l_of (fq H0 ?_)
 intro g1 H8 H3
 refine aQ ?_
 refine w_v (iJ rfl rfl Tryz.underlying9) ?_
 refine ae ?_
 by_cases H4:((sd.size:Int):Int)≤300
 ·
  refine aN (dt H4) (xf 0) ?_
  refine aN (dt H4) (xl H3 0) ?_
  refine aN (dt H4) (ai rfl rfl rfl pA) ?_
  refine aN (dt H4) xm ?_
  by_cases H7:(n:Int)≤24
  ·
   iterate 3 refine dh (dt H7) ?_
   refine aN (dt H4) (pt (dt H7)) ?_
   refine w_v (pt (dt H4)) ?_
   refine cJ ?_
   refine aN rfl (xf 1) ?_
   refine aN rfl (xl H3 0) ?_
   refine aN rfl (ai rfl rfl rfl pA) ?_
   refine aN rfl xm ?_
   by_cases H6:(pz:Int)≤128
   ·
    iterate 3 refine dh (dt H6) ?_
    refine aN rfl (pt (dt H6)) ?_
    refine w_v (pt rfl) ?_
    refine ae ?_
    refine ah [2] ?_
    refine aR ?_
    refine af ?_
    have hE:decide (gy n pz sd)=true:=dt (p:=(gy n pz sd)) (by unfold gy; omega)
    rw [hE]
    exact ⟨rfl,H3.tk [1]⟩
   refine aN (df H6) (xf 1) ?_
   refine aN (df H6) (xl H3 0) ?_
   refine aN (df H6) (ai rfl rfl rfl fK) ?_
   refine aN rfl (pf (df H6)) ?_
   refine w_v (pt rfl) ?_
   refine ae ?_
   refine ah [2] ?_
   refine aR ?_
   refine af ?_
   have hE:decide (gy n pz sd)=(decide ((1024:Int)<pz)):=decide_eq_decide.2 (by unfold gy; omega)
   rw [hE]
   exact ⟨rfl,H3.tk [1]⟩
  refine aN (df H7) (xf 0) ?_
  refine aN (df H7) (xl H3 0) ?_
  refine aN (df H7) (ai rfl rfl rfl fK) ?_
  refine aN (dt H4) (pf (df H7)) ?_
  refine w_v (pt (dt H4)) ?_
  refine cJ ?_
  by_cases H2:(4096:Int)<n
  ·
   refine aN (dt H2) (xf 1) ?_
   refine aN (dt H2) (xl H3 0) ?_
   refine aN (dt H2) (ai rfl rfl rfl pA) ?_
   refine aN (dt H2) xm ?_
   by_cases H5:(pz:Int)≤128
   ·
    iterate 3 refine dh (dt H5) ?_
    refine aN (dt H2) (pt (dt H5)) ?_
    refine w_v (pt (dt H2)) ?_
    refine ae ?_
    refine ah [2] ?_
    refine aR ?_
    refine af ?_
    have hE:decide (gy n pz sd)=true:=dt (p:=(gy n pz sd)) (by unfold gy; omega)
    rw [hE]
    exact ⟨rfl,H3.tk [1]⟩
   refine aN (df H5) (xf 1) ?_
   refine aN (df H5) (xl H3 0) ?_
   refine aN (df H5) (ai rfl rfl rfl fK) ?_
   refine aN (dt H2) (pf (df H5)) ?_
   refine w_v (pt (dt H2)) ?_
   refine ae ?_
   refine ah [2] ?_
   refine aR ?_
   refine af ?_
   have hE:decide (gy n pz sd)=(decide ((1024:Int)<pz)):=decide_eq_decide.2 (by unfold gy; omega)
   rw [hE]
   exact ⟨rfl,H3.tk [1]⟩
  iterate 4 refine dh (df H2) ?_
  iterate 3 refine Gr ?_
  refine dh (df H2) ?_
  refine w_v (pf (df H2)) ?_
  refine ae ?_
  refine ah [2] ?_
  refine aR ?_
  refine af ?_
  have hE:decide (gy n pz sd)=false:=df (p:=(gy n pz sd)) (by unfold gy; omega)
  rw [hE]
  exact ⟨rfl,H3.tk [1]⟩
 iterate 4 refine dh (df H4) ?_
 iterate 3 refine Gr ?_
 refine dh (df H4) ?_
 refine w_v (pf (df H4)) ?_
 refine cJ ?_
 iterate 4 refine dh rfl ?_
 iterate 3 refine Gr ?_
 refine dh rfl ?_
 refine w_v (pf rfl) ?_
 refine ae ?_
 refine ah [2] ?_
 refine aR ?_
 refine af ?_
 have hE:decide (gy n pz sd)=false:=df (p:=(gy n pz sd)) (by unfold gy; omega)
 rw [hE]
 exact ⟨rfl,H3.tk [1]⟩
theorem LM (n pz la:Int) (sd:ByteArray) (ino:Bool) (hb:(100<(sd.size:Int)∨n<1∨4096<n∨pz<16∨1024<pz∨¬ pz % 16=0∨la<1∨pz<la)) (hne:gJ n pz la sd ≠ 0)  (w:World):Calls Tryz.prog 10 #[.agg #[vI n,vI pz,vI la,.string sd,.bool ino]] w fun e w'=>e=.returned (.tuple #[.pointer none,.pointer none,.bool true])∧S w' [aB w no]:=by
 have H0:=S.old w
 refine en Tryz.func10 ?_
 refine ah [0] ?_
 refine iF ?_
 refine l_of (fq H0 ?_)
 intro g1 H6 H3
 refine yM ?_
 refine l_of (cz H3 (NZ n pz la sd ino hb _) ?_)
 intro H4 H5
 refine a_ ?_
 refine ah [1,5,6] ?_
 refine io ?_
 refine l_of (cz H5 (N5 n pz la sd ino hb _) ?_)
 intro H2 H7
 refine a_ ?_
 refine ah [5,6,7,8] ?_
 refine cp ?_
 refine aN (dt rfl) xm ?_
 refine aN (v:=.bool true) (dt rfl) (ai rfl rfl rfl (j3 (r:=true) Tryz.underlying26 rfl)) ?_
 refine aN (dt rfl) xm ?_
 refine aN (dt rfl) (ai rfl rfl rfl eh) ?_
 refine aN (v:=.bool ((true) == (!decide (((gJ n pz la sd):Int)=0)))) (dt rfl) (ai rfl rfl rfl (j3 Tryz.underlying4 rfl)) ?_
 refine w_v (pt (dt rfl)) ?_
 refine aE ?_
 refine ah [2,3,4] ?_
 refine aR ?_
 refine af ?_
 exact ⟨by simp [dQ,hne],H7.tk [1]⟩
theorem LJ (n pz la:Nat) (sd:ByteArray) (ino:Bool) (h:((1≤n∧n≤24∧16≤pz∧pz≤128∧1≤la∧la≤pz∧sd.size≤100)∧(pz:Int) % 16=0))  (w:World):Calls Tryz.prog 10 #[.agg #[vI n,vI pz,vI la,.string sd,.bool ino]] w fun e w'=>∃ (X:XP) (Z:ZP),di X (fa n pz la sd ino)∧fU Z (fa n pz la sd ino)∧e=.returned (.tuple #[vP X.g,vP Z.g,.bool true])∧S w' [(XI X (fa n pz la sd ino)),(ZI Z (fa n pz la sd ino)),aB w no]:=by
 have H0:=S.old w
 refine en Tryz.func10 ?_
 refine ah [0] ?_
 refine iF ?_
 refine l_of (fq H0 ?_)
 intro g1 H6 H3
 refine yM ?_
 refine l_of (aG (G4 n pz la sd ino h _) ?_)
 rintro _ H4 ⟨X,hX,rfl,H5⟩
 replace H5:=H3.ab1 H5
 refine bW ?_
 refine a_ ?_
 refine ah [1,5,6] ?_
 refine io ?_
 refine l_of (aG (N4 n pz la sd ino h _) ?_)
 rintro _ H2 ⟨Z,hZ,rfl,H7⟩
 replace H7:=H5.ab1 H7
 refine bW ?_
 refine a_ ?_
 refine ah [5,6,7,8] ?_
 refine cp ?_
 refine aN (dt rfl) xm ?_
 refine aN (v:=.bool false) (dt rfl) (ai rfl rfl rfl (j3 (r:=false) Tryz.underlying26 rfl)) ?_
 refine aN (dt rfl) xm ?_
 refine aN (dt rfl) (ai rfl rfl rfl eh) ?_
 refine aN (v:=.bool ((false) == (!decide ((0:Int)=0)))) (dt rfl) (ai rfl rfl rfl (j3 Tryz.underlying4 rfl)) ?_
 refine w_v (pt (dt rfl)) ?_
 refine aE ?_
 refine ah [2,3,4] ?_
 refine aR ?_
 refine af ?_
 exact ⟨X,Z,hX,hZ,by simp [dQ],H7.tk [1,0,3]⟩
theorem LI (n pz la:Int) (sd:ByteArray) (ino:Bool) (hl:(gy n pz sd)) (w:World):Calls Tryz.prog 10 #[.agg #[vI n,vI pz,vI la,.string sd,.bool ino]] w fun e w'=>(gJ n pz la sd ≠ 0∧e=.returned (.tuple #[.pointer none,.pointer none,.bool true])∧S w' [aB w no])∨(∃ (X:XP) (Z:ZP),gJ n pz la sd=0∧OX X.g X (fa n.toNat pz.toNat la.toNat sd ino) 0∧OZ Z.g Z (fa n.toNat pz.toNat la.toNat sd ino) 0∧e=.returned (.tuple #[vP X.g,vP Z.g,.bool true])∧S w' [(XI X (fa n.toNat pz.toNat la.toNat sd ino)),(ZI Z (fa n.toNat pz.toNat la.toNat sd ino)),aB w no]):=by
 by_cases hne:gJ n pz la sd=0
 · have h1:=G5 hne (show zQ n pz from ⟨hl.2.1,hl.2.2⟩)
   have h2:pz % 16=0:=Classical.byContradiction fun h=>by
     unfold gJ at hne
     split at hne
     · cases hne
     · rw [if_pos (by omega)] at hne; cases hne
   have h3:=LJ n.toNat pz.toNat la.toNat sd ino ⟨⟨by omega,by omega,by omega,by omega,by omega,by omega,by omega⟩,by omega⟩ w
   rw [show ((n.toNat:Nat):Int)=n from by omega,show ((pz.toNat:Nat):Int)=pz from by omega,show ((la.toNat:Nat):Int)=la from by omega] at h3
   refine h3.mono ?_
   rintro e w' ⟨X,Z,hX,hZ,rfl,hS⟩
   have hI:bQ 0 (fa n.toNat pz.toNat la.toNat sd ino):=bQ.new ⟨by omega,by omega,by omega,by omega,by omega,by omega,by omega⟩
   exact .inr ⟨X,Z,hne,⟨rfl,hX,hI⟩,⟨rfl,hZ,hI⟩,rfl,hS⟩
 refine (LM n pz la sd ino ?_ hne w).mono ?_
 · refine Classical.byContradiction fun h=>hne ?_
   unfold gJ
   rw [if_neg (by omega),if_neg (by omega)]
 rintro e w' ⟨rfl,hS⟩
 exact .inl ⟨hne,rfl,hS⟩
theorem EJ {gz j:Nat} {Z:ZP} {A:PK} (hZ:OZ gz Z A j) (d:De) (hj:j≤80000)  (w:World) (HS:S w [(ZI Z A)]):Calls Tryz.prog 76 #[.agg #[vI d.kd,vI d.pe,vI d.pi,vI d.n,vI d.wh,.string (d.fl),.bool d.is,.bool d.kp,vI d.wi.lv,vI d.wi.du,vI d.bl.pc,vI d.bl.bg,vI d.bl.ln],vP gz] w fun e w'=>e=.returned (.agg #[vI (A.dblk d).pc,vI (A.dblk d).bg,vI (A.dblk d).ln])∧S w' ([(ZI Z A)]++[aB w (aT [(ZI Z A)])]):=by
 have H0:=HS.beginI
 refine en Tryz.func76 ?_
 refine ah [0,1] ?_
 refine iF ?_
 refine l_of (fq H0 ?_)
 intro g1 h7 H3
 refine l_of (cA H3 gX ?_)
 intro g4 h6 H6
 refine aQ ?_
 refine l_of (aG (EP hZ d.pe (by omega) _ (H6.tk [2])) ?_)
 rintro _ h5 ⟨pv9,cv10,rfl,H8⟩
 replace H8:=H6.aI2 [2] H8
 have hlr11:(bO A.asked d.pe).length≤400 * j+400:=nO hZ.inv _
 refine bW ?_
 refine dz ?_
 by_cases H2:(d.wh:Int)<0
 ·
  iterate 3 refine dh (dt H2) ?_
  refine w_v (pt (dt H2)) ?_
  refine cD ?_
  refine ah [2,4,5,17] ?_
  refine g_cond_t rfl rfl ?_
  refine ae ?_
  refine w_v (v:=.agg #[.int .i64 (d.bl.pc),.int .i64 (d.bl.bg),.int .i64 (d.bl.ln)]) (iN H8 3 rfl rfl Tryz.underlying44 rfl dE rfl rfl rfl) ?_
  refine l_of (PS #[.int .i64 (d.bl.pc),.int .i64 (d.bl.bg),.int .i64 (d.bl.ln)] H8 2 ?_)
  intro h4 h1
  refine aC ?_
  refine d5 [.cell 4 44] [.agg #[.int .i64 (d.bl.pc),.int .i64 (d.bl.bg),.int .i64 (d.bl.ln)]] rfl ⟨⟨_,rfl,dK (h1.ob (k:=2) rfl) Tryz.underlying44 rfl dE rfl rfl⟩,trivial⟩ ?_
  have hE:A.dblk d=d.bl:=if_pos (by omega)
  rw [hE]
  exact ⟨rfl,h1.tk [1,4]⟩
 refine aN (df H2) xm ?_
 refine aN (df H2) Aw ?_
 refine aN (df H2) (ai rfl rfl rfl f7) ?_
 refine w_v (pf (df H2)) ?_
 refine cD ?_
 refine ah [2,4,5,17] ?_
 by_cases H7:(((bO A.asked d.pe).length:Int):Int)=0
 ·
  refine bm H7 ?_
  refine ae ?_
  refine w_v (v:=.agg #[.int .i64 (d.bl.pc),.int .i64 (d.bl.bg),.int .i64 (d.bl.ln)]) (iN H8 3 rfl rfl Tryz.underlying44 rfl dE rfl rfl rfl) ?_
  refine l_of (PS #[.int .i64 (d.bl.pc),.int .i64 (d.bl.bg),.int .i64 (d.bl.ln)] H8 2 ?_)
  intro h3 h0
  refine aC ?_
  refine d5 [.cell 4 44] [.agg #[.int .i64 (d.bl.pc),.int .i64 (d.bl.bg),.int .i64 (d.bl.ln)]] rfl ⟨⟨_,rfl,dK (h0.ob (k:=2) rfl) Tryz.underlying44 rfl dE rfl rfl⟩,trivial⟩ ?_
  have hE:A.dblk d=d.bl:=if_pos (by omega)
  rw [hE]
  exact ⟨rfl,h0.tk [1,4]⟩
 refine br H7 ?_
 refine dz ?_
 have hmp9:0<(bO A.asked d.pe).length:=by omega
 have hml9:=Nat.mod_lt d.wh.toNat hmp9
 refine bP (v:=vI (((d.wh.toNat % (bO A.asked d.pe).length:Nat):Int))) (hb:=(Pr (by omega) hmp9)) ?_
 refine w_v (iH (d.wh.toNat % (bO A.asked d.pe).length) (H8.rr 0)) ?_
 obtain ⟨H4,H5⟩:=(H8.rr 0).exL cN (d.wh.toNat % (bO A.asked d.pe).length)
 refine w_v (bc (vs:=aO H4) (d.wh.toNat % (bO A.asked d.pe).length) (H8.rr 0) (by omega) rfl rfl Tryz.underlying44 rfl dE (by rfl) (cN.flAt H5)) ?_
 refine l_of (eu H8 2 ?_)
 intro h2 H9
 refine ae ?_
 refine d5 [.cell 4 44] [.agg #[vI H4.pc,vI H4.bg,vI H4.ln]] rfl ⟨⟨_,rfl,dK (H9.ob (k:=2) rfl) Tryz.underlying44 rfl dE rfl rfl⟩,trivial⟩ ?_
 have hE:A.dblk d=H4:=by unfold PK.dblk; rw [if_neg (by omega),List.getD_eq_getElem?_getD,H5]; rfl
 rw [hE]
 exact ⟨rfl,H9.tk [1,4]⟩
theorem O6 {gx gz j:Nat} {X:XP} {Z:ZP} {A:PK} (hX:OX gx X A j) (hZ:OZ gz Z A j) (d:De) (hdn:cO d.n) (hj:j≤80000)  (w:World) (HS:S w [(XI X A),(ZI Z A)]):Calls Tryz.prog 24 #[vP gx,vP gz,.agg #[vI d.kd,vI d.pe,vI d.pi,vI d.n,vI d.wh,.string (d.fl),.bool d.is,.bool d.kp,vI d.wi.lv,vI d.wi.du,vI d.bl.pc,vI d.bl.bg,vI d.bl.ln]] w fun e w'=>∃ (X':XP) (Z':ZP),OX gx X' (A.deed d) (j+1)∧OZ gz Z' (A.deed d) (j+1)∧e=.returned (.bool true)∧S w' [(XI X' (A.deed d)),(ZI Z' (A.deed d)),aB w (aT [(XI X A),(ZI Z A)])]:=by
 have H0:=HS.beginI
 refine en Tryz.func24 ?_
 refine ah [0,1,2] ?_
 refine iF ?_
 refine l_of (fq H0 ?_)
 intro g1 X4 H3
 refine jG ?_
 by_cases g2:(d.kd:Int)=0
 ·
  refine bm g2 ?_
  refine g_seq ?_
  refine g_aM [] [0] [] H3 (fun XZ H6=>?_)
  have m3:=H6.tk [0]
  refine aU 0 m3 ?_
  refine aU 1 m3 ?_
  refine eY 2 0 m3 ?_
  refine aU 4 m3 ?_
  refine aU 5 m3 ?_
  refine eY 6 0 m3 ?_
  refine bG (i:=3) ?_
  refine aG (G9 hX d.pe (by omega) _ (H6.tk [1])) ?_
  rintro _ XY ⟨Y9,hY10,rfl,H8⟩
  replace H8:=H6.aI1 [1] H8
  refine bW ?_
  refine bF (H8.tk [1]) ?_
  refine bG (i:=7) ?_
  refine aG (Oj hZ d.pe (by omega) _ (H8.tk [2])) ?_
  rintro _ XT ⟨Y13,hY14,rfl,q3⟩
  replace q3:=H8.aI1 [2] q3
  refine bW ?_
  have q7:=q3.tk [2]
  refine bF q7 ?_
  refine bT 8 rfl q7 (fun _ _=>ai rfl rfl rfl f7) ?_
  refine bG (i:=9) ?_
  refine iW xa ?_
  refine bF q7 ?_
  refine fP ?_
  refine aR ?_
  refine ah [6] ?_
  refine aC ?_
  refine af ?_
  have hD:A.deed d=(A.joinA d.pe):=by unfold PK.deed; rw [if_pos g2]
  rw [hD]
  exact ⟨Y9,Y13,hY10,hY14,by simp [dQ],q3.tk [1,0,3]⟩
 refine br g2 ?_
 refine aE ?_
 by_cases H2:(d.kd:Int)=1
 ·
  refine bm H2 ?_
  refine aE ?_
  refine l_of (aG (Kt hX d.pe (by omega) _ (H3.tk [1])) ?_)
  rintro _ XS ⟨Y18,hY19,pv20,cv21,rfl,q2⟩
  replace q2:=H3.aI2 [1] q2
  have hlr22:(A.leaveL d.pe).length≤400 * j+400:=ya hX.inv _
  refine bW ?_
  refine a_ ?_
  refine ah [1,5,7,8] ?_
  refine aE ?_
  refine l_of (aG (Kp hZ d.pe (by omega) _ (q2.tk [3])) ?_)
  rintro _ XR ⟨Y25,hY26,pv27,cv28,rfl,m6⟩
  replace m6:=q2.aI2 [3] m6
  have hlr29:(A.leaveL d.pe).length≤400 * j+400:=ya hZ.inv _
  refine bW ?_
  refine eG ?_
  refine l_of (cz m6 (lz (A.leaveL d.pe) (by omega) pv20 cv21 pv27 cv28 _ (m6.rr 2) (m6.rr 0)) ?_)
  intro XQ XX
  refine cJ ?_
  iterate 2 refine aN rfl xm ?_
  refine aN rfl (ai rfl rfl rfl f7) ?_
  refine w_v (pt rfl) ?_
  refine ae ?_
  refine ah [6] ?_
  refine aC ?_
  refine af ?_
  have hD:A.deed d=(A.leaveA d.pe):=by unfold PK.deed; rw [if_neg g2,if_pos H2]
  rw [hD]
  exact ⟨Y18,Y25,hY19,hY26,by simp [dQ],XX.tk [3,1,5]⟩
 refine br H2 ?_
 refine aE ?_
 by_cases H4:(d.kd:Int)=2
 ·
  refine bm H4 ?_
  refine g_seq ?_
  refine g_aM [] [0] [] H3 (fun o9 r4=>?_)
  have x7:=r4.tk [0]
  refine aU 0 x7 ?_
  refine aU 1 x7 ?_
  refine eY 2 0 x7 ?_
  refine aU 3 x7 ?_
  refine eY 4 0 x7 ?_
  refine aU 6 x7 ?_
  refine aU 7 x7 ?_
  refine eY 8 0 x7 ?_
  refine aU 9 x7 ?_
  refine eY 10 0 x7 ?_
  refine bG (i:=5) ?_
  refine aG (Hf hX d.pe d.fl (by omega) _ (r4.tk [1])) ?_
  rintro _ o1 ⟨Y37,hY38,rfl,m5⟩
  replace m5:=r4.aI1 [1] m5
  refine bW ?_
  refine bF (m5.tk [1]) ?_
  refine bG (i:=11) ?_
  refine aG (OC hZ d.pe d.fl (by omega) _ (m5.tk [2])) ?_
  rintro _ e9 ⟨Y41,hY42,rfl,q1⟩
  replace q1:=m5.aI1 [2] q1
  refine bW ?_
  have q6:=q1.tk [2]
  refine bF q6 ?_
  refine bT 12 rfl q6 (fun _ _=>ai rfl rfl rfl f7) ?_
  refine bG (i:=13) ?_
  refine iW xa ?_
  refine bF q6 ?_
  refine fP ?_
  refine aR ?_
  refine ah [6] ?_
  refine aC ?_
  refine af ?_
  have hD:A.deed d=(A.hasFA d.pe d.fl):=by unfold PK.deed; rw [if_neg g2,if_neg H2,if_pos H4]
  rw [hD]
  exact ⟨Y37,Y41,hY38,hY42,by simp [dQ],q1.tk [1,0,3]⟩
 refine br H4 ?_
 refine aE ?_
 by_cases H5:(d.kd:Int)=3
 ·
  refine bm H5 ?_
  refine g_seq ?_
  refine g_aM [] [0] [] H3 (fun e8 r3=>?_)
  have x6:=r3.tk [0]
  refine aU 0 x6 ?_
  refine aU 1 x6 ?_
  refine eY 2 0 x6 ?_
  refine aU 3 x6 ?_
  refine eY 4 0 x6 ?_
  refine aU 6 x6 ?_
  refine aU 7 x6 ?_
  refine eY 8 0 x6 ?_
  refine aU 9 x6 ?_
  refine eY 10 0 x6 ?_
  refine bG (i:=5) ?_
  refine aG (OB hX d.pe d.pi (by omega) _ (r3.tk [1])) ?_
  rintro _ e7 ⟨Y48,hY49,rfl,q0⟩
  replace q0:=r3.aI1 [1] q0
  refine bW ?_
  refine bF (q0.tk [1]) ?_
  refine bG (i:=11) ?_
  refine cz q0 (vF d.pi _) ?_
  intro e6 r2
  refine bF (r2.tk [1]) ?_
  refine bG (i:=12) ?_
  refine aG (He hZ d.pe d.pi true (by omega) _ (r2.tk [2])) ?_
  rintro _ e5 ⟨Y54,hY55,rfl,n2⟩
  replace n2:=r2.aI1 [2] n2
  refine bW ?_
  have q5:=n2.tk [2]
  refine bF q5 ?_
  refine bT 13 rfl q5 (fun _ _=>ai rfl rfl rfl f7) ?_
  refine bG (i:=14) ?_
  refine iW xa ?_
  refine bF q5 ?_
  refine fP ?_
  refine aR ?_
  refine ah [6] ?_
  refine aC ?_
  refine af ?_
  have hD:A.deed d=(A.setA d.pe d.pi true):=by unfold PK.deed; rw [if_neg g2,if_neg H2,if_neg H4,if_pos H5]
  rw [hD]
  exact ⟨Y48,Y54,hY49,hY55,by simp [dQ],n2.tk [1,0,3]⟩
 refine br H5 ?_
 refine aE ?_
 refine ah [0,1,5,30,97] ?_
 by_cases H9:(d.kd:Int)=4
 ·
  refine bm H9 ?_
  refine g_seq ?_
  refine g_aM [] [0] [] H3 (fun e4 r1=>?_)
  have x5:=r1.tk [0]
  refine aU 0 x5 ?_
  refine aU 1 x5 ?_
  refine eY 2 0 x5 ?_
  refine aU 3 x5 ?_
  refine eY 4 0 x5 ?_
  refine aU 6 x5 ?_
  refine aU 7 x5 ?_
  refine eY 8 0 x5 ?_
  refine aU 9 x5 ?_
  refine eY 10 0 x5 ?_
  refine bG (i:=5) ?_
  refine aG (N9 hX d.pe d.pi (by omega) _ (r1.tk [1])) ?_
  rintro _ e3 ⟨Y61,hY62,rfl,n1⟩
  replace n1:=r1.aI1 [1] n1
  refine bW ?_
  refine bF (n1.tk [1]) ?_
  refine bG (i:=11) ?_
  refine cz n1 (vF d.pi _) ?_
  intro e2 r0
  refine bF (r0.tk [1]) ?_
  refine bG (i:=12) ?_
  refine aG (He hZ d.pe d.pi false (by omega) _ (r0.tk [2])) ?_
  rintro _ e1 ⟨Y67,hY68,rfl,n0⟩
  replace n0:=r0.aI1 [2] n0
  refine bW ?_
  have q4:=n0.tk [2]
  refine bF q4 ?_
  refine bT 13 rfl q4 (fun _ _=>ai rfl rfl rfl f7) ?_
  refine bG (i:=14) ?_
  refine iW xa ?_
  refine bF q4 ?_
  refine fP ?_
  refine aR ?_
  refine ah [6] ?_
  refine aC ?_
  refine af ?_
  have hD:A.deed d=(A.setA d.pe d.pi false):=by unfold PK.deed; rw [if_neg g2,if_neg H2,if_neg H4,if_neg H5,if_pos H9]
  rw [hD]
  exact ⟨Y61,Y67,hY62,hY68,by simp [dQ],n0.tk [1,0,3]⟩
 refine br H9 ?_
 refine aE ?_
 by_cases h1:(d.kd:Int)=5
 ·
  refine bm h1 ?_
  refine dz ?_
  refine l_of (aG (EG hX d.pe d.is d.kp (by omega) _ (H3.tk [1])) ?_)
  rintro _ e0 ⟨Y72,hY73,pv74,cv75,rfl,m9⟩
  replace m9:=H3.aI2 [1] m9
  have hlr76:(A.chokeL d.pe d.is d.kp).length≤400 * j+400:=s8 hX.inv _ _ _
  refine bW ?_
  refine a_ ?_
  refine ah [1,5,11,12] ?_
  refine dz ?_
  refine l_of (aG (Lk hZ d.pe d.is d.kp (by omega) _ (m9.tk [3])) ?_)
  rintro _ a9 ⟨Y79,hY80,pv81,cv82,rfl,m4⟩
  replace m4:=m9.aI2 [3] m4
  have hlr83:(A.chokeL d.pe d.is d.kp).length≤400 * j+400:=s8 hZ.inv _ _ _
  refine bW ?_
  refine a_ ?_
  refine ah [11,12,13,14] ?_
  refine aC ?_
  refine l_of (cz m4 (lz (A.chokeL d.pe d.is d.kp) (by omega) pv74 cv75 pv81 cv82 _ (m4.rr 2) (m4.rr 0)) ?_)
  intro a8 XW
  refine cJ ?_
  iterate 2 refine aN rfl xm ?_
  refine aN rfl (ai rfl rfl rfl f7) ?_
  refine w_v (pt rfl) ?_
  refine ae ?_
  refine ah [6] ?_
  refine aC ?_
  refine af ?_
  have hD:A.deed d=(A.chokeA d.pe d.is d.kp):=by unfold PK.deed; rw [if_neg g2,if_neg H2,if_neg H4,if_neg H5,if_neg H9,if_pos h1]
  rw [hD]
  exact ⟨Y72,Y79,hY73,hY80,by simp [dQ],XW.tk [3,1,5]⟩
 refine br h1 ?_
 refine aE ?_
 by_cases h2:(d.kd:Int)=6
 ·
  refine bm h2 ?_
  refine g_seq ?_
  refine g_aM [] [0] [] H3 (fun a7 q9=>?_)
  have x4:=q9.tk [0]
  refine aU 0 x4 ?_
  refine aU 1 x4 ?_
  refine eY 2 0 x4 ?_
  refine aU 3 x4 ?_
  refine eY 4 0 x4 ?_
  refine aU 6 x4 ?_
  refine aU 7 x4 ?_
  refine eY 8 0 x4 ?_
  refine aU 9 x4 ?_
  refine eY 10 0 x4 ?_
  refine bG (i:=5) ?_
  refine aG (Mc hX d.pe d.pi (by omega) _ (q9.tk [1])) ?_
  rintro _ a6 ⟨Y91,hY92,rfl,m8⟩
  replace m8:=q9.aI1 [1] m8
  refine bW ?_
  refine bF (m8.tk [1]) ?_
  refine bG (i:=11) ?_
  refine cz m8 (vF d.pi _) ?_
  intro a5 q8
  refine bF (q8.tk [1]) ?_
  refine bG (i:=12) ?_
  refine aG (L_ hZ d.pe d.pi (by omega) _ (q8.tk [2])) ?_
  rintro _ a3 ⟨Y97,hY98,rfl,m7⟩
  replace m7:=q8.aI1 [2] m7
  refine bW ?_
  have k0:=m7.tk [2]
  refine bF k0 ?_
  refine bT 13 rfl k0 (fun _ _=>ai rfl rfl rfl f7) ?_
  refine bG (i:=14) ?_
  refine iW xa ?_
  refine bF k0 ?_
  refine fP ?_
  refine aR ?_
  refine ah [6] ?_
  refine aC ?_
  refine af ?_
  have hD:A.deed d=(A.allowA d.pe d.pi):=by unfold PK.deed; rw [if_neg g2,if_neg H2,if_neg H4,if_neg H5,if_neg H9,if_neg h1,if_pos h2]
  rw [hD]
  exact ⟨Y91,Y97,hY92,hY98,by simp [dQ],m7.tk [1,0,3]⟩
 refine br h2 ?_
 refine aE ?_
 by_cases h4:(d.kd:Int)=7
 ·
  refine bm h4 ?_
  refine g_seq ?_
  refine g_aM [] [0] [] H3 (fun a2 m2=>?_)
  have h9:=m2.tk [0]
  refine aU 0 h9 ?_
  refine aU 1 h9 ?_
  refine eY 2 0 h9 ?_
  refine aU 3 h9 ?_
  refine eY 4 0 h9 ?_
  refine aU 6 h9 ?_
  refine aU 7 h9 ?_
  refine eY 8 0 h9 ?_
  refine aU 9 h9 ?_
  refine eY 10 0 h9 ?_
  refine bG (i:=5) ?_
  refine aG (Ng hX d.pe d.pi (by omega) _ (m2.tk [1])) ?_
  rintro _ d4 ⟨Y104,hY105,rfl,b0⟩
  replace b0:=m2.aI1 [1] b0
  refine bW ?_
  refine bF (b0.tk [1]) ?_
  refine bG (i:=11) ?_
  refine cz b0 (vF d.pi _) ?_
  intro d3 m1
  refine bF (m1.tk [1]) ?_
  refine bG (i:=12) ?_
  refine aG (Nf hZ d.pe d.pi (by omega) _ (m1.tk [2])) ?_
  rintro _ d2 ⟨Y110,hY111,rfl,w9⟩
  replace w9:=m1.aI1 [2] w9
  refine bW ?_
  have b9:=w9.tk [2]
  refine bF b9 ?_
  refine bT 13 rfl b9 (fun _ _=>ai rfl rfl rfl f7) ?_
  refine bG (i:=14) ?_
  refine iW xa ?_
  refine bF b9 ?_
  refine fP ?_
  refine aR ?_
  refine ah [6] ?_
  refine aC ?_
  refine af ?_
  have hD:A.deed d=(A.suggA d.pe d.pi):=by unfold PK.deed; rw [if_neg g2,if_neg H2,if_neg H4,if_neg H5,if_neg H9,if_neg h1,if_neg h2,if_pos h4]
  rw [hD]
  exact ⟨Y104,Y110,hY105,hY111,by simp [dQ],w9.tk [1,0,3]⟩
 refine br h4 ?_
 refine aE ?_
 by_cases H7:(d.kd:Int)=8
 ·
  refine bm H7 ?_
  refine g_seq ?_
  refine g_aM [] [0] [] H3 (fun d1 m0=>?_)
  have h8:=m0.tk [0]
  refine aU 0 h8 ?_
  refine aU 1 h8 ?_
  refine eY 2 0 h8 ?_
  refine aU 3 h8 ?_
  refine eY 4 0 h8 ?_
  refine aU 6 h8 ?_
  refine aU 7 h8 ?_
  refine eY 8 0 h8 ?_
  refine aU 9 h8 ?_
  refine eY 10 0 h8 ?_
  refine bG (i:=5) ?_
  refine aG (Nm hX d.pe d.is (by omega) _ (m0.tk [1])) ?_
  rintro _ d0 ⟨Y117,hY118,rfl,x3⟩
  replace x3:=m0.aI1 [1] x3
  refine bW ?_
  refine bF (x3.tk [1]) ?_
  refine bG (i:=11) ?_
  refine aG (Nj hZ d.pe d.is (by omega) _ (x3.tk [2])) ?_
  rintro _ j2 ⟨Y121,hY122,rfl,w8⟩
  replace w8:=x3.aI1 [2] w8
  refine bW ?_
  have b8:=w8.tk [2]
  refine bF b8 ?_
  refine bT 12 rfl b8 (fun _ _=>ai rfl rfl rfl f7) ?_
  refine bG (i:=13) ?_
  refine iW xa ?_
  refine bF b8 ?_
  refine fP ?_
  refine aR ?_
  refine ah [6] ?_
  refine aC ?_
  refine af ?_
  have hD:A.deed d=(A.snubA d.pe d.is):=by unfold PK.deed; rw [if_neg g2,if_neg H2,if_neg H4,if_neg H5,if_neg H9,if_neg h1,if_neg h2,if_neg h4,if_pos H7]
  rw [hD]
  exact ⟨Y117,Y121,hY118,hY122,by simp [dQ],w8.tk [1,0,3]⟩
 refine br H7 ?_
 refine aE ?_
 by_cases h0:(d.kd:Int)=9
 ·
  refine bm h0 ?_
  refine g_seq ?_
  refine g_aM [] [0] [] H3 (fun j1 k9=>?_)
  have h7:=k9.tk [0]
  refine aU 0 h7 ?_
  refine aU 1 h7 ?_
  refine eY 2 0 h7 ?_
  refine aU 3 h7 ?_
  refine bT (v:=.agg #[.int .i64 (d.wi.lv),.int .i64 (d.wi.du)]) 4 rfl h7 (fun _ H=>iN H 0 rfl rfl Tryz.underlying40 rfl EW rfl rfl rfl) ?_
  refine aU 6 h7 ?_
  refine aU 7 h7 ?_
  refine eY 8 0 h7 ?_
  refine aU 9 h7 ?_
  refine bT (v:=.agg #[.int .i64 (d.wi.lv),.int .i64 (d.wi.du)]) 10 rfl h7 (fun _ H=>iN H 0 rfl rfl Tryz.underlying40 rfl EW rfl rfl rfl) ?_
  refine bG (i:=5) ?_
  refine bR (bh rfl) (aP rfl rfl R9) (M6 hX d.pi d.wi (by omega) _ (k9.takes [1] (by decide))) ?_
  rintro _ j0 ⟨Y128,hY129,rfl,x2⟩
  replace x2:=k9.aI1 [1] x2
  refine bW ?_
  refine bF (x2.tk [1]) ?_
  refine bG (i:=11) ?_
  refine bR (bh rfl) (aP rfl rfl R7) (MZ hZ d.pi d.wi (by omega) _ (x2.takes [2] (by decide))) ?_
  rintro _ i9 ⟨Y132,hY133,rfl,c9⟩
  replace c9:=x2.aI1 [2] c9
  refine bW ?_
  have b7:=c9.tk [2]
  refine bF b7 ?_
  refine bT 12 rfl b7 (fun _ _=>ai rfl rfl rfl f7) ?_
  refine bG (i:=13) ?_
  refine iW xa ?_
  refine bF b7 ?_
  refine fP ?_
  refine aR ?_
  refine ah [6] ?_
  refine aC ?_
  refine af ?_
  have hD:A.deed d=(A.wishA d.pi d.wi):=by unfold PK.deed; rw [if_neg g2,if_neg H2,if_neg H4,if_neg H5,if_neg H9,if_neg h1,if_neg h2,if_neg h4,if_neg H7,if_pos h0]
  rw [hD]
  exact ⟨Y128,Y132,hY129,hY133,by simp [dQ],c9.tk [1,0,3]⟩
 refine br h0 ?_
 refine aE ?_
 refine ah [0,1,5,30,207] ?_
 by_cases h3:(d.kd:Int)=10
 ·
  refine bm h3 ?_
  refine a_ ?_
  refine l_of (aG (Oa hX d.pe d.n (by omega) (by first | assumption | (unfold cO; omega)) _ (H3.tk [1])) ?_)
  rintro _ i8 ⟨pv137,cv138,rfl,c8⟩
  replace c8:=H3.aI2 [1] c8
  have hlr139:(A.lookV d.pe d.n).length≤400 * j+400:=qV hX.inv _ _
  refine bW ?_
  refine jG ?_
  refine l_of (aG (G3 hX d.pe d.n (by omega) (by first | assumption | (unfold cO; omega)) _ (c8.tk [1])) ?_)
  rintro _ i5 ⟨Y142,hY143,pv144,cv145,rfl,c7⟩
  replace c7:=c8.aI2 [1] c7
  have hlr146:(A.lookV d.pe d.n).length≤400 * j+400:=qV hX.inv _ _
  refine bW ?_
  refine a_ ?_
  refine ah [1,5,15,16,17,18] ?_
  refine a_ ?_
  refine l_of (aG (NV hZ d.pe d.n (by omega) (by first | assumption | (unfold cO; omega)) _ (c7.tk [4])) ?_)
  rintro _ i4 ⟨Y149,hY150,pv151,cv152,rfl,x1⟩
  replace x1:=c7.aI2 [4] x1
  have hlr153:(A.lookV d.pe d.n).length≤400 * j+400:=qV hZ.inv _ _
  refine bW ?_
  refine eG ?_
  refine l_of (cz x1 (lz (A.lookV d.pe d.n) (by omega) pv144 cv145 pv151 cv152 _ (x1.rr 2) (x1.rr 0)) ?_)
  intro i3 k7
  refine cJ ?_
  iterate 2 refine aN rfl xm ?_
  refine aN rfl (ai rfl rfl rfl f7) ?_
  refine w_v (pt rfl) ?_
  refine cJ ?_
  iterate 2 refine aN (dt rfl) xm ?_
  refine l_of (bZ k7 (cU rfl rfl rfl rfl (dt rfl)) (aP rfl rfl MV) (lz (A.lookV d.pe d.n) (by omega) pv137 cv138 pv151 cv152 _ (k7.rr 4) (k7.rr 0)) rfl rfl ?_)
  intro i1 v1
  refine w_v (pt (dt rfl)) ?_
  refine cJ ?_
  iterate 2 refine aN rfl xm ?_
  refine aN rfl (ai rfl rfl rfl f7) ?_
  refine w_v (pt rfl) ?_
  refine ae ?_
  refine ah [6] ?_
  refine aC ?_
  refine af ?_
  have hD:A.deed d=(A.nextA d.pe d.n):=by unfold PK.deed; rw [if_neg g2,if_neg H2,if_neg H4,if_neg H5,if_neg H9,if_neg h1,if_neg h2,if_neg h4,if_neg H7,if_neg h0,if_pos h3]
  rw [hD]
  exact ⟨Y142,Y149,hY143,hY150,by simp [dQ],v1.tk [3,1,6]⟩
 refine br h3 ?_
 refine aE ?_
 by_cases g0:(d.kd:Int)=11
 ·
  refine bm g0 ?_
  refine iF ?_
  refine w_v (fS H3 0) ?_
  refine cJ ?_
  refine l_of (aG (EJ hZ d (by omega) _ (H3.tk [2])) ?_)
  rintro _ y9 ⟨rfl,k6⟩
  replace k6:=H3.aI1 [2] k6
  refine bW ?_
  refine l_of (cA k6 gX ?_)
  intro XV y8 v0
  refine l_of (eu v0 0 ?_)
  intro y7 k5
  refine aQ ?_
  refine w_v (fS k5 0) ?_
  refine l_of (aG (Oy hX d.pe (A.dblk d) (by omega) _ (k5.tk [3])) ?_)
  rintro _ y6 ⟨Y168,hY169,pv170,cv171,rfl,x0⟩
  replace x0:=k5.aI2 [3] x0
  have hlr172:(A.hereL d.pe (A.dblk d)).length≤400 * j+400:=zh hX.inv _ _
  refine bW ?_
  refine dz ?_
  refine ah [1,5,21,22,23,24] ?_
  refine aE ?_
  refine w_v (fS x0 2) ?_
  refine l_of (aG (Ov hZ d.pe (A.dblk d) (by omega) _ (x0.tk [3])) ?_)
  rintro _ y5 ⟨Y175,hY176,pv177,cv178,rfl,g9⟩
  replace g9:=x0.aI2 [3] g9
  have hlr179:(A.hereL d.pe (A.dblk d)).length≤400 * j+400:=zh hZ.inv _ _
  refine bW ?_
  refine dz ?_
  refine ah [22,23,24,25,26,27] ?_
  refine aC ?_
  refine l_of (cz g9 (Jo (A.hereL d.pe (A.dblk d)) (by omega) pv170 cv171 pv177 cv178 _ (g9.rr 2) (g9.rr 0)) ?_)
  intro y4 u9
  refine cJ ?_
  iterate 2 refine aN rfl xm ?_
  refine aN (v:=.bool (((A.hereW d.pe (A.dblk d))) == ((A.hereW d.pe (A.dblk d))))) rfl (ai rfl rfl rfl (j3 Tryz.underlying4 rfl)) ?_
  refine w_v (pt rfl) ?_
  refine cJ ?_
  iterate 2 refine aN (beq_self_eq_true ((A.hereW d.pe (A.dblk d)))) xm ?_
  refine aN (beq_self_eq_true ((A.hereW d.pe (A.dblk d)))) (ai rfl rfl rfl f7) ?_
  refine w_v (dH rfl rfl (beq_self_eq_true ((A.hereW d.pe (A.dblk d)))) rfl) ?_
  refine ae ?_
  refine ah [6] ?_
  refine aC ?_
  refine af ?_
  have hD:A.deed d=(A.hereA d.pe (A.dblk d)):=by unfold PK.deed; rw [if_neg g2,if_neg H2,if_neg H4,if_neg H5,if_neg H9,if_neg h1,if_neg h2,if_neg h4,if_neg H7,if_neg h0,if_neg h3,if_pos g0]
  rw [hD]
  exact ⟨Y168,Y175,hY169,hY176,by simp [dQ],u9.tk [3,1,6]⟩
 refine br g0 ?_
 refine aE ?_
 by_cases g3:(d.kd:Int)=12
 ·
  refine bm g3 ?_
  refine iF ?_
  refine w_v (fS H3 0) ?_
  refine cJ ?_
  refine l_of (aG (EJ hZ d (by omega) _ (H3.tk [2])) ?_)
  rintro _ y3 ⟨rfl,k4⟩
  replace k4:=H3.aI1 [2] k4
  refine bW ?_
  refine l_of (cA k4 gX ?_)
  intro XU y2 u0
  refine l_of (eu u0 0 ?_)
  intro y1 r7
  refine cD ?_
  refine g_seq ?_
  refine g_aM [] [0,2] [] r7 (fun y0 k3=>?_)
  have g4:=k3.tk [0,2]
  refine aU 0 g4 ?_
  refine aU 1 g4 ?_
  refine eY 2 1 g4 ?_
  refine bT 3 rfl g4 (fun _ H=>fS H 0) ?_
  refine aU 5 g4 ?_
  refine aU 6 g4 ?_
  refine eY 7 1 g4 ?_
  refine bT 8 rfl g4 (fun _ H=>fS H 0) ?_
  refine bG (i:=4) ?_
  refine aG (Qp hX d.pe (A.dblk d) (by omega) _ (k3.tk [3])) ?_
  rintro _ v9 ⟨Y194,hY195,rfl,g8⟩
  replace g8:=k3.aI1 [3] g8
  refine bW ?_
  refine bF (g8.tk [1,3]) ?_
  refine bG (i:=9) ?_
  refine aG (Qm hZ d.pe (A.dblk d) (by omega) _ (g8.tk [2])) ?_
  rintro _ v8 ⟨Y198,hY199,rfl,c6⟩
  replace c6:=g8.aI1 [2] c6
  refine bW ?_
  have b6:=c6.tk [2,3]
  refine bF b6 ?_
  refine bT 10 rfl b6 (fun _ _=>ai rfl rfl rfl f7) ?_
  refine bG (i:=11) ?_
  refine iW xa ?_
  refine bF b6 ?_
  refine fP ?_
  refine aR ?_
  refine ah [6] ?_
  refine aC ?_
  refine af ?_
  have hD:A.deed d=(A.rejA d.pe (A.dblk d)):=by unfold PK.deed; rw [if_neg g2,if_neg H2,if_neg H4,if_neg H5,if_neg H9,if_neg h1,if_neg h2,if_neg h4,if_neg H7,if_neg h0,if_neg h3,if_neg g0,if_pos g3]
  rw [hD]
  exact ⟨Y194,Y198,hY195,hY199,by simp [dQ],c6.tk [1,0,4]⟩
 refine br g3 ?_
 refine aE ?_
 by_cases g5:(d.kd:Int)=13
 ·
  refine bm g5 ?_
  refine g_seq ?_
  refine g_aM [] [0] [] H3 (fun v7 k2=>?_)
  have h6:=k2.tk [0]
  refine aU 0 h6 ?_
  refine aU 1 h6 ?_
  refine eY 2 0 h6 ?_
  refine aU 3 h6 ?_
  refine eY 4 0 h6 ?_
  refine aU 6 h6 ?_
  refine aU 7 h6 ?_
  refine eY 8 0 h6 ?_
  refine aU 9 h6 ?_
  refine eY 10 0 h6 ?_
  refine bG (i:=5) ?_
  refine aG (O5 hX d.pi d.is (by omega) _ (k2.tk [1])) ?_
  rintro _ v6 ⟨Y205,hY206,rfl,g7⟩
  replace g7:=k2.aI1 [1] g7
  refine bW ?_
  refine bF (g7.tk [1]) ?_
  refine bG (i:=11) ?_
  refine aG (O2 hZ d.pi d.is (by omega) _ (g7.tk [2])) ?_
  rintro _ v5 ⟨Y209,hY210,rfl,x9⟩
  replace x9:=g7.aI1 [2] x9
  refine bW ?_
  have b2:=x9.tk [2]
  refine bF b2 ?_
  refine bT 12 rfl b2 (fun _ _=>ai rfl rfl rfl f7) ?_
  refine bG (i:=13) ?_
  refine iW xa ?_
  refine bF b2 ?_
  refine fP ?_
  refine aR ?_
  refine ah [6] ?_
  refine aC ?_
  refine af ?_
  have hD:A.deed d=(A.doneA d.pi d.is):=by unfold PK.deed; rw [if_neg g2,if_neg H2,if_neg H4,if_neg H5,if_neg H9,if_neg h1,if_neg h2,if_neg h4,if_neg H7,if_neg h0,if_neg h3,if_neg g0,if_neg g3,if_pos g5]
  rw [hD]
  exact ⟨Y205,Y209,hY206,hY210,by simp [dQ],x9.tk [1,0,3]⟩
 refine br g5 ?_
 refine aC ?_
 refine g_seq ?_
 refine g_aM [] [0] [] H3 (fun v4 k1=>?_)
 have h5:=k1.tk [0]
 refine aU 0 h5 ?_
 refine aU 1 h5 ?_
 refine eY 2 0 h5 ?_
 refine aU 3 h5 ?_
 refine eY 4 0 h5 ?_
 refine aU 6 h5 ?_
 refine aU 7 h5 ?_
 refine eY 8 0 h5 ?_
 refine aU 9 h5 ?_
 refine eY 10 0 h5 ?_
 refine bG (i:=5) ?_
 refine aG (Nv hX d.pi d.is (by omega) _ (k1.tk [1])) ?_
 rintro _ v3 ⟨Y215,hY216,rfl,g6⟩
 replace g6:=k1.aI1 [1] g6
 refine bW ?_
 refine bF (g6.tk [1]) ?_
 refine bG (i:=11) ?_
 refine aG (Ns hZ d.pi d.is (by omega) _ (g6.tk [2])) ?_
 rintro _ v2 ⟨Y219,hY220,rfl,x8⟩
 replace x8:=g6.aI1 [2] x8
 refine bW ?_
 have b1:=x8.tk [2]
 refine bF b1 ?_
 refine bT 12 rfl b1 (fun _ _=>ai rfl rfl rfl f7) ?_
 refine bG (i:=13) ?_
 refine iW xa ?_
 refine bF b1 ?_
 refine fP ?_
 refine aR ?_
 refine ah [6] ?_
 refine aR ?_
 refine af ?_
 have hD:A.deed d=(A.setHA d.pi d.is):=by unfold PK.deed; rw [if_neg g2,if_neg H2,if_neg H4,if_neg H5,if_neg H9,if_neg h1,if_neg h2,if_neg h4,if_neg H7,if_neg h0,if_neg h3,if_neg g0,if_neg g3,if_neg g5]
 rw [hD]
 exact ⟨Y215,Y219,hY216,hY220,by simp [dQ],x8.tk [1,0,3]⟩
end Go.Proofs.YthmmfhdpkddniaaGreatDoor
