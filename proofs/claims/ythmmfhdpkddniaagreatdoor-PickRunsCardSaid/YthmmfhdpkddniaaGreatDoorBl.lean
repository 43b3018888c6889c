import Derived.Test.YthmmfhdpkddniaaGreatDoorBi
import Derived.Laws.BitsAllLaws
set_option maxRecDepth 20000
set_option maxHeartbeats 4000000
set_option linter.all false
namespace Go.Proofs.YthmmfhdpkddniaaGreatDoor
open Go.RowKit
theorem Ou:kf Tryz.prog 137=some (some (.agg #[.int .i64 0,.slice none 0 0]),2,32):=by kernel_rfl
theorem SI:jW Tryz.prog 9=some 1:=by kernel_rfl
theorem Sm:tw Tryz.prog 9=some (.string (⟨#[]⟩)):=by kernel_rfl
def Gu (m:Nat) (s:ByteArray) (i:Int):Bool:=decide (0≤i∧i<(m:Int)) && gP s i.toNat
def MS (m:Nat) (i:Int):Int:=if 0≤i∧i<(m:Int) then 0 else 7
theorem Ct {m:Nat} {s:ByteArray} {i:Int} (h:0≤i∧i<(m:Int)):Gu m s i=gP s i.toNat∧MS m i=0:=⟨by unfold Gu; rw [decide_eq_true h]; rfl,if_pos h⟩
theorem Ep {m:Nat} {s:ByteArray} {i:Int} (h:¬ (0≤i∧i<(m:Int))):Gu m s i=false∧MS m i=7:=⟨by unfold Gu; rw [decide_eq_false h]; rfl,if_neg h⟩
def Vf (m:Nat) (s:ByteArray):Prop:=s.size=aL m∧∀ j,m≤j→j<8 * aL m→gP s j=false
theorem Vf.wrong {m:Nat} {s:ByteArray} (h:Vf m s) (hm:m≤4096):(gR (m:Int) s).2=0:=by
 unfold gR; rw [if_pos (sY hm),Int.toNat_natCast,uN h.1 h.2]
theorem Vf.check {m:Nat} {s:ByteArray} (h:Vf m s) (hm:m≤4096):Hp (m:Int) s=0:=by
 unfold Hp; rw [if_pos (sY hm),if_pos]
 unfold jK; rw [h.wrong hm]; rfl
def Dy (x i:Nat) (b:Bool):Nat:=if b=true then x ||| 128 / 2 ^ (i % 8) else x &&& (255 - 128 / 2 ^ (i % 8))
def yv (s:ByteArray) (i:Nat) (b:Bool):ByteArray:=⟨s.data.setIfInBounds (i / 8) (UInt8.ofNat (Dy (jY s (i / 8)) i b))⟩
theorem nF (s:ByteArray) (i:Nat) (b:Bool):(yv s i b).size=s.size:=by show (Array.setIfInBounds _ _ _).size=s.data.size; simp
def PU (cs:Array Value) (s:ByteArray) (i:Nat) (b:Bool):Array Value:=cs.setIfInBounds (i / 8) (.int .u8 ((Dy (jY s (i / 8)) i b:Nat):Int))
theorem G0 {x:Nat} (hx:x<256) (i:Nat) (b:Bool):Dy x i b<256:=by
 have h2:128 / 2 ^ (i % 8)≤128:=Nat.div_le_self _ _
 unfold Dy
 split
 · exact Nat.or_lt_two_pow (n:=8) (by omega) (by omega)
 · exact Nat.and_lt_two_pow (n:=8) _ (Nat.lt_of_le_of_lt (Nat.sub_le _ _) (by decide))
theorem Kd {x i:Nat} {b:Bool} (h:b=true):Dy x i b=x ||| 128 / 2 ^ (i % 8):=if_pos h
theorem BX {x i:Nat} {b:Bool} (h:b=false):Dy x i b=x &&& (255 - 128 / 2 ^ (i % 8)):=if_neg (by rw [h]; decide)
theorem Gl {P:Program} {t:TypeId} {xo yo:Operand} {w:World} {a b:Nat} (h:a<256∧b<256):iM P .andNot t xo yo (.int .u8 (a:Int)) (.int .u8 (b:Int)) w (.int .u8 ((a &&& (255 - b):Nat):Int)):=by
 refine wP (.inr (.inr (.inr rfl))) ?_
 rw [show Op.intBits .andNot .u8 (a:Int) (b:Int)=pure (.int .u8 (bits .andNot .u8 (a:Int) (b:Int))) from rfl,u8_andNot_nat a b h.1 h.2]
 rfl
theorem CU {s:ByteArray} {cs:Array Value} {i:Nat} {b:Bool} (h:∀ j,j<s.size→cs[j]?=some (.int .u8 ((s.data.toList.getD j 0).toNat:Nat))) (hi:i / 8<s.size) (hl:s.size≤cs.size) :
   ∀ (j:Nat) (u:Value),(fM (yv s i b).data.toList)[j]?=some u→(PU cs s i b)[j]?=some u:=fun j u hu=>by
 have hj:j<s.size:=by
   have:=(List.getElem?_eq_some_iff.1 hu).1
   unfold fM at this
   rw [List.length_map,Array.length_toList] at this
   rw [← nF s i b]; exact this
 unfold fM yv at hu
 unfold PU
 simp only [List.getElem?_map,Array.getElem?_toList,Array.getElem?_setIfInBounds] at hu ⊢
 have hd:s.data.size=s.size:=rfl
 by_cases he:i / 8=j
 · rw [if_pos he,if_pos (by omega)] at hu ⊢
   simp only [Option.map_some,Option.some.injEq] at hu
   rw [← hu]
   have:(UInt8.ofNat (Dy (jY s (i / 8)) i b)).toNat=Dy (jY s (i / 8)) i b:=by
     rw [UInt8.toNat_ofNat']; exact Nat.mod_eq_of_lt (G0 (iE _ _) i b)
   rw [this]
 · rw [if_neg he] at hu ⊢
   rw [h j hj,← hu]
   have hjd:j<s.data.size:=hj
   rw [List.getD_eq_getElem?_getD,Array.getElem?_toList,Array.getElem?_eq_getElem hjd]; rfl
theorem Fw {w:World} {L:List aD} {k g e n c:Nat} {cs:Array Value} {fr:Nat × Nat} {l:List UInt8} (H:S w L) (hk:L[k]?=some (Ob g (.cells cs e fr))) (hn:l.length=n) (hc:n≤c) (hr:∀ (j:Nat) (u:Value),(fM l)[j]?=some u→cs[j]?=some u):bz w (some ⟨g,0,none⟩) n c 1 (fM l):=
 ⟨by unfold fM; rw [List.length_map,hn,Nat.mul_one],hc,fun _=>⟨_,rfl,fun j u hu=>by
   have hadd:(⟨g,0,none⟩:Addr).add j=⟨g,j,none⟩:=by unfold Addr.add; split <;> simp_all
   rw [hadd]
   exact H.cell hk (hr j u hu)⟩⟩
theorem G2 (g m:Nat) (s:ByteArray) (hm:m≤4096) (hv:(gR (m:Int) s).2=0)  (w:World) (HS:S w [Ob g (.cells #[.string s] 9 (0,0))]):Calls Tryz.prog 165 #[vI m,.slice (some ⟨g,0,none⟩) (1) (1)] w fun e w'=>∃ q d gb c fr cs,e=.returned (.slice q 1 d)∧(∀ j,j<s.size→cs[j]?=some (.int .u8 ((s.data.toList.getD j 0).toNat:Nat)))∧s.size≤c∧(s.size≤cs.size∧cs.size≤fr.1)∧S w' ([Rw 137 2 q 1 d [vI (m:Int),.slice (some ⟨gb,0,none⟩) s.size c],Ob gb (.cells cs 5 fr),Ob g (.cells #[.string s] 9 (0,0))]++[aB w (aT [Ob g (.cells #[.string s] 9 (0,0))])]):=by
 have H0:=HS.beginI
 refine en Tryz.func165 ?_
 refine ah [0,1] ?_
 refine cp ?_
 refine l_of (aJ (v:=.int .i64 ((m:Int))) (cU rfl rfl rfl rfl (decide_eq_false (by omega))) rfl rfl (bY rfl rfl) ?_)
 refine l_of (aJ (v:=.bool (decide ((4096:Int)<(m:Int)))) (cU rfl rfl rfl rfl (decide_eq_false (by omega))) rfl rfl (ai rfl rfl rfl fK) ?_)
 refine w_v Ju ?_
 refine l_of (bZ H0 (bh rfl) (aP rfl rfl AE) (sN _ _ (decide_eq_false (by omega)) _) rfl rfl ?_)
 intro h1 H2
 refine ae ?_
 have H3:S _ [_,_,_]:=H2.nilRw 137 2
 refine eG ?_
 refine IH 2 ?_
 refine Bt ?_
 refine aC ?_
 refine g_seq ?_
 refine g_cond_t rfl (by decide) ?_
 refine aQ ?_
 refine w_v (v:=vP g) (dM 0 rfl rfl rfl Tryz.underlying203 SI (by omega) (off':=0) rfl) ?_
 refine aC ?_
 refine ah [0,5,7,17,18,19] ?_
 refine aC ?_
 have hwr4:=DR (m:Int) s h1
 rw [hv] at hwr4
 refine l_of (cz H3 (hwr4) ?_)
 intro h7 H6
 refine dz ?_
 refine bP (v:=.bool (!decide ((0:Int)=0))) (hb:=eh) ?_
 refine l_of (cz H6 (sN _ _ (nf rfl) _) ?_)
 intro h6 H8
 refine aQ ?_
 refine l_of (CV H8 (bh rfl) rfl rfl rfl rfl Tryz.underlying9 Tryz.underlying113 Tryz.underlying5 ?_)
 intro gb9 cb10 fr11 cs12 h0 h5 hby13 hbc14 hfr15
 refine w_v (v:=.agg #[vI m,.slice (some ⟨gb9,0,none⟩) s.size cb10]) (j4) ?_
 refine l_of (fC vZ #[vI m,.slice (some ⟨gb9,0,none⟩) s.size cb10] h5 ?_)
 intro H5 H9 H7
 refine l_of (nH (n:=0) (m:=1) (sc:=0) (xs:=[]) (news:=[vI m,.slice (some ⟨gb9,0,none⟩) s.size cb10]) (p:=none) (ad:=⟨H5,0,none⟩) H7 2 (bh rfl) rfl rfl rfl rfl rfl rfl Tryz.underlying190 Ou rfl (by decide) (by decide) rfl (by decide) (ud H7 (j0:=0) rfl) rfl (by omega) ?_)
 intro h2 h3 H4 (h4:S H4 [Ob H5 (.cells #[vI m,.slice (some ⟨gb9,0,none⟩) s.size cb10] 137 (0,0)),Ob gb9 (.cells cs12 5 fr11),Rw 137 2 h2 (0+1) h3 ([]++[vI m,.slice (some ⟨gb9,0,none⟩) s.size cb10]),Ob g (.cells #[.string s] 9 (0,0)),aB w (aT [Ob g (.cells #[.string s] 9 (0,0))])])
 refine aE ?_
 refine ah [0,5,17,18,19] ?_
 refine aR ?_
 refine bP (v:=vI 1) (hb:=(dY (r:=1) (by decide))) ?_
 refine ae ?_
 refine Bt ?_
 refine aC ?_
 refine g_seq ?_
 refine g_cond_f rfl (by decide) ?_
 refine cS ?_
 refine af ?_
 exact ⟨_,_,gb9,cb10,fr11,cs12,rfl,hby13,hbc14,hfr15,h4.tk [2,1,3,4]⟩
theorem Nx (m gb n c i b:Nat) (to:Bool) (cs:Array Value) (fr:Nat × Nat) (hb:b<256) (hi:i / 8<n) (hi2:i≤1099511627776) (hc:cs[i / 8]?=some (.int .u8 ((b:Nat):Int))) (hn:n≤1099511627776) (hf:n≤cs.size∧cs.size≤fr.1)  (w:World) (HS:S w [Ob gb (.cells cs 5 fr)]):Calls Tryz.prog 114 #[.agg #[vI m,.slice (some ⟨gb,0,none⟩) (n) (c)],vI i,.bool to] w fun e w'=>e=.returned (.tuple #[])∧S w' ([Ob gb (.cells (cs.setIfInBounds (i / 8) (.int .u8 ((Dy b i to:Nat):Int))) 5 fr)]++[aB w (aT [Ob gb (.cells cs 5 fr)])]):=by
 have H0:=HS.beginI
 have H4:128 / 2 ^ (i % 8)≤128:=Nat.div_le_self _ _
 refine en Tryz.func114 ?_
 refine ah [0,1,2] ?_
 refine iF ?_
 refine l_of (fq H0 ?_)
 intro g1 H9 H3
 refine aC ?_
 refine bP (v:=vI (((i % 8:Nat):Int))) (hb:=(qh (a:=i) (b:=8) (by omega))) ?_
 refine bP (v:=.int .u8 (((128 / 2 ^ (i % 8):Nat):Int))) (hb:=(mI (a:=128) (n:=i % 8) (by show i % 8≤8; omega))) ?_
 refine aQ ?_
 rcases ef (to) with H2 | H2
 ·
  refine g_cond_t rfl H2 ?_
  refine aE ?_
  refine bP (v:=vI (((i / 8:Nat):Int))) (hb:=(kH (a:=i) (b:=8) (by omega))) ?_
  refine w_v (v:=.pointer (some ⟨gb,(i / 8),none⟩)) (dM (i / 8) rfl rfl rfl Tryz.underlying113 yI (by omega) (off':=i / 8) (by omega)) ?_
  refine w_v (gi H3 1 rfl rfl Tryz.underlying5 rfl rfl hc) ?_
  refine cJ ?_
  refine bP (v:=.int .u8 (((Dy b i to:Nat):Int))) (hb:=(by rw [Kd H2]; exact MG (a:=b) (b:=128 / 2 ^ (i % 8)) (by omega))) ?_
  refine w_v (v:=.pointer (some ⟨gb,(i / 8),none⟩)) (dM (i / 8) rfl rfl rfl Tryz.underlying113 yI (by omega) (off':=i / 8) (by omega)) ?_
  refine l_of (A4 H3 1 (bh rfl) rfl rfl rfl rfl rfl yI rfl rfl (by omega) (by omega) ?_)
  intro H7 H6
  refine aR ?_
  refine dO [] [] rfl trivial ?_
  exact ⟨rfl,H6.tk [1,2]⟩
 refine g_cond_f rfl H2 ?_
 refine aE ?_
 refine bP (v:=vI (((i / 8:Nat):Int))) (hb:=(kH (a:=i) (b:=8) (by omega))) ?_
 refine w_v (v:=.pointer (some ⟨gb,(i / 8),none⟩)) (dM (i / 8) rfl rfl rfl Tryz.underlying113 yI (by omega) (off':=i / 8) (by omega)) ?_
 refine w_v (gi H3 1 rfl rfl Tryz.underlying5 rfl rfl hc) ?_
 refine cJ ?_
 refine bP (v:=.int .u8 (((Dy b i to:Nat):Int))) (hb:=(by rw [BX H2]; exact Gl (a:=b) (b:=128 / 2 ^ (i % 8)) (by omega))) ?_
 refine w_v (v:=.pointer (some ⟨gb,(i / 8),none⟩)) (dM (i / 8) rfl rfl rfl Tryz.underlying113 yI (by omega) (off':=i / 8) (by omega)) ?_
 refine l_of (A4 H3 1 (bh rfl) rfl rfl rfl rfl rfl yI rfl rfl (by omega) (by omega) ?_)
 intro H5 H8
 refine aR ?_
 refine dO [] [] rfl trivial ?_
 exact ⟨rfl,H8.tk [1,2]⟩
theorem IG (m:Nat) (s:ByteArray) (i:Int) (hm:m≤4096) (hV:Vf m s)  (w:World):Calls Tryz.prog 153 #[vI m,.string s,vI i] w fun e w'=>e=.returned (.tuple #[.bool (Gu m s i),vI (MS m i)])∧S w' [aB w no]:=by
 have H0:=S.old w
 have hs:=hV.1
 have hv:=hV.wrong hm
 refine mG Tryz.func153 ?_
 refine ah [0,1,2] ?_
 refine ae ?_
 refine l_of (cA H0 l_ ?_)
 intro g1 x1 H3
 refine ae ?_
 refine l_of (eM (bh rfl) rfl (dc rfl rfl rfl) ?_)
 refine aE ?_
 refine l_of (fC Sm #[.string s] H3 ?_)
 intro g4 x0 H6
 refine l_of (aG (G2 g4 m s hm hv _ (H6.tk [0])) ?_)
 rintro _ g6 ⟨q7,d8,gb9,cb10,fr11,cs12,rfl,hby13,hbc14,hfr15,H5⟩
 replace H5:=H6.aI3 [0] H5
 refine bW ?_
 refine w_v (iH 0 (H5.rr 0)) ?_
 refine w_v (bc (vs:=[vI (m:Int),.slice (some ⟨gb9,0,none⟩) s.size cb10]) 0 (H5.rr 0) (by omega) rfl rfl Tryz.underlying137 rfl Gy (by rfl) ((fun i u h=>by simpa using h))) ?_
 refine l_of (cA H5 vZ ?_)
 intro x2 g5 g9
 refine l_of (eu g9 0 ?_)
 intro g3 h4
 refine aQ ?_
 by_cases H2:(i:Int)<0
 ·
  iterate 3 refine dh (dt H2) ?_
  refine w_v (pt (dt H2)) ?_
  refine l_of (aG (zY _ _ rfl _) ?_)
  rintro _ g2 ⟨rfl,h1⟩
  replace h1:=h4.ab0 h1
  refine bB ?_
  refine aA ?_
  refine aX ?_
  refine dV (u4 g1 7 (0) [] _ (h1.ob (k:=4) rfl)) ?_
  rintro _ _ g0 ⟨⟨rfl,h0⟩,rfl⟩
  replace h0:=h1.aK 4 h0
  refine jb h0 0 ?_
  obtain ⟨q1,q2⟩:=Ep (m:=m) (s:=s) (i:=i) (by omega)
  exact ⟨by rw [q1,q2]; rfl,h0.tk [5]⟩
 iterate 2 refine aN (df H2) xm ?_
 refine aN (df H2) (ai rfl rfl rfl nm) ?_
 refine w_v (pf (df H2)) ?_
 by_cases H4:((m:Int):Int)≤i
 ·
  refine l_of (aG (zY _ _ (dt H4) _) ?_)
  rintro _ h9 ⟨rfl,H9⟩
  replace H9:=h4.ab0 H9
  refine bB ?_
  refine aA ?_
  refine aX ?_
  refine dV (u4 g1 7 (0) [] _ (H9.ob (k:=4) rfl)) ?_
  rintro _ _ h8 ⟨⟨rfl,H8⟩,rfl⟩
  replace H8:=H9.aK 4 H8
  refine jb H8 0 ?_
  obtain ⟨q1,q2⟩:=Ep (m:=m) (s:=s) (i:=i) (by omega)
  exact ⟨by rw [q1,q2]; rfl,H8.tk [5]⟩
 refine l_of (cz h4 (sN _ _ (df H4) _) ?_)
 intro h2 h3
 refine cD ?_
 refine ah [2,7,8] ?_
 refine iF ?_
 refine w_v (fS h3 0) ?_
 refine cJ ?_
 have hhs35:=GH m gb9 s.size cb10 i.toNat (jY s (i.toNat / 8)) h2 (iE _ _) (by rw [hs]; unfold aL; omega) (by omega) (h3.cell (k:=2) rfl (hby13 (i.toNat / 8) (by rw [hs]; unfold aL; omega)))
 rw [show ((i.toNat:Nat):Int)=i from by omega] at hhs35
 refine l_of (cz h3 (hhs35) ?_)
 intro h7 g8
 refine Gs ?_
 refine l_of (eu g8 4 ?_)
 intro h6 g7
 refine ae ?_
 refine cY ?_
 refine dV (q_ g1 _) ?_
 rintro _ _ h5 ⟨⟨rfl,H7⟩,rfl⟩
 replace H7:=g7.ab0 H7
 refine jb H7 4 ?_
 obtain ⟨q1,q2⟩:=Ct (m:=m) (s:=s) (i:=i) (by omega)
 exact ⟨by rw [q1,q2]; rfl,H7.tk [5]⟩
theorem HV (m:Nat) (s:ByteArray) (i:Int) (hm:m≤4096) (hV:Vf m s) (to:Bool) (hi:0≤i∧i<(m:Int))  (w:World):Calls Tryz.prog 151 #[vI m,.string s,vI i,.bool to] w fun e w'=>e=.returned (.tuple #[.string (yv s i.toNat to),vI 0])∧S w' [aB w no]:=by
 have H0:=S.old w
 have hs:=hV.1
 have hv:=hV.wrong hm
 refine mG Tryz.func151 ?_
 refine ah [0,1,2,3] ?_
 refine ae ?_
 refine l_of (cA H0 l_ ?_)
 intro g1 h9 H3
 refine ae ?_
 refine l_of (eM (bh rfl) rfl (dc rfl rfl rfl) ?_)
 refine aE ?_
 refine l_of (fC Sm #[.string s] H3 ?_)
 intro g4 h8 H6
 refine l_of (aG (G2 g4 m s hm hv _ (H6.tk [0])) ?_)
 rintro _ h4 ⟨q7,d8,gb9,cb10,fr11,cs12,rfl,hby13,hbc14,hfr15,H2⟩
 replace H2:=H6.aI3 [0] H2
 refine bW ?_
 refine w_v (iH 0 (H2.rr 0)) ?_
 refine w_v (bc (vs:=[vI (m:Int),.slice (some ⟨gb9,0,none⟩) s.size cb10]) 0 (H2.rr 0) (by omega) rfl rfl Tryz.underlying137 rfl Gy (by rfl) ((fun i u h=>by simpa using h))) ?_
 refine l_of (cA H2 vZ ?_)
 intro g0 h3 h7
 refine l_of (eu h7 0 ?_)
 intro h2 h6
 refine aQ ?_
 refine l_of (aJ (v:=.int .i64 i) (cU rfl rfl rfl rfl (decide_eq_false (by omega))) rfl rfl (bY rfl rfl) ?_)
 refine l_of (aJ (v:=.int .i64 ((m:Int))) (cU rfl rfl rfl rfl (decide_eq_false (by omega))) rfl rfl (bY rfl rfl) ?_)
 refine l_of (aJ (v:=.bool (decide (((m:Int):Int)≤i))) (cU rfl rfl rfl rfl (decide_eq_false (by omega))) rfl rfl (ai rfl rfl rfl nm) ?_)
 refine w_v (cH rfl rfl (decide_eq_false (by omega)) rfl) ?_
 refine l_of (bZ h6 (bh rfl) (aP rfl rfl AE) (sN _ _ (decide_eq_false (by omega)) _) rfl rfl ?_)
 intro H7 H8
 refine cD ?_
 refine ah [2,3,9,10] ?_
 refine iF ?_
 refine w_v (fS H8 0) ?_
 refine ru ?_
 have hst25:=Nx m gb9 s.size cb10 i.toNat (jY s (i.toNat / 8)) to cs12 fr11 (iE _ _) (by rw [hs]; unfold aL; omega) (by omega) (hby13 (i.toNat / 8) (by rw [hs]; unfold aL; omega)) (by rw [hs]; unfold aL; omega) hfr15 H7 (H8.tk [2])
 rw [show ((i.toNat:Nat):Int)=i from by omega] at hst25
 refine l_of (aG (hst25) ?_)
 rintro _ h1 ⟨rfl,H5⟩
 replace H5:=H8.aI1 [2] H5
 refine bW ?_
 refine aE ?_
 have hrd28:=Fw H5 (k:=0) rfl (l:=(yv s i.toNat to).data.toList) (n:=s.size) (c:=cb10) (by rw [Array.length_toList]; exact nF s _ _) hbc14 (CU hby13 (by rw [hs]; unfold aL; omega) hfr15.1)
 refine w_v (v:=.string (yv s i.toNat to)) (AW rfl rfl Tryz.underlying113 Tryz.underlying9 Tryz.underlying5 hrd28 (by rw [Array.length_toList]; exact nF s _ _)) ?_
 refine Gs ?_
 refine l_of (eu H5 4 ?_)
 intro h0 h5
 refine ae ?_
 refine cY ?_
 refine dV (q_ g1 _) ?_
 rintro _ _ H9 ⟨⟨rfl,H4⟩,rfl⟩
 replace H4:=h5.ab0 H4
 refine jb H4 4 ?_
 exact ⟨rfl,H4.tk [5]⟩
theorem j7 (s:ByteArray) (i:Nat):gP s i=(jY s (i / 8)).testBit (7 - i % 8):=by
 unfold gP; rw [Nat.testBit_eq_decide_div_mod_eq]
theorem AG {b:List Nat} (h:∀ x∈b,x<256) (k:Nat):jY (nZ b) k=b.getD k 0:=by
 unfold jY nZ
 simp only [List.getElem?_map,List.getD_eq_getElem?_getD]
 cases hq:b[k]? with
 | none=>rfl
 | some x =>
   have:=h x (List.mem_of_getElem? hq)
   show (UInt8.ofNat x).toNat=x
   rw [UInt8.toNat_ofNat']; omega
theorem Gh {v b:Nat} (hb:b≤1) (t:Nat):((2 * v % 256+b) % 256).testBit t=if t=0 then decide (b=1) else (decide (t<8) && v.testBit (t - 1)):=by
 have e:(2 * v % 256+b) % 256=(2 * v+b) % 2 ^ 8:=by omega
 rw [e,Nat.testBit_mod_two_pow]
 by_cases ht:t=0
 · subst ht
   rw [if_pos rfl,Nat.testBit_zero,show (2 * v+b) % 2=b from by omega]; simp
 · obtain ⟨u,rfl⟩:∃ u,t=u+1:=⟨t - 1,by omega⟩
   rw [if_neg ht,Nat.testBit_succ,show (2 * v+b) / 2=v from by omega,Nat.add_sub_cancel]
theorem B7 {l:List Bool} {b:List Nat} {i:Nat} (hi:i / 8<b.length) (k:Nat):(k_ l b i).getD k 0=if k=i / 8 then (2 * b.getD (i / 8) 0 % 256+(if l.getD i false=true then 1 else 0)) % 256 else b.getD k 0:=by
 unfold k_
 by_cases h:l.getD i false=true
 · simp only [if_pos h]
   rw [qt (by rw [List.length_set]; exact hi)]
   by_cases hk:k=i / 8
   · rw [if_pos hk,if_pos hk,qt hi,if_pos rfl]
   · rw [if_neg hk,if_neg hk,qt hi,if_neg hk]
 · simp only [if_neg h]
   rw [qt hi]
   by_cases hk:k=i / 8
   · rw [if_pos hk,if_pos hk]; omega
   · rw [if_neg hk,if_neg hk]
theorem Bw (l:List Bool):∀ i,i≤8 * aL l.length→∀ k,k<aL l.length→∀ t,((ei l i).getD k 0).testBit t=(decide (t<min (i - 8 * k) 8) && l.getD (8 * k+(min (i - 8 * k) 8 - 1 - t)) false)
 | 0,_,k,hk,t=>by
   rw [ei,xu,Nat.zero_testBit]; simp
 | i+1,hi,k,hk,t=>by
   have ih:=Bw l i (by omega) k hk
   rw [ei,B7 (by rw [jx]; omega)]
   by_cases hk0:k=i / 8
   · rw [if_pos hk0,← hk0,Gh (by split <;> omega)]
     have hc:min (i+1 - 8 * k) 8=min (i - 8 * k) 8+1:=by omega
     have hc2:min (i - 8 * k) 8=i - 8 * k:=by omega
     rw [hc,hc2]
     by_cases ht:t=0
     · subst ht
       rw [if_pos rfl,show 8 * k+(i - 8 * k+1 - 1 - 0)=i from by omega,decide_eq_true (by omega:0<i - 8 * k+1)]
       cases l.getD i false <;> rfl
     · rw [if_neg ht,ih (t - 1),hc2,show 8 * k+(i - 8 * k - 1 - (t - 1))=8 * k+(i - 8 * k+1 - 1 - t) from by omega]
       by_cases h2:t<i - 8 * k+1
       · rw [decide_eq_true h2,decide_eq_true (by omega:t<8),decide_eq_true (by omega:t - 1<i - 8 * k)]; rfl
       · rw [decide_eq_false h2,decide_eq_false (by omega:¬ t - 1<i - 8 * k)]; simp
   · rw [if_neg hk0,ih t,show min (i+1 - 8 * k) 8=min (i - 8 * k) 8 from by omega]
theorem vq (l:List Bool):(oy l).size=aL l.length:=by unfold oy; rw [lX,jx]
theorem Dm {l:List Bool} {j:Nat} (hj:j<8 * aL l.length):gP (oy l) j=l.getD j false:=by
 rw [j7]
 unfold oy
 rw [AG (uy l _),Bw l _ (Nat.le_refl _) (j / 8) (by omega),show min (8 * aL l.length - 8 * (j / 8)) 8=8 from by omega,show 8 * (j / 8)+(8 - 1 - (7 - j % 8))=j from by omega,decide_eq_true (by omega:7 - j % 8<8)]
 rfl
theorem uA {s t:ByteArray} (hs:s.size=t.size) (h:∀ j,j<8 * s.size→gP s j=gP t j):s=t:=by
 have hb:∀ k,k<s.size→jY s k=jY t k:=fun k hk=>by
   refine Nat.eq_of_testBit_eq fun i=>?_
   by_cases hi:i<8
   · have:=h (8 * k+(7 - i)) (by omega)
     rw [j7,j7,show (8 * k+(7 - i)) / 8=k from by omega,show 7 - (8 * k+(7 - i)) % 8=i from by omega] at this
     exact this
   · have h1:2 ^ 8≤2 ^ i:=Nat.pow_le_pow_right (by omega) (by omega)
     rw [Nat.testBit_lt_two_pow (by have:=iE s k; omega),Nat.testBit_lt_two_pow (by have:=iE t k; omega)]
 refine ByteArray.ext (Array.ext hs fun i h1 h2=>?_)
 have:=hb i h1
 unfold jY at this
 rw [Array.getElem?_toList,Array.getElem?_toList,Array.getElem?_eq_getElem h1,Array.getElem?_eq_getElem h2] at this
 exact UInt8.toNat_inj.1 this
theorem uQ {r:Nat} (h:r<8):128 / 2 ^ r=2 ^ (7 - r):=by
 rcases (show r=0∨r=1∨r=2∨r=3∨r=4∨r=5∨r=6∨r=7 by omega) with rfl | rfl | rfl | rfl | rfl | rfl | rfl | rfl <;> rfl
theorem CM {m:Nat} {s:ByteArray} {j:Nat} (h:j<m):(cE m s).getD j false=gP s j:=by
 unfold cE
 rw [List.getD_eq_getElem?_getD,List.getElem?_map,List.getElem?_range h]; rfl
theorem Vf.of_valid {n:Int} {s:ByteArray} (h:0≤n∧n≤4096) (hv:jK n s=true):Vf n.toNat s:=by
 have hv:=of_decide_eq_true hv
 unfold gR at hv
 rw [if_pos (jr.2 h)] at hv
 unfold jJ at hv
 by_cases hs:s.size=aL n.toNat
 · rw [if_pos hs] at hv
   cases hf:l4 n.toNat s with
   | some i=>rw [hf] at hv; have hv:(12:Int)=0:=hv; cases hv
   | none =>
     refine ⟨hs,fun j h1 h2=>?_⟩
     unfold l4 at hf
     rw [List.find?_eq_none] at hf
     have:=hf j (List.mem_range.2 h2)
     rw [decide_eq_true h1] at this
     simpa using this
 rw [if_neg hs] at hv; have hv:(11:Int)=0:=hv; cases hv
theorem Kf:∀ k,k<8→∀ t,t<8→(255 - 2 ^ k).testBit t=!decide (t=k):=by decide
theorem Pj {s:ByteArray} {i:Nat} {b:Bool} (hi:i / 8<s.size) (k:Nat):jY (yv s i b) k=if k=i / 8 then Dy (jY s (i / 8)) i b else jY s k:=by
 unfold yv
 show (((Array.setIfInBounds s.data (i / 8) (UInt8.ofNat (Dy (jY s (i / 8)) i b))).toList)[k]?.getD 0).toNat=_
 rw [Array.getElem?_toList,Array.getElem?_setIfInBounds]
 have hd:i / 8<s.data.size:=hi
 by_cases hk:k=i / 8
 · rw [if_pos hk.symm,if_pos hd,if_pos hk]
   show (UInt8.ofNat _).toNat=_
   rw [UInt8.toNat_ofNat']; exact Nat.mod_eq_of_lt (G0 (iE _ _) i b)
 · rw [if_neg (fun e=>hk e.symm),if_neg hk]
   unfold jY; rw [Array.getElem?_toList]
theorem J0 {s:ByteArray} {i j:Nat} {b:Bool} (hi:i / 8<s.size):gP (yv s i b) j=if j=i then b else gP s j:=by
 rw [j7,j7,Pj hi]
 by_cases hk:j / 8=i / 8
 · rw [if_pos hk,hk]
   unfold Dy
   cases b with
   | true =>
     rw [if_pos rfl,Nat.testBit_or,uQ (by omega),Nat.testBit_two_pow]
     by_cases e:j=i
     · rw [if_pos e,decide_eq_true (by omega:7 - i % 8=7 - j % 8),Bool.or_true]
     · rw [if_neg e,decide_eq_false (by omega:¬ 7 - i % 8=7 - j % 8),Bool.or_false]
   | false =>
     rw [if_neg (by decide),Nat.testBit_and,uQ (by omega),Kf _ (by omega) _ (by omega)]
     by_cases e:j=i
     · rw [if_pos e,decide_eq_true (by omega:7 - j % 8=7 - i % 8),Bool.not_true,Bool.and_false]
     · rw [if_neg e,decide_eq_false (by omega:¬ 7 - j % 8=7 - i % 8),Bool.not_false,Bool.and_true]
 · rw [if_neg hk,if_neg (by rintro rfl; exact hk rfl)]
theorem KU (l:List Bool) (k r:Nat) (hr:r<8):decide (ML l k / 2 ^ (7 - r) % 2=1)=l.getD (8 * k+r) false:=by
 have hb:∀ b:Bool,decide (bv b=1)=b:=fun b=>by cases b <;> rfl
 rw [← hb (l.getD (8 * k+r) false),decide_eq_decide]
 have h0:=kO (l.getD (8 * k) false); have h1:=kO (l.getD (8 * k+1) false); have h2:=kO (l.getD (8 * k+2) false); have h3:=kO (l.getD (8 * k+3) false)
 have h4:=kO (l.getD (8 * k+4) false); have h5:=kO (l.getD (8 * k+5) false); have h6:=kO (l.getD (8 * k+6) false); have h7:=kO (l.getD (8 * k+7) false)
 unfold ML
 rcases (show r=0∨r=1∨r=2∨r=3∨r=4∨r=5∨r=6∨r=7 by omega) with rfl | rfl | rfl | rfl | rfl | rfl | rfl | rfl
 all_goals
   simp only [Nat.add_zero,Nat.reduceSub,Nat.reducePow]
   omega
theorem OV (l:List Bool):∀ x∈PH l,x<256:=fun x hx=>by
 obtain ⟨k,_,rfl⟩:=List.mem_map.1 hx; exact OU l k
theorem ju {l:List Bool} {j:Nat} (hj:j<8 * aL l.length):gP (fieldS l) j=l.getD j false:=by
 have hl:aL l.length=(l.length+7) / 8:=rfl
 unfold gP fieldS
 rw [AG (OV l),List.getD_eq_getElem?_getD,show (PH l)[j / 8]?=some (ML l (j / 8)) from by unfold PH; rw [List.getElem?_map,List.getElem?_range (by omega)]; rfl]
 show decide (ML l (j / 8) / 2 ^ (7 - j % 8) % 2=1)=_
 rw [KU l (j / 8) (j % 8) (by omega),show 8 * (j / 8)+j % 8=j from by omega]
theorem zr (l:List Bool):oy l=fieldS l:=
 uA (by rw [vq,gY]; rfl) fun j hj=>by
   rw [vq] at hj
   rw [Dm hj,ju hj]
theorem Vf.fieldS {l:List Bool} {m:Nat} (h:l.length=m):Vf m (fieldS l):=by
 subst h
 exact ⟨gY l,fun j h1 h2=>by rw [ju h2,uw h1]⟩
theorem Ru {l:List Bool} {i:Nat} (b:Bool) (hi:i<l.length):yv (fieldS l) i b=fieldS (l.set i b):=by
 have hn:aL l.length=(l.length+7) / 8:=rfl
 refine uA (by rw [nF,gY,gY,List.length_set]) fun j hj=>?_
 rw [nF,gY] at hj
 rw [J0 (by rw [gY]; omega),ju (l:=l.set i b) (by rw [List.length_set]; omega),ju (l:=l) (by omega),List.getD_eq_getElem?_getD,List.getD_eq_getElem?_getD,List.getElem?_set]
 by_cases e:j=i
 · subst e
   rw [if_pos rfl,if_pos rfl,if_pos hi]; rfl
 rw [if_neg e,if_neg (fun q=>e q.symm)]
theorem Vf.is {m:Nat} {s:ByteArray} (h:Vf m s):s=Go.Proofs.YthmmfhdpkddniaaGreatDoor.fieldS (cE m s):=by
 have hn:aL m=(m+7) / 8:=rfl
 refine uA (by rw [gY,l5,h.1]; rfl) fun j hj=>?_
 rw [h.1] at hj
 rw [ju (by rw [l5]; omega)]
 by_cases hjm:j<m
 · rw [CM hjm]
 rw [uw (by rw [l5]; omega),h.2 j (by omega) hj]
theorem N3 {n:Nat} (h:n≤4096):zA (n:Int)=(fieldS (List.replicate n false),0):=by
 unfold zA
 rw [if_pos (jr.2 ⟨by omega,by omega⟩),Int.toNat_natCast,← B8,zr]
def pW (m:Nat) (l:List Int):List Nat:=l.foldl (fun b i=>jj b i.toNat) (List.replicate (aL m) 0)
theorem CN {l:List Int} {i:Nat} {x:Int} (h:l[i]?=some x):l.take (i+1)=l.take i++[x]:=by
 rw [List.take_add_one,h]; rfl
theorem FD {m:Nat} {l:List Int} {i:Nat} {x:Int} (h:l[i]?=some x):pW m (l.take (i+1))=jj (pW m (l.take i)) x.toNat:=by
 unfold pW
 rw [CN h,List.foldl_append]; rfl
theorem vu (b:List Nat) (i:Nat):(jj b i).length=b.length:=by unfold jj; rw [List.length_set]
theorem lV (m:Nat) (l:List Int):(pW m l).length=aL m:=by
 unfold pW
 suffices h:∀ b:List Nat,(l.foldl (fun b i=>jj b i.toNat) b).length=b.length by rw [h,List.length_replicate]
 induction l with
 | nil=>exact fun _=>rfl
 | cons a l ih=>exact fun b=>by rw [List.foldl_cons,ih,vu]
theorem vG (m:Nat) (l:List Int):∀ x∈pW m l,x<256:=by
 unfold pW
 suffices h:∀ b:List Nat,(∀ x∈b,x<256)→∀ x∈l.foldl (fun b i=>jj b i.toNat) b,x<256 from h _ (wQ _)
 induction l with
 | nil=>exact fun _ h=>h
 | cons a l ih=>exact fun b h=>ih _ (tq h _)
theorem Jl {b:List Nat} (h:∀ x∈b,x<256) {i j:Nat} (hi:i / 8<b.length):gP (nZ (jj b i)) j=(decide (j=i) || gP (nZ b) j):=by
 rw [j7,j7,AG (tq h i),AG h]
 unfold jj
 rw [qt hi]
 by_cases hk:j / 8=i / 8
 · rw [if_pos hk,hk,Nat.testBit_or,uQ (by omega),Nat.testBit_two_pow,Bool.or_comm]
   congr 1
   rw [decide_eq_decide]; omega
 · rw [if_neg hk,decide_eq_false (by omega:¬ j=i)]; rfl
theorem A_ {m:Nat}:∀ (l:List Int),(∀ i∈l,0≤i∧i<(m:Int))→∀ j:Nat,gP (nZ (pW m l)) j=decide ((j:Int)∈l):=by
 intro l hl j
 have hn:aL m=(m+7) / 8:=rfl
 suffices h:∀ (l:List Int) (b:List Nat),(∀ x∈b,x<256)→b.length=aL m→(∀ i∈l,0≤i∧i<(m:Int))→gP (nZ (l.foldl (fun b i=>jj b i.toNat) b)) j=(decide ((j:Int)∈l) || gP (nZ b) j) by
   have:=h l _ (wQ (aL m)) List.length_replicate hl
   unfold pW
   rw [this,Gj,Bool.or_false]
 intro l
 induction l with
 | nil=>intro b _ _ _; simp
 | cons a l ih =>
   intro b hb hbl hl
   have ha:=hl a List.mem_cons_self
   rw [List.foldl_cons,ih _ (tq hb _) (by rw [vu]; exact hbl) fun i hi=>hl i (List.mem_cons_of_mem _ hi),Jl hb (by omega)]
   have e:decide (j=a.toNat)=decide ((j:Int)=a):=by rw [decide_eq_decide]; omega
   rw [e]
   by_cases h1:(j:Int)=a <;> by_cases h2:(j:Int)∈l <;> simp [h1,h2]
def gj (l:List Bool):List Int:=((List.range l.length).filter fun i=>l.getD i false).map fun (i:Nat)=>(i:Int)
theorem vn {l:List Bool} {j:Nat}:(j:Int)∈gj l ↔ l.getD j false=true:=by
 unfold gj
 rw [List.mem_map]
 constructor
 · rintro ⟨i,hi,e⟩
   have:i=j:=by omega
   subst this
   exact (List.mem_filter.1 hi).2
 intro h
 refine ⟨j,List.mem_filter.2 ⟨List.mem_range.2 ?_,h⟩,rfl⟩
 by_cases hj:j<l.length
 · exact hj
 rw [uw (by omega)] at h; cases h
theorem xN {l:List Bool}:∀ i∈gj l,0≤i∧i<(l.length:Int):=fun i hi=>by
 obtain ⟨j,hj,rfl⟩:=List.mem_map.1 hi
 have:=List.mem_range.1 (List.mem_filter.1 hj).1
 omega
theorem yC (l:List Bool):(gj l).Nodup:=by
 unfold gj
 exact List.pairwise_map.2 ((List.nodup_range.filter _).imp fun h e=>h (by omega))
theorem C3 (l:List Bool):nZ (pW l.length (gj l))=fieldS l:=by
 refine uA (by rw [lX,lV,gY]; rfl) fun j hj=>?_
 rw [lX,lV] at hj
 rw [A_ _ xN,ju hj]
 cases hb:l.getD j false with
 | true=>exact decide_eq_true (vn.2 hb)
 | false=>exact decide_eq_false fun h=>by rw [vn.1 h] at hb; cases hb
end Go.Proofs.YthmmfhdpkddniaaGreatDoor
