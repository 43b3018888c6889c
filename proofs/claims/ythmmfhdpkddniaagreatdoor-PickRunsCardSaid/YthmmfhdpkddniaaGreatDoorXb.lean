import Derived.Test.YthmmfhdpkddniaaGreatDoorOp
set_option maxRecDepth 20000
set_option maxHeartbeats 4000000
set_option linter.all false
namespace Go.Proofs.YthmmfhdpkddniaaGreatDoor
open Go.RowKit
theorem P6:aI Tryz.prog 39=true:=by kernel_rfl
theorem RQ:aI Tryz.prog 45=true:=by kernel_rfl
theorem Hj:u_ Tryz.prog 44 1=some 1:=by kernel_rfl
theorem OQ:u_ Tryz.prog 85 1=some 1:=by kernel_rfl
theorem Qf:jW Tryz.prog 100=some 2:=by kernel_rfl
theorem P_:tw Tryz.prog 100=some (.agg #[.int .i64 0,.int .i64 0]):=by kernel_rfl
theorem vz:tw Tryz.prog 79=some (.pointer none):=by kernel_rfl
def pJ (o:Option Nat):Value:=(o.map j_).getD (.pointer none)
theorem hG {o:Option Nat} {b:Nat} (h:o=some b):pJ o=.pointer (some ⟨b,0,none⟩):=by rw [h]; rfl
theorem zZ {P:Program} {t:TypeId} {xo yo:Operand} {w:World} {te:TypeId} {o:Option Nat} (hu:P.underlying t=some (.pointer te)):iM P .neq t xo yo (pJ o) (.pointer none) w (.bool o.isSome):=by
 cases o with
 | none=>exact lG (r:=true) hu rfl
 | some b=>exact lG (r:=false) hu rfl
theorem oD {P:Program} {t:TypeId} {xo yo:Operand} {w:World} {te:TypeId} {o:Option Nat} (hu:P.underlying t=some (.pointer te)):iM P .eql t xo yo (pJ o) (.pointer none) w (.bool (!o.isSome)):=by
 cases o with
 | none=>exact j3 (r:=true) hu rfl
 | some b=>exact j3 (r:=false) hu rfl
theorem uL {ms:List Mt} {k:Int} (h:(gV ms k).isSome=true):∃ (i:Nat) (m:Mt),ms[i]?=some m∧m.k=k∧gV ms k=some m.b∧kfd Mt.k ms k=some m:=by
 cases hq:gV ms k with
 | none=>rw [hq] at h; cases h
 | some b =>
   obtain ⟨i,m,h1,h2,rfl,h4⟩:=uk hq
   exact ⟨i,m,h1,h2,rfl,h4⟩
theorem uM {bs:List Bk} {p:Int × Int} (h:(gZ bs p).isSome=true):∃ (i:Nat) (r:Bk),bs[i]?=some r∧r.pl=p∧gZ bs p=some r.b∧kfd Bk.pl bs p=some r:=by
 cases hq:gZ bs p with
 | none=>rw [hq] at h; cases h
 | some b =>
   obtain ⟨i,m,h1,h2,rfl,h4⟩:=Jj hq
   exact ⟨i,m,h1,h2,rfl,h4⟩
theorem di.mtN {X:XP} {A:PK} (h:di X A) {k:Int}:(gV X.ms k).isSome=(fD A.peers k).isSome:=by
 rw [← h.fnd]; unfold gV
 cases kfd Mt.k X.ms k <;> rfl
theorem di.nd {X:XP} {A:PK} {j:Nat} (h:di X A) (hI:bQ j A):(X.ms.map Mt.k).Nodup:=by rw [h.ks]; exact hI.nd
theorem NM {A:PK} {k:Int} (h1:1≤k∧k≤1000) (h2:(fD A.peers k).isSome=true):A.peE k=0:=by
 unfold PK.peE
 rw [if_neg (by omega),h2]; rfl
theorem NN {A:PK} {k:Int} (h1:1≤k∧k≤1000) (h2:(fD A.peers k).isSome=false):A.peE k=8:=by
 unfold PK.peE
 rw [if_neg (by omega),h2]; rfl
theorem ez (b:Bool) (n:Int) (hb:b=true)  (w:World):Calls Tryz.prog 39 #[.bool b,vI n] w fun e w'=>e=.returned (.tuple #[])∧S w' [aB w no]:=by
 have H0:=S.old w
 refine en Tryz.func39 ?_
 refine ah [0,1] ?_
 refine ae ?_
 refine w_v (cj (b:=b) rfl rfl) ?_
 refine cD ?_
 refine g_cond_f rfl (by rw [hb]; rfl) ?_
 refine aR ?_
 refine dO [] [] rfl trivial ?_
 exact ⟨rfl,H0.tk [0]⟩
theorem fh (b:Bool) (n:Int) (hb:b=false)  (w:World):Calls Tryz.prog 39 #[.bool b,vI n] w fun e w'=>e=.panicked [{ v:=.iface 134 (vI n),recovered:=false }]∧S w' [aB w no]:=by
 have H0:=S.old w
 refine en Tryz.func39 ?_
 refine ah [0,1] ?_
 refine ae ?_
 refine w_v (cj (b:=b) rfl rfl) ?_
 refine cD ?_
 refine g_cond_t rfl (by rw [hb]; rfl) ?_
 refine ae ?_
 refine w_v (v:=.iface 134 (vI n)) (pG rfl rfl Tryz.underlying134 rfl) ?_
 refine l_of (D7 (bh rfl) (AP rfl rfl) ?_)
 refine fJ ?_
 exact ⟨rfl,H0.tk [0]⟩
theorem bC (ge:Nat) (y e0:Int) (older:List PanicEntry) (w:World) (he:w.heap[ge]?=some (.cells #[vI e0] 30 (0,0))) :
  CallsD Tryz.prog 38 #[vP ge] (.panicking ({ v:=.iface 134 (vI y),recovered:=false } :: older)) w
   (fun e u' w'=>(e=.returned (.tuple #[])∧S w' [Ob ge (.cells #[vI y] 30 (0,0)),aB w (fun i=>i∈[ge])])∧u'=.panicking ({ v:=.iface 134 (vI y),recovered:=true } :: older)):=by
 have H0:=S.beginL [(ge,.cells #[vI e0] 30 (0,0))] (by intro p hp; rw [List.mem_singleton] at hp; subst hp; exact he) (by simp) (fun i=>i∈[ge]) (fun i=>Iff.rfl)
 refine o5 19 Tryz.func38 rfl rfl rfl rfl rfl rfl rfl rfl rfl ?_
 refine ah [0,2,5] ?_
 refine ae ?_
 refine bP (v:=.bool true) (hb:=(zx DG)) ?_
 refine cD ?_
 refine g_cond_t rfl rfl ?_
 refine ae ?_
 refine w_v (v:=.tuple #[vI y,.bool true]) (xG rfl rfl Tryz.underlying134 rfl) ?_
 refine eG ?_
 refine w_v (cj (b:=true) rfl rfl) ?_
 refine cD ?_
 refine g_cond_f rfl rfl ?_
 refine ae ?_
 refine ah [0,3] ?_
 refine aE ?_
 refine l_of (eu H0 0 ?_)
 intro H3 H2
 refine aR ?_
 refine dO [] [] rfl trivial ?_
 exact ⟨⟨rfl,H2.tk [0,1]⟩,rfl⟩
theorem cT (ge:Nat) (w:World):CallsD Tryz.prog 38 #[vP ge] .returning w (fun e u' w'=>(e=.returned (.tuple #[])∧S w' [aB w no])∧u'=.returning):=by
 have H0:=S.old w
 refine o5 19 Tryz.func38 rfl rfl rfl rfl rfl rfl rfl rfl rfl ?_
 refine ah [0,2,5] ?_
 refine ae ?_
 refine bP (v:=.bool false) (hb:=(BM DG)) ?_
 refine cD ?_
 refine g_cond_f rfl rfl ?_
 refine aR ?_
 refine dO [] [] rfl trivial ?_
 exact ⟨⟨rfl,H0.tk [0]⟩,rfl⟩
theorem sr (c:aV)  (w:World):Calls Tryz.prog 47 #[.agg #[vI c.pc,vI c.bg,vI c.ln]] w fun e w'=>e=.returned (.agg #[vI c.pc,vI c.bg])∧S w' [aB w no]:=by
 have H0:=S.old w
 refine en Tryz.func47 ?_
 refine ah [0] ?_
 refine iF ?_
 refine l_of (fq H0 ?_)
 intro g1 H5 H3
 refine l_of (cA H3 P_ ?_)
 intro g4 H4 H6
 refine a_ ?_
 refine w_v (v:=.agg #[vI c.pc,vI c.bg]) (j4) ?_
 refine l_of (eu H6 0 ?_)
 intro H2 H8
 refine ae ?_
 refine d5 [.cell 2 100] [.agg #[vI c.pc,vI c.bg]] rfl ⟨⟨_,rfl,dK (H8.ob (k:=0) rfl) Tryz.underlying100 rfl Qf rfl rfl⟩,trivial⟩ ?_
 exact ⟨rfl,H8.tk [2]⟩
theorem oM (X:XP) (A:PK) (j:Nat) (hX:di X A) (hI:bQ j A) (i:Int) (hi:0≤i∧i<(A.n:Int))  (w:World) (HS:S w [(XI X A)]):Calls Tryz.prog 45 #[vP X.g,vI i] w fun e w'=>e=.returned (.tuple #[])∧S w' ([(XI X A)]++[aB w (aT [(XI X A)])]):=by
 have H0:=HS.bu
 have h8:=hI.a8
 refine en Tryz.func45 ?_
 refine ah [0,1] ?_
 refine ae ?_
 refine bP (v:=.bool true) (hb:=(lG (r:=false) Tryz.underlying26 rfl)) ?_
 refine l_of (cz H0 (ez true 1 rfl _) ?_)
 intro H5 H2
 refine aQ ?_
 refine l_of (aJ (v:=.int .i64 i) (cU rfl rfl rfl rfl (decide_eq_true (by omega))) rfl rfl (bY rfl rfl) ?_)
 refine l_of (aJ (v:=.pointer (some ⟨X.g,0,none⟩)) (cU rfl rfl rfl rfl (decide_eq_true (by omega))) rfl rfl (bY rfl rfl) ?_)
 refine l_of (aJ (v:=.pointer (some ⟨X.g,0,none⟩)) (cU rfl rfl rfl rfl (decide_eq_true (by omega))) rfl rfl (fm rfl rfl) ?_)
 refine l_of (aJ (v:=.pointer (some ⟨X.g,1,none⟩)) (cU rfl rfl rfl rfl (decide_eq_true (by omega))) rfl rfl (c_ rfl rfl OQ rfl) ?_)
 refine l_of (aJ (v:=.int .i64 ((A.n:Int))) (cU rfl rfl rfl rfl (decide_eq_true (by omega))) rfl rfl (gi H2 0 rfl rfl Tryz.underlying3 rfl rfl rfl) ?_)
 refine l_of (aJ (v:=.bool (decide ((i:Int)<(A.n:Int)))) (cU rfl rfl rfl rfl (decide_eq_true (by omega))) rfl rfl (ai rfl rfl rfl dG) ?_)
 refine w_v Q9 ?_
 refine l_of (cz H2 (ez (decide ((i:Int)<(A.n:Int))) 7 (dt (by omega)) _) ?_)
 intro H3 H4
 refine aR ?_
 refine dO [] [] rfl trivial ?_
 exact ⟨rfl,(H4.b7 [0,1,2,3,4,5,6,7])⟩
theorem qH (X:XP) (A:PK) (j:Nat) (hX:di X A) (hI:bQ j A) (i:Int) (hi:¬ (0≤i∧i<(A.n:Int)))  (w:World) (HS:S w [(XI X A)]):Calls Tryz.prog 45 #[vP X.g,vI i] w fun e w'=>e=.panicked [{ v:=.iface 134 (vI 7),recovered:=false }]∧S w' ([(XI X A)]++[aB w (aT [(XI X A)])]):=by
 have H0:=HS.bu
 have h8:=hI.a8
 refine en Tryz.func45 ?_
 refine ah [0,1] ?_
 refine ae ?_
 refine bP (v:=.bool true) (hb:=(lG (r:=false) Tryz.underlying26 rfl)) ?_
 refine l_of (cz H0 (ez true 1 rfl _) ?_)
 intro H8 H2
 refine aQ ?_
 by_cases H3:(0:Int)≤i
 ·
  iterate 2 refine aN (dt H3) xm ?_
  refine aN (dt H3) xn ?_
  refine aN (dt H3) (xf 1) ?_
  refine aN (dt H3) (xl H2 0) ?_
  refine aN (dt H3) (ai rfl rfl rfl dG) ?_
  refine w_v (pt (dt H3)) ?_
  refine l_of (aG (fh (decide ((i:Int)<(A.n:Int))) 7 (df (by omega)) _) ?_)
  rintro _ H6 ⟨rfl,H5⟩
  replace H5:=H2.ab0 H5
  refine bB ?_
  refine fJ ?_
  exact ⟨rfl,(H5.b7 [0,1,2,3,4,5,6,7])⟩
 iterate 6 refine dh (df H3) ?_
 refine w_v (pf (df H3)) ?_
 refine l_of (aG (fh false 7 rfl _) ?_)
 rintro _ H4 ⟨rfl,H7⟩
 replace H7:=H2.ab0 H7
 refine bB ?_
 refine fJ ?_
 exact ⟨rfl,(H7.b7 [0,1,2,3,4,5,6,7])⟩
theorem qb (X:XP) (A:PK) (j:Nat) (hX:di X A) (hI:bQ j A) (k:Int) (hk:A.peE k=0)  (w:World) (HS:S w [(XI X A)]):Calls Tryz.prog 42 #[vP X.g,vI k] w fun e w'=>∃ (i:Nat) (m:Mt),X.ms[i]?=some m∧m.k=k∧e=.returned (vP m.b)∧S w' ([(XI X A)]++[aB w (aT [(XI X A)])]):=by
 have H0:=HS.bu
 have h8:=hI.a8
 obtain ⟨H9,H8,i9,p9,hp9,hpk9,hf9⟩:=vh hk
 have hs9:(gV X.ms k).isSome=true:=by rw [hX.mtN,hf9]; rfl
 refine en Tryz.func42 ?_
 refine ah [0,1] ?_
 refine aQ ?_
 refine bP (v:=.bool true) (hb:=(lG (r:=false) Tryz.underlying26 rfl)) ?_
 refine l_of (cz H0 (ez true 1 rfl _) ?_)
 intro H7 H2
 refine aQ ?_
 refine l_of (aJ (v:=.int .i64 k) (cU rfl rfl rfl rfl (decide_eq_true (by omega))) rfl rfl (bY rfl rfl) ?_)
 refine l_of (aJ (v:=.bool (decide ((k:Int)≤1000))) (cU rfl rfl rfl rfl (decide_eq_true (by omega))) rfl rfl (ai rfl rfl rfl pA) ?_)
 refine w_v Q9 ?_
 refine l_of (cz H2 (ez (decide ((k:Int)≤1000)) 7 (dt (by omega)) _) ?_)
 intro H5 H4
 refine dz ?_
 refine w_v (v:=(pJ ((gV X.ms) k))) (aH (bU (x:=k) (iG Tryz.underlying80 Tryz.underlying3) H4 3 rfl rfl rfl rfl (⟨by omega,by omega⟩) vz) (rfl)) ?_
 refine ae ?_
 refine ah [5] ?_
 refine ae ?_
 refine bP (v:=.bool (((gV X.ms) k).isSome)) (hb:=(zZ Tryz.underlying79)) ?_
 refine l_of (cz H4 (ez (((gV X.ms) k).isSome) 8 hs9 _) ?_)
 intro H3 H6
 obtain ⟨im,m,hm,hmk,hmb,hmf⟩:=uL hs9
 rw [hG hmb]
 refine a_ ?_
 refine af ?_
 exact ⟨im,m,hm,hmk,rfl,(H6.b7 [0,1,2,3,4,5,6,7])⟩
theorem su (X:XP) (A:PK) (j:Nat) (hX:di X A) (hI:bQ j A) (k:Int) (hk:¬ A.peE k=0)  (w:World) (HS:S w [(XI X A)]):Calls Tryz.prog 42 #[vP X.g,vI k] w fun e w'=>e=.panicked [{ v:=.iface 134 (vI (A.peE k)),recovered:=false }]∧S w' ([(XI X A)]++[aB w (aT [(XI X A)])]):=by
 have H0:=HS.bu
 have h8:=hI.a8
 refine en Tryz.func42 ?_
 refine ah [0,1] ?_
 refine aQ ?_
 refine bP (v:=.bool true) (hb:=(lG (r:=false) Tryz.underlying26 rfl)) ?_
 refine l_of (cz H0 (ez true 1 rfl _) ?_)
 intro h6 H2
 refine aQ ?_
 by_cases H4:(1:Int)≤k
 ·
  refine aN (dt H4) xm ?_
  refine aN (dt H4) (ai rfl rfl rfl pA) ?_
  refine w_v (pt (dt H4)) ?_
  by_cases h0:(k:Int)≤1000
  ·
   refine l_of (cz H2 (ez (decide ((k:Int)≤1000)) 7 (dt h0) _) ?_)
   intro h5 H6
   refine dz ?_
   refine w_v (v:=(pJ ((gV X.ms) k))) (aH (bU (x:=k) (iG Tryz.underlying80 Tryz.underlying3) H6 3 rfl rfl rfl rfl (⟨by omega,by omega⟩) vz) (rfl)) ?_
   refine ae ?_
   refine ah [5] ?_
   refine ae ?_
   refine bP (v:=.bool (((gV X.ms) k).isSome)) (hb:=(zZ Tryz.underlying79)) ?_
   rcases ef (((gV X.ms) k).isSome) with H3 | H3
   ·
    refine l_of (cz H6 (ez (((gV X.ms) k).isSome) 8 H3 _) ?_)
    intro h4 H9
    obtain ⟨im,m,hm,hmk,hmb,hmf⟩:=uL H3
    rw [hG hmb]
    refine a_ ?_
    refine af ?_
    exact absurd (NM (by omega) (by rw [← hX.mtN]; exact H3)) hk
   refine l_of (aG (fh (((gV X.ms) k).isSome) 8 H3 _) ?_)
   rintro _ h3 ⟨rfl,H8⟩
   replace H8:=H6.ab0 H8
   refine bB ?_
   refine aA ?_
   refine fJ ?_
   have hE:A.peE k=8:=NN (by omega) (by rw [← hX.mtN]; exact H3)
   rw [hE]
   exact ⟨rfl,(H8.b7 [0,1,2,3,4,5,6,7])⟩
  refine l_of (aG (fh (decide ((k:Int)≤1000)) 7 (df h0) _) ?_)
  rintro _ h2 ⟨rfl,H7⟩
  replace H7:=H2.ab0 H7
  refine bB ?_
  refine aA ?_
  refine fJ ?_
  have hE:A.peE k=7:=if_pos (by omega)
  rw [hE]
  exact ⟨rfl,(H7.b7 [0,1,2,3,4,5,6,7])⟩
 iterate 2 refine dh (df H4) ?_
 refine w_v (pf (df H4)) ?_
 refine l_of (aG (fh false 7 rfl _) ?_)
 rintro _ h1 ⟨rfl,H5⟩
 replace H5:=H2.ab0 H5
 refine bB ?_
 refine aA ?_
 refine fJ ?_
 have hE:A.peE k=7:=if_pos (by omega)
 rw [hE]
 exact ⟨rfl,(H5.b7 [0,1,2,3,4,5,6,7])⟩
theorem Pn {A:PK} {k i:Int} (hi:0≤i∧i<(A.n:Int)) (h:A.peE k=0):A.boE k i=0:=by
 unfold PK.peE at h
 unfold PK.boE
 split at h
 · cases h
 · rw [if_neg (by omega)]; exact h
theorem Pm {A:PK} {k i:Int} (h1:1≤k∧k≤1000) (hi:0≤i∧i<(A.n:Int)):A.boE k i=A.peE k:=by
 unfold PK.peE PK.boE
 rw [if_neg (show ¬ ((k<1∨1000<k)∨(i<0∨(A.n:Int)≤i)) by omega),if_neg (show ¬ (k<1∨1000<k) by omega)]
theorem wH (X:XP) (A:PK) (j:Nat) (hX:di X A) (hI:bQ j A) (k i:Int) (hk:A.boE k i=0)  (w:World) (HS:S w [(XI X A)]):Calls Tryz.prog 49 #[vP X.g,vI k,vI i] w fun e w'=>∃ (i:Nat) (m:Mt),X.ms[i]?=some m∧m.k=k∧e=.returned (vP m.b)∧S w' ([(XI X A)]++[aB w (aT [(XI X A)])]):=by
 have H0:=HS.bu
 have h8:=hI.a8
 obtain ⟨hbp,hbi⟩:=fQ hk
 obtain ⟨h7,h6,_⟩:=vh hbp
 refine en Tryz.func49 ?_
 refine ah [0,1,2] ?_
 refine aQ ?_
 refine bP (v:=.bool true) (hb:=(lG (r:=false) Tryz.underlying26 rfl)) ?_
 refine l_of (cz H0 (ez true 1 rfl _) ?_)
 intro h5 H2
 refine aQ ?_
 refine l_of (aJ (v:=.int .i64 k) (cU rfl rfl rfl rfl (decide_eq_true (by omega))) rfl rfl (bY rfl rfl) ?_)
 refine l_of (aJ (v:=.bool (decide ((k:Int)≤1000))) (cU rfl rfl rfl rfl (decide_eq_true (by omega))) rfl rfl (ai rfl rfl rfl pA) ?_)
 refine w_v Q9 ?_
 refine l_of (cz H2 (ez (decide ((k:Int)≤1000)) 7 (dt (by omega)) _) ?_)
 intro h4 H4
 refine aE ?_
 refine l_of (fZ H4 [0,1,2,3,4,5,6,7] (oM X A j hX hI i (by omega) _) ?_)
 intro h3 H8
 refine cD ?_
 refine ah [0,1] ?_
 refine aC ?_
 have H6:=H8.b7 [0,1,2,3,4,5,6,7]
 refine l_of (aG (qb X A j hX hI k hbp _ (H6.tk [0])) ?_)
 rintro _ H7 ⟨h0,H9,H3,H5,rfl,h2⟩
 have h1:=H6.au h2
 refine bW ?_
 refine aC ?_
 refine af ?_
 exact ⟨h0,H9,H3,H5,rfl,(h1.b7 [0,1,2,3,4,5,6,7])⟩
theorem wI (X:XP) (A:PK) (j:Nat) (hX:di X A) (hI:bQ j A) (k i:Int) (hk:¬ A.boE k i=0)  (w:World) (HS:S w [(XI X A)]):Calls Tryz.prog 49 #[vP X.g,vI k,vI i] w fun e w'=>e=.panicked [{ v:=.iface 134 (vI (A.boE k i)),recovered:=false }]∧S w' ([(XI X A)]++[aB w (aT [(XI X A)])]):=by
 have H0:=HS.bu
 have h8:=hI.a8
 refine en Tryz.func49 ?_
 refine ah [0,1,2] ?_
 refine aQ ?_
 refine bP (v:=.bool true) (hb:=(lG (r:=false) Tryz.underlying26 rfl)) ?_
 refine l_of (cz H0 (ez true 1 rfl _) ?_)
 intro x0 H2
 refine aQ ?_
 by_cases H4:(1:Int)≤k
 ·
  refine aN (dt H4) xm ?_
  refine aN (dt H4) (ai rfl rfl rfl pA) ?_
  refine w_v (pt (dt H4)) ?_
  by_cases H9:(k:Int)≤1000
  ·
   refine l_of (cz H2 (ez (decide ((k:Int)≤1000)) 7 (dt H9) _) ?_)
   intro g9 H6
   refine aE ?_
   by_cases H8:0≤i∧i<(A.n:Int)
   ·
    refine l_of (fZ H6 [0,1,2,3,4,5,6,7] (oM X A j hX hI i H8 _) ?_)
    intro g8 h3
    refine cD ?_
    refine ah [0,1] ?_
    refine aC ?_
    by_cases H3:(A.peE k)=0
    ·
     have h2:=h3.b7 [0,1,2,3,4,5,6,7]
     refine l_of (aG (qb X A j hX hI k H3 _ (h2.tk [0])) ?_)
     rintro _ h9 ⟨g0,x1,g1,g2,rfl,g7⟩
     have x2:=h2.au g7
     refine bW ?_
     refine aC ?_
     refine af ?_
     exact absurd (Pn (by omega) H3) hk
    have h1:=h3.b7 [0,1,2,3,4,5,6,7]
    refine l_of (aG (su X A j hX hI k H3 _ (h1.tk [0])) ?_)
    rintro _ h7 ⟨rfl,g6⟩
    have g5:=h1.au g6
    refine bB ?_
    refine aA ?_
    refine fJ ?_
    have hE:A.boE k i=A.peE k:=Pm (by omega) (by omega)
    rw [hE]
    exact ⟨rfl,(g5.b7 [0,1,2,3,4,5,6,7])⟩
   have h0:=H6.b7 [0,1,2,3,4,5,6,7]
   refine l_of (aG (qH X A j hX hI i H8 _ (h0.tk [0])) ?_)
   rintro _ h6 ⟨rfl,g4⟩
   have g3:=h0.au g4
   refine bB ?_
   refine aA ?_
   refine fJ ?_
   have hE:A.boE k i=7:=if_pos (by omega)
   rw [hE]
   exact ⟨rfl,(g3.b7 [0,1,2,3,4,5,6,7])⟩
  refine l_of (aG (fh (decide ((k:Int)≤1000)) 7 (df H9) _) ?_)
  rintro _ h5 ⟨rfl,H7⟩
  replace H7:=H2.ab0 H7
  refine bB ?_
  refine aA ?_
  refine fJ ?_
  have hE:A.boE k i=7:=if_pos (by omega)
  rw [hE]
  exact ⟨rfl,(H7.b7 [0,1,2,3,4,5,6,7])⟩
 iterate 2 refine dh (df H4) ?_
 refine w_v (pf (df H4)) ?_
 refine l_of (aG (fh false 7 rfl _) ?_)
 rintro _ h4 ⟨rfl,H5⟩
 replace H5:=H2.ab0 H5
 refine bB ?_
 refine aA ?_
 refine fJ ?_
 have hE:A.boE k i=7:=if_pos (by omega)
 rw [hE]
 exact ⟨rfl,(H5.b7 [0,1,2,3,4,5,6,7])⟩
theorem Cu (X:XP) (A:PK) (j:Nat) (hX:di X A) (hI:bQ j A) (q:Nat) (m:Mt) (hm:X.ms[q]?=some m) (i:Int) (hi:0≤i∧i<(A.n:Int))  (w:World) (HS:S w [X0 X A,bM fA X.ms]):Calls Tryz.prog 132 #[vP X.g,vP m.b,vI i] w fun e w'=>e=.returned (.bool (aF m.fld i))∧S w' ([X0 X A,bM fA X.ms]++[aB w (aT [X0 X A,bM fA X.ms])]):=by
 have H0:=HS.beginI
 have hn24:=hI.n24
 refine en Tryz.func132 ?_
 refine ah [0,1,2] ?_
 refine aC ?_
 refine g_seq ?_
 refine g_anyY [] (fun wx=>S wx [X0 X A,bM fA X.ms,aB w (aT [X0 X A,bM fA X.ms])]) (fun wx=>S wx [X0 X A,bM fA X.ms,aB w (aT [X0 X A,bM fA X.ms])]) [] (by kernel_rfl) H0 (fun H5 H2=>?_)
 refine fu 0 ?_
 refine fu 1 ?_
 refine fu 2 ?_
 refine Dw 3 0 H2 ?_
 refine fu 4 ?_
 refine fu 5 ?_
 refine fu 6 ?_
 refine yt (v:=.string ((fieldS m.fld))) 7 rfl H2 (fun _ H=>f_ rfl rfl Tryz.underlying9 rfl (H.mtCell (k:=1) rfl hm (c:=0) rfl)) ?_
 refine fu 8 ?_
 refine sf (i:=9) ?_
 refine cz H2 (RF A.n m.fld i (by omega) (hI.fl m.pe (List.mem_of_getElem? (hX.at hm))).1 hi _) ?_
 intro H3 H4
 refine Ca H4 H4 ?_
 refine fu 10 ?_
 refine fu 11 ?_
 refine fu 12 ?_
 refine sf (i:=13) ?_
 refine iW xa ?_
 refine Ca H4 H4 ?_
 refine sf (i:=14) ?_
 refine iW xa ?_
 refine Ca H4 H4 ?_
 refine Cb ?_
 refine aR ?_
 refine ah [7] ?_
 refine aQ ?_
 refine af ?_
 exact ⟨rfl,H4.tk [0,1,2]⟩
theorem QT:aI Tryz.prog 116=true:=by kernel_rfl
theorem S.noI {w:World} {a:aD} {L:List aD} (h:S w (a :: L)):S w (a :: fN [] :: L):=by
 have h2:S w (fN [] :: a :: L):=h.cons (S.nil w) (fun g hg=>by obtain ⟨_,h,_⟩:=hg; cases h) (fun _ _ g hg=>by obtain ⟨_,h,_⟩:=hg; cases h)
 exact h2.perm (List.Perm.swap ..)
def vY (c:aV):Array Value:=#[.agg #[.int .i64 c.pc,.int .i64 c.bg,.int .i64 c.ln]]
theorem GU (X:XP) (A:PK) {j:Nat} (hI:bQ j A) (i:Int)  (w:World) (HS:S w [X0 X A]):Calls Tryz.prog 116 #[vP X.g,vI i] w fun e w'=>e=.returned (vI (A.size i:Int))∧S w' ([X0 X A]++[aB w (aT [X0 X A])]):=by
 have H0:=HS.beginI
 have hn24:=hI.n24
 have hn1:=hI.n1
 refine en Tryz.func116 ?_
 refine ah [0,1] ?_
 refine cS ?_
 refine bP (v:=vI ((A.n:Int) - 1)) (hb:=(vj (jD (by omega)))) ?_
 refine ae ?_
 by_cases H2:(i:Int)=(A.n:Int) - 1
 ·
  refine bm H2 ?_
  refine cp ?_
  refine ah [4] ?_
  refine ae ?_
  refine af ?_
  have he9:(A.size i:Int)=(A.la:Int):=by unfold PK.size; rw [if_pos H2]
  rw [he9]
  exact ⟨rfl,H0.tk [0,1]⟩
 refine br H2 ?_
 refine eG ?_
 refine ah [4] ?_
 refine aR ?_
 refine af ?_
 have he9:(A.size i:Int)=(A.pz:Int):=by unfold PK.size; rw [if_neg H2]
 rw [he9]
 exact ⟨rfl,H0.tk [0,1]⟩
theorem rO (g:Nat) (i:Int)  (w:World):Calls Tryz.prog 59 #[vP g,vI i] w fun e w'=>∃ b1 b2,e=.returned (.func (.func 115) #[] #[vP b1,vP b2])∧S w' ([Ob b1 (.cells #[vP g] 26 (0,0)),Ob b2 (.cells #[vI i] 3 (0,0))]++[aB w no]):=by
 have H0:=S.old w
 refine en Tryz.func59 ?_
 refine ah [0,1] ?_
 refine iF ?_
 refine l_of (fq H0 ?_)
 intro g1 H4 H3
 refine l_of (fq H3 ?_)
 intro g4 H2 H6
 refine aC ?_
 refine w_v (h_ rfl rfl rfl) ?_
 refine aC ?_
 refine af ?_
 exact ⟨_,_,rfl,H6.tk [1,0,2]⟩
theorem mJ {n0 b1 b2 j:Nat} {X:XP} {A:PK} {i:Int} (hI:bQ j A) :
  MI n0 Tryz.prog 115 #[vP b1,vP b2] vY (fN [Ob b1 (.cells #[vP X.g] 26 (0,0)),Ob b2 (.cells #[vI i] 3 (0,0)),X0 X A]) (fun pre x _=>∃ q,pre=(A.blocks i).take q∧(A.blocks i)[q]?=some x) (fun _ _=>True) (fun xs=>xs=A.blocks i) (fun _=>True) (fN []):=by
 intro l1 J Jx W C0 hOk hY h0 HS
 have H0:S _ [_,_,_,_]:=(HS.tk [0,2]).unbig
 have hsz:=qF hI i
 refine IR 24 Tryz.func115 rfl rfl rfl ?_
 have hL:¬ LetsOut (bodyPost Tryz.prog Tryz.f115 fun e W'=>(∃ v,e=.returned v)∧((∃ xs CC,(fun xs=>xs=A.blocks i) xs∧J xs CC∧S W' [fN [Ob b1 (.cells #[vP X.g] 26 (0,0)),Ob b2 (.cells #[vI i] 3 (0,0)),X0 X A],CC])∨(∃ pre CC,True∧Jx pre CC∧S W' [fN [Ob b1 (.cells #[vP X.g] 26 (0,0)),Ob b2 (.cells #[vI i] 3 (0,0)),X0 X A],CC]))):=by
  rintro ⟨_,_,⟨_,h⟩,_⟩
  cases h
 refine ah [0,1,2] ?_
 refine R.g_seq ?_
 refine R.g_region ?_
 refine R.w_v (fun h=>hL h) xa ?_
 refine R.g_nil ?_
 refine aR ?_
 refine R.g_block ?_
 refine R.g_loop (ι:=Nat × aD) (fun (q,C1)=>[(0,.func (.yield l1) #[] #[]),(1,vP b1),(2,vP b2),(4,vI (((16 * q:Nat):Int)))]) (fun (q,C1) wx=>(q≤((A.size i)+15) / 16)∧(J ((A.blocks i).take q) C1)∧S wx [Ob b1 (.cells #[vP X.g] 26 (0,0)),Ob b2 (.cells #[vI i] 3 (0,0)),X0 X A,C1]) (fun (q,C1)=>((A.size i)+15) / 16 - q) (0,C0) ⟨rfl,rfl,rfl,rfl,trivial⟩ ⟨Nat.zero_le _,h0,(H0.tk [0,1,2,3])⟩ ?_
 rintro ⟨q,C1⟩ h6 ⟨hq,hJq,H2⟩
 refine ah [0,1,2,4] ?_
 iterate 2 refine R.g_seq ?_
 refine R.g_region ?_
 refine R.w_v (fun h=>hL h) xm ?_
 refine R.w_v (fun h=>hL h) (xl H2 0) ?_
 refine R.w_v (fun h=>hL h) (xl H2 1) ?_
 refine R.l_of rfl (fun h=>hL h) (bR (bh rfl) (aP rfl rfl QT) (GU X A hI i _ (H2.tk [2])) ?_)
 rintro _ h5 ⟨rfl,H4⟩
 replace H4:=H2.aI1 [2] H4
 have hsz9:=qF hI i
 refine bW ?_
 refine R.w_v (fun h=>hL h) (ai rfl rfl rfl dG) ?_
 refine R.g_nil ?_
 refine aR ?_
 by_cases H5:(((16 * q:Nat):Int):Int)<(A.size i:Int)
 ·
  refine R.g_cond_t rfl (dt H5) ?_
  refine R.g_skip ?_
  refine aR ?_
  refine R.g_seq ?_
  refine R.g_block ?_
  refine R.g_seq ?_
  refine R.g_bar 10 2 [] (fun wx=>S wx [X0 X A,Ob b1 (.cells #[vP X.g] 26 (0,0)),Ob b2 (.cells #[vI i] 3 (0,0)),C1]) [] (by kernel_rfl) (by kernel_rfl) hL (by kernel_rfl) rfl H4 (fun h4 H7=>?_)
  refine aU 0 H7 ?_
  refine eY 1 2 H7 ?_
  refine aU 2 H7 ?_
  refine eY 3 1 H7 ?_
  refine eY 4 2 H7 ?_
  refine aU 6 H7 ?_
  refine bG (i:=5) ?_
  refine aG (GU X A hI i _ (H7.tk [0])) ?_
  rintro _ H6 ⟨rfl,H9⟩
  replace H9:=H7.aI1 [0] H9
  have hsz9:=qF hI i
  refine bW ?_
  refine bF H9 ?_
  refine bT (v:=vI ((A.size i:Int) - ((16 * q:Nat):Int))) 7 rfl H9 (fun _ _=>ai rfl rfl rfl (vj (jD (by omega)))) ?_
  refine bT (v:=vI (min 16 ((A.size i:Int) - ((16 * q:Nat):Int)))) 8 rfl H9 (fun _ _=>yL rfl rfl rfl) ?_
  refine bT (v:=.agg #[vI i,vI (((16 * q:Nat):Int)),vI (min 16 ((A.size i:Int) - ((16 * q:Nat):Int)))]) 9 rfl H9 (fun _ _=>j4) ?_
  refine fP ?_
  refine Po (fun k9=>?_)
  refine GF (i:=10) (by kernel_rfl) ?_
  have h3:S _ [_,_,_]:=S.noI (H9.b3 [1,2,0,3])
  refine J_ rfl (bh rfl) rfl rfl rfl rfl rfl (hY ((A.blocks i).take q) (E0 i (A.size i) q) H6 _ C1 hJq ⟨q,rfl,Am (by omega)⟩ h3) ?_
  rintro _ H8 (⟨rfl,C9,hJ9,H3⟩ | ⟨rfl,C9,hJx9,H3⟩)
  ·
   refine ⟨_,rfl,?_⟩
   have h2:S _ [_,_,_,_]:=S.unbig ((H3).tk [0,2])
   refine GF (i:=11) (by kernel_rfl) ?_
   refine PV rfl rfl (A7 hL) ?_
   refine iW (v:=.bool false) (cj (b:=true) rfl rfl) ?_
   refine GZ (by kernel_rfl) ?_
   refine Ec ?_
   refine aR ?_
   refine ah [0,1,2,4,23] ?_
   refine R.g_cond_f rfl rfl ?_
   refine R.g_skip ?_
   refine ae ?_
   refine R.g_region ?_
   refine R.w_v (fun h=>hL h) xm ?_
   refine R.w_v (fun h=>hL h) (v:=vI (((16 * (q+1):Nat):Int))) (ai rfl rfl rfl (dY (by rw [jD (by omega)]; omega))) ?_
   refine R.w_v (fun h=>hL h) xa ?_
   refine R.g_nil ?_
   refine aR ?_
   refine bD (i:=(q,C1)) ((q+1),C9) ⟨(by omega),(by rw [aj (show (A.blocks i)[q]?=some (E0 i (A.size i) q) from Am (by omega))]; exact hJ9),(h2.tk [0,1,2,3])⟩
  refine ⟨_,rfl,?_⟩
  have h1:S _ [_,_,_,_]:=S.unbig ((H3).tk [0,2])
  refine GF (i:=11) (by kernel_rfl) ?_
  refine PV rfl rfl (A7 hL) ?_
  refine iW (v:=.bool true) (cj (b:=false) rfl rfl) ?_
  refine GZ (by kernel_rfl) ?_
  refine Ec ?_
  refine aR ?_
  refine ah [0,1,2,4,23] ?_
  refine R.g_cond_t rfl rfl ?_
  refine R.g_ret ?_
  refine aE ?_
  refine d5 [] [] rfl trivial ?_
  exact ⟨⟨_,rfl⟩,.inr ⟨_,_,trivial,hJx9,(h1.b3 [0,1,2,3])⟩⟩
 refine R.g_cond_f rfl (df H5) ?_
 refine R.g_exit ?_
 refine aC ?_
 refine dO [] [] rfl trivial ?_
 rw [List.take_of_length_le (show (A.blocks i).length≤q by unfold PK.blocks; rw [uz]; omega)] at hJq
 exact ⟨⟨_,rfl⟩,.inl ⟨_,_,rfl,hJq,(H4.b3 [1,2,0,3])⟩⟩
end Go.Proofs.YthmmfhdpkddniaaGreatDoor
