import Derived.Test.YthmmfhdpkddniaaGreatDoorSc
set_option maxRecDepth 20000
set_option maxHeartbeats 4000000
set_option linter.all false
namespace Go.Proofs.YthmmfhdpkddniaaGreatDoor
open Go.RowKit
theorem RN:aI Tryz.prog 60=true:=by kernel_rfl
theorem MQ:tw Tryz.prog 35=some (.slice none 0 0):=by kernel_rfl
theorem Md (X:XP) (A:PK) (j:Nat) (hX:di X A) (hI:bQ j A) (i:Int)  (w:World) (HS:S w [(XI X A)]):Calls Tryz.prog 91 #[vP X.g,vI i] w fun e w'=>e=.returned (.tuple #[vI (A.cntV i),vI (A.inE i)])∧S w' ([(XI X A)]++[aB w (aT [(XI X A)])]):=by
 have H0:=HS.bu
 have h8:=hI.a8
 refine mG Tryz.func91 ?_
 refine ah [0,1] ?_
 refine ae ?_
 refine l_of (cA H0 l_ ?_)
 intro g1 h9 H3
 refine ae ?_
 refine l_of (eM (bh rfl) rfl (dc rfl rfl rfl) ?_)
 refine aE ?_
 by_cases H5:0≤i∧i<(A.n:Int)
 ·
  refine l_of (fZ H3 [1,2,3,4,5,6,7,0,8] (oM X A j hX hI i H5 _) ?_)
  intro h7 H8
  refine aE ?_
  refine l_of (fZ H8 [0,1,2,3,4,5,6,7,8] (qM X A j hX hI i H5 _) ?_)
  intro h3 h6
  refine Gs ?_
  refine l_of (eu h6 7 ?_)
  intro h2 h5
  refine ae ?_
  refine cY ?_
  refine dV (cT g1 _) ?_
  rintro _ _ h1 ⟨⟨rfl,H4⟩,rfl⟩
  replace H4:=h5.ab0 H4
  refine jb H4 7 ?_
  have hE:A.inE i=0:=if_neg (by omega)
  have hV:A.cntV i=(A.countV i:Int):=if_pos hE
  rw [hV,hE]
  exact ⟨rfl,(H4.b7 [0,1,2,3,4,5,6,8])⟩
 have H7:=H3.b7 [1,2,3,4,5,6,7,0,8]
 refine l_of (aG (qH X A j hX hI i H5 _ (H7.tk [0])) ?_)
 rintro _ h0 ⟨rfl,h4⟩
 have H6:=H7.au h4
 refine bB ?_
 refine aA ?_
 refine aX ?_
 refine dV (bC g1 7 (0) [] _ (H6.ob (k:=7) rfl)) ?_
 rintro _ _ H9 ⟨⟨rfl,H2⟩,rfl⟩
 replace H2:=H6.aK 7 H2
 refine jb H2 0 ?_
 have hE:A.inE i=7:=if_pos (by omega)
 have hV:A.cntV i=0:=by unfold PK.cntV; rw [hE]; exact if_neg (by decide)
 rw [hV,hE]
 exact ⟨rfl,(H2.b7 [1,2,3,4,5,6,7,8])⟩
theorem Ap (X:XP) (A:PK) (j:Nat) (hX:di X A) (hI:bQ j A) (k:Int)  (w:World) (HS:S w [(XI X A)]):Calls Tryz.prog 94 #[vP X.g,vI k] w fun e w'=>e=.returned (.tuple #[.bool (A.intB k),vI (A.peE k)])∧S w' ([(XI X A)]++[aB w (aT [(XI X A)])]):=by
 have H0:=HS.bu
 have h8:=hI.a8
 refine mG Tryz.func94 ?_
 refine ah [0,1] ?_
 refine ae ?_
 refine l_of (cA H0 l_ ?_)
 intro g1 x6 H3
 refine ae ?_
 refine l_of (eM (bh rfl) rfl (dc rfl rfl rfl) ?_)
 refine aE ?_
 by_cases H5:(A.peE k)=0
 ·
  have H9:=H3.b7 [1,2,3,4,5,6,7,0,8]
  refine l_of (aG (qb X A j hX hI k H5 _ (H9.tk [0])) ?_)
  rintro _ g9 ⟨x0,m6,h2,h4,rfl,x5⟩
  have x4:=H9.au x5
  refine bW ?_
  refine io ?_
  refine cQ (ι:=Nat) (fun ii=>[(0,vP X.g),(5,vP g1),(6,vP m6.b),(14,vI A.n),(15,vI ii)]) (fun ii wx=>(ii≤A.n)∧(∀ y∈(jo A.n).take ii,(A.openB y && aF m6.fld y)=false)∧S wx [X0 X A,X1 X A,X2 X A,X3 X,bM fA X.ms,X5 X,bM g_ X.bs,Ob g1 (.cells #[vI 0] 30 (0,0)),aB w (aT [(XI X A)])]) (fun ii=>A.n - ii) (0) ⟨(Nat.zero_le _),(fun y hy=>by simp at hy),(x4.tk [0,1,2,3,4,5,6,7,8])⟩ ?_
  rintro ii g8 ⟨hq,hno,h7⟩
  refine ah [0,5,6,14,15] ?_
  refine aC ?_
  refine g_seq ?_
  by_cases H6:((ii:Int):Int)<(A.n:Int)
  ·
   refine bm H6 ?_
   refine io ?_
   refine l_of (fZ h7 [0,1,2,3,4,5,6,7,8] (zK X A j hX hI (ii:Int) (by omega) _) ?_)
   intro g7 h3
   refine cJ ?_
   rcases ef ((A.openB (ii:Int))) with H2 | H2
   ·
    iterate 3 refine aN H2 xm ?_
    refine l_of (bR (cU rfl rfl rfl rfl H2) (aP rfl rfl MC) (Cu X A j hX hI x0 m6 h2 (ii:Int) (by omega) _ (h3.tk [0,4])) ?_)
    rintro _ g6 ⟨rfl,h1⟩
    replace h1:=h3.aI2 [0,4] h1
    refine bW ?_
    refine w_v (dH rfl rfl H2 rfl) ?_
    refine cD ?_
    rcases ef ((aF m6.fld (ii:Int))) with H4 | H4
    ·
     refine g_cond_t rfl H4 ?_
     refine ae ?_
     refine l_of (eu h1 7 ?_)
     intro g5 x3
     refine cD ?_
     refine ah [4,5] ?_
     refine a_ ?_
     refine cY ?_
     refine dV (cT g1 _) ?_
     rintro _ _ g4 ⟨⟨rfl,h0⟩,rfl⟩
     replace h0:=x3.ab0 h0
     refine jb h0 7 ?_
     have hf9:fD A.peers k=some m6.pe:=by rw [← h4]; exact jh hI.nd (hX.at h2)
     have hV0:(A.intB k)=(jo A.n).any fun i=>A.openB i && aF m6.fld i:=by unfold PK.intB; rw [if_pos H5,hf9]; rfl
     have hV:(A.intB k)=true:=by rw [hV0,List.any_eq_true]; exact ⟨(ii:Int),List.mem_of_getElem? (cK (by omega)),by rw [H2,H4]; rfl⟩
     rw [hV,H5]
     exact ⟨rfl,(h0.b7 [0,2,3,4,1,5,6,8])⟩
    refine g_cond_f rfl H4 ?_
    refine aC ?_
    refine ah [0,5,6,14,15] ?_
    refine aR ?_
    refine gI ii ?_
    refine ae ?_
    refine bD (i:=(ii)) ((ii+1)) ⟨(by omega),(d6 hno (cK (by omega)) (by rw [H2,H4]; rfl)),(h1.tk [0,2,3,4,1,5,6,7,8])⟩
   iterate 4 refine dh H2 ?_
   refine w_v (cH rfl rfl H2 rfl) ?_
   refine cD ?_
   refine g_cond_f rfl rfl ?_
   refine aC ?_
   refine ah [0,5,6,14,15] ?_
   refine aR ?_
   refine gI ii ?_
   refine ae ?_
   refine bD (i:=(ii)) ((ii+1)) ⟨(by omega),(d6 hno (cK (by omega)) (by rw [H2]; rfl)),(h3.tk [0,1,2,3,4,5,6,7,8])⟩
  refine br H6 ?_
  refine cp ?_
  refine l_of (eu h7 7 ?_)
  intro g3 x2
  refine ae ?_
  refine cY ?_
  refine dV (cT g1 _) ?_
  rintro _ _ g2 ⟨⟨rfl,H8⟩,rfl⟩
  replace H8:=x2.ab0 H8
  refine jb H8 7 ?_
  have hf9:fD A.peers k=some m6.pe:=by rw [← h4]; exact jh hI.nd (hX.at h2)
  have hV0:(A.intB k)=(jo A.n).any fun i=>A.openB i && aF m6.fld i:=by unfold PK.intB; rw [if_pos H5,hf9]; rfl
  have hV:(A.intB k)=false:=by rw [hV0,List.any_eq_false]; intro y hy; rw [hno y (by rw [show ii=A.n from by omega,List.take_of_length_le (by rw [je]; exact Nat.le_refl _)]; exact hy)]; decide
  rw [hV,H5]
  exact ⟨rfl,(H8.b7 [0,1,2,3,4,5,6,8])⟩
 have h6:=H3.b7 [1,2,3,4,5,6,7,0,8]
 refine l_of (aG (su X A j hX hI k H5 _ (h6.tk [0])) ?_)
 rintro _ g0 ⟨rfl,x1⟩
 have h5:=h6.au x1
 refine bB ?_
 refine aA ?_
 refine aX ?_
 refine dV (bC g1 (A.peE k) (0) [] _ (h5.ob (k:=7) rfl)) ?_
 rintro _ _ h9 ⟨⟨rfl,H7⟩,rfl⟩
 replace H7:=h5.aK 7 H7
 refine jb H7 0 ?_
 have hV:(A.intB k)=false:=if_neg H5
 rw [hV]
 exact ⟨rfl,(H7.b7 [1,2,3,4,5,6,7,8])⟩
theorem zy {X:XP} {A:PK} {j:Nat} (hX:di X A) (hI:bQ j A) {k:Int} (h:(gV X.ms k).isSome=false):A.askL k=[]:=by
 rw [hX.mtN] at h
 cases hq:A.askL k with
 | nil=>rfl
 | cons c l =>
   exfalso
   have h1:c∈bO A.asked k:=by show c∈A.askL k; rw [hq]; exact List.mem_cons_self
   obtain ⟨⟨p,hp,hk⟩,_⟩:=hI.ak _ (gq.1 h1)
   have hk:p.k=k:=hk
   cases hf:fD A.peers k with
   | none=>exact lu hf p hp hk
   | some p=>rw [hf] at h; cases h
theorem LU (X:XP) (A:PK) (j:Nat) (hX:di X A) (hI:bQ j A) (k:Int) (hko:cO k) (hj:j≤100000)  (w:World) (HS:S w [(XI X A)]):Calls Tryz.prog 25 #[vP X.g,vI k] w fun e w'=>∃ p' c',e=.returned (.slice p' (A.askL k).length c')∧S w' ([Rw 44 3 p' (A.askL k).length c' (fl aO (A.askL k)),(XI X A)]++[aB w (aT [(XI X A)])]):=by
 have H0:=HS.bu
 have h8:=hI.a8
 have hal9:=hI.al
 refine en Tryz.func25 ?_
 refine ah [0,1] ?_
 refine a_ ?_
 refine bP (v:=.bool false) (hb:=(j3 (r:=false) Tryz.underlying26 rfl)) ?_
 refine cJ ?_
 refine aN rfl xm ?_
 refine aN rfl xn ?_
 iterate 2 refine aN rfl (xf 0) ?_
 refine aN rfl (xl H0 0) ?_
 refine aN rfl xm ?_
 refine aN (v:=(pJ ((gV X.ms) k))) rfl (aH (bU (x:=k) (iG Tryz.underlying80 Tryz.underlying3) H0 3 rfl rfl rfl rfl (hko) vz) (rfl)) ?_
 refine aN (v:=.bool (!(((gV X.ms) k).isSome))) rfl (ai rfl rfl rfl (oD Tryz.underlying79)) ?_
 refine w_v (pf rfl) ?_
 refine cD ?_
 refine ah [0,1,16] ?_
 rcases ef (((gV X.ms) k).isSome) with H2 | H2
 ·
  obtain ⟨im,m,hmq,hmk,hmb,hmf⟩:=uL H2
  refine g_cond_f rfl (aa H2) ?_
  refine eG ?_
  refine w_v (v:=vP m.b) (aH (bU (x:=k) (iG Tryz.underlying80 Tryz.underlying3) H0 3 rfl rfl rfl rfl (hko) vz) (hG hmb)) ?_
  refine ru ?_
  refine w_v (v:=.slice m.ap m.asked.length m.ac) (f_ rfl rfl Tryz.underlying35 rfl (H0.mtCell (k:=4) rfl hmq (c:=5) rfl)) ?_
  refine l_of (aG (Li m.asked m.ap m.asked.length m.ac ((by have h9:=hI.al; have h8:=iK A.asked k; have h7:=hX.ask m (List.mem_of_getElem? hmq); rw [hmk] at h7; rw [h7]; omega)) _ (H0.mtAsk (k:=4) rfl hmq)) ?_)
  rintro _ H3 ⟨pz2,cz3,rfl,H5⟩
  replace H5:=H0.ab1 H5
  refine bW ?_
  refine ae ?_
  refine ah [4] ?_
  refine aR ?_
  refine af ?_
  have hV:(A.askL k)=m.asked:=by rw [hX.ask m (List.mem_of_getElem? hmq),hmk]; rfl
  rw [hV]
  exact ⟨_,_,rfl,((S.big (L:=[_,_,_,_,_,_,_]) (H5.tk [1,2,3,4,5,6,7,0,8])).tk [1,0,2])⟩
 refine g_cond_t rfl (aa H2) ?_
 refine aQ ?_
 refine af ?_
 have hV:(A.askL k)=[]:=zy hX hI H2
 rw [hV]
 exact ⟨none,0,rfl,(H0.b7 [0,1,2,3,4,5,6,7]).nilFl 44 3 aO⟩
theorem Jt (X:XP) (A:PK) (j:Nat) (hX:di X A) (hI:bQ j A)  (w:World) (HS:S w [(XI X A)]):Calls Tryz.prog 23 #[vP X.g] w fun e w'=>e=.returned (.bool A.endB)∧S w' ([(XI X A)]++[aB w (aT [(XI X A)])]):=by
 have H0:=HS.bu
 have h8:=hI.a8
 refine en Tryz.func23 ?_
 refine ah [0] ?_
 refine aQ ?_
 refine bP (v:=.bool true) (hb:=(lG (r:=false) Tryz.underlying26 rfl)) ?_
 refine cJ ?_
 refine aN rfl xm ?_
 have H1:=H0.b7 [0,1,2,3,4,5,6,7]
 refine l_of (bR (cU rfl rfl rfl rfl rfl) (aP rfl rfl RN) (BA X A j hX hI _ (H1.tk [0])) ?_)
 rintro _ H2 ⟨rfl,H3⟩
 have H4:=H1.au H3
 refine bW ?_
 refine w_v (pt rfl) ?_
 refine aC ?_
 refine af ?_
 exact ⟨rfl,(H4.b7 [0,1,2,3,4,5,6,7])⟩
def wb (l:List Bool) (i:Nat):List Int:=((List.range i).filter fun i=>l.getD i false).map fun (i:Nat)=>(i:Int)
theorem xM {l:List Bool} {i:Nat} {b:Bool} (h:l[i]?=some b):wb l (i+1)=wb l i++if b=true then [(i:Int)] else []:=by
 unfold wb
 rw [List.range_succ,List.filter_append,List.map_append,List.filter_cons,kF h]
 cases b <;> rfl
theorem E_ (l:List Bool):wb l l.length=gj l:=rfl
theorem E9 (l:List Bool) (i:Nat):(wb l i).length≤i:=by
 unfold wb
 rw [List.length_map]
 have:=List.length_filter_le (fun i=>l.getD i false) (List.range i)
 rw [List.length_range] at this; exact this
theorem Qy (X:XP) (A:PK) (j:Nat) (hX:di X A) (hI:bQ j A)  (w:World) (HS:S w [(XI X A)]):Calls Tryz.prog 20 #[vP X.g] w fun e w'=>e=.returned (.string (fieldS A.had))∧S w' ([(XI X A)]++[aB w (aT [(XI X A)])]):=by
 have H0:=HS.bu
 have h8:=hI.a8
 have hadl:=hI.hadl
 refine en Tryz.func20 ?_
 refine ah [0] ?_
 refine a_ ?_
 refine bP (v:=.bool false) (hb:=(j3 (r:=false) Tryz.underlying26 rfl)) ?_
 refine cD ?_
 refine g_cond_f rfl rfl ?_
 refine yM ?_
 refine cQ (ι:=Nat × Option Addr × Nat × List Int) (fun (ii,pq,cq,oz)=>[(0,vP X.g),(3,.slice pq oz.length cq),(13,.slice X.hp A.had.length X.hc),(14,vI A.had.length),(15,vI ii)]) (fun (ii,pq,cq,oz) wx=>(ii≤A.had.length)∧(oz=(wb A.had ii))∧S wx [Rw 3 1 pq oz.length cq (fl cg oz),X0 X A,X1 X A,X2 X A,X3 X,bM fA X.ms,X5 X,bM g_ X.bs,aB w (aT [(XI X A)])]) (fun (ii,pq,cq,oz)=>A.had.length - ii) (0,none,0,[]) ⟨Nat.zero_le _,rfl,((S.nilFl H0 3 1 cg).tk [0,1,2,3,4,5,6,7,8])⟩ ?_
 rintro ⟨ii,pq,cq,oz⟩ h3 ⟨hii,hoz,H2⟩
 refine ah [0,3,13,14,15] ?_
 have hzl9:oz.length≤ii:=by rw [hoz]; exact E9 _ _
 refine aC ?_
 refine g_seq ?_
 by_cases H6:((ii:Int):Int)<(A.had.length:Int)
 ·
  refine bm H6 ?_
  refine a_ ?_
  refine w_v (iH ii (H2.rr 2)) ?_
  obtain ⟨x4,H4⟩:=(H2.rr 2).exL cP ii
  refine w_v (nX ii (H2.rr 2) (cP.flAt1 H4 rfl)) ?_
  refine a_ ?_
  rcases ef (x4) with H3 | H3
  ·
   refine g_cond_t rfl H3 ?_
   refine aC ?_
   refine l_of (fC Av #[vI ii] H2 ?_)
   intro g6 h2 H8
   have hln13a:=(H8.rr 1).lenL bE
   have hln13:(oz++[(ii:Int)]).length=oz.length+1:=by simp only [List.length_append,List.length_cons,List.length_nil] <;> omega
   refine l_of (fE oe [(ii:Int)] bE H8 1 0 ?_)
   intro p9 h0 H9 h1
   refine aQ ?_
   refine gI ii ?_
   refine ae ?_
   refine bD (i:=(ii,pq,cq,oz)) ((ii+1),p9,h0,(oz++[(ii:Int)])) ⟨by omega,(by rw [xM H4,if_pos H3,← hoz]),(h1.tk [1,2,3,4,5,6,7,8,9])⟩
  refine g_cond_f rfl H3 ?_
  refine aE ?_
  refine gI ii ?_
  refine ae ?_
  refine bD (i:=(ii,pq,cq,oz)) ((ii+1),pq,cq,oz) ⟨by omega,(by rw [xM H4,if_neg (by rw [H3]; decide),List.append_nil,← hoz]),(H2.tk [0,1,2,3,4,5,6,7,8])⟩
 refine br H6 ?_
 refine cS ?_
 have hiq9:ii=A.had.length:=by omega
 rw [hiq9,E_] at hoz
 subst hoz
 refine cJ ?_
 refine l_of (aG (SJ A.had A.n hadl (by omega) pq cq _ (H2.tk [0])) ?_)
 rintro _ H7 ⟨rfl,H5⟩
 replace H5:=H2.aI1 [0] H5
 refine bW ?_
 refine a_ ?_
 refine ah [6] ?_
 refine aQ ?_
 refine af ?_
 exact ⟨rfl,(H5.b7 [1,2,3,4,5,6,7,8])⟩
theorem OJ (X:XP) (A:PK) (j:Nat) (hX:di X A) (hI:bQ j A) (i:Int)  (w:World) (HS:S w [(XI X A)]):Calls Tryz.prog 27 #[vP X.g,vI i] w fun e w'=>∃ p' c',e=.returned (.tuple #[.slice p' (A.freeV i).length c',vI (A.inE i)])∧S w' ([Rw 44 3 p' (A.freeV i).length c' (fl aO (A.freeV i)),(XI X A)]++[aB w (aT [(XI X A)])]):=by
 have H0:=HS.bu
 have h8:=hI.a8
 refine Ag 37 Tryz.func27 rfl rfl rfl ?_
 have hL:¬ LetsOut (gU Tryz.prog Tryz.f27 fun e w'=>∃ p' c',e=.returned (.tuple #[.slice p' (A.freeV i).length c',vI (A.inE i)])∧S w' ([Rw 44 3 p' (A.freeV i).length c' (fl aO (A.freeV i)),(XI X A)]++[aB w (aT [(XI X A)])])):=by
  rintro ⟨_,_,h⟩
  simp only [gU,reduceCtorEq,false_and,and_false,exists_false,or_false,or_self,exists_const] at h
 refine ah [0,1] ?_
 refine R.g_seq ?_
 refine R.g_region ?_
 refine R.l_of rfl (fun h=>hL h) (fq H0 ?_)
 intro g1 m7 H3
 refine R.l_of rfl (fun h=>hL h) (fq H3 ?_)
 intro g4 m6 H6
 refine R.l_of rfl (fun h=>hL h) (cA H6 MQ ?_)
 intro g7 m5 H9
 refine R.l_of rfl (fun h=>hL h) (cA H9 l_ ?_)
 intro h1 w8 h5
 refine R.g_nil ?_
 refine aR ?_
 refine R.g_seq ?_
 refine R.g_region ?_
 refine Kv (bh rfl) rfl (dc rfl rfl rfl) ?_
 refine R.g_nil ?_
 refine aR ?_
 refine R.g_seq ?_
 refine R.g_region ?_
 refine R.w_v (fun h=>hL h) (xl h5 3) ?_
 refine R.w_v (fun h=>hL h) (xl h5 2) ?_
 by_cases H7:0≤i∧i<(A.n:Int)
 ·
  refine R.l_of rfl (fun h=>hL h) (fZ h5 [4,5,6,7,8,9,10,0,1,2,3,11] (oM X A j hX hI i H7 _) ?_)
  intro c9 h7
  refine R.g_nil ?_
  refine aR ?_
  iterate 2 refine R.g_seq ?_
  refine R.g_region ?_
  refine R.w_v (fun h=>hL h) (xl h7 10) ?_
  refine R.w_v (fun h=>hL h) (xl h7 9) ?_
  refine R.l_of rfl (fun h=>hL h) (bR (bh rfl) (aP rfl rfl yy) (rO X.g i _) ?_)
  rintro _ c8 ⟨ba18,bi19,rfl,h6⟩
  replace h6:=h7.ab2 h6
  refine bW ?_
  refine R.g_nil ?_
  refine aR ?_
  refine R.g_block ?_
  have m4:S _ [_,_,_,_,_,_,_,_,_,_,_,_,_,_,_]:=S.nilFl h6 44 3 aO
  have m3:=m4.b3 [1,2,3,0,4,5,6,7,8,9,10,11,12,13,14]
  have m2:=S.noI (m3.tk [0,1,2,3,4,5,6,7,8,9,10,11,12])
  refine jg (α:=aV) (ι:=Nat) (encs:=vY) (base:=(fN [Ob ba18 (.cells #[vP X.g] 26 (0,0)),Ob bi19 (.cells #[vI i] 3 (0,0)),X0 X A])) (by omega) rfl rM (mJ (X:=X) (i:=i) hI) (fun _=>rfl) rfl (fun pre Lx=>∃ (p3:Option Addr),∃ (c3:Nat),∃ (l3:List aV),(l3=(pre).filter (fun c=>!aF A.had i && A.freeC c)∧l3.length≤(pre).length)∧Lx=[Rw 44 3 p3 l3.length c3 (fl aO l3),X1 X A,X2 X A,X3 X,bM fA X.ms,X5 X,bM g_ X.bs,Ob h1 (.cells #[vI 0] 30 (0,0)),Ob g7 (.cells #[.slice p3 l3.length c3] 35 (0,0)),Ob g4 (.cells #[vI i] 3 (0,0)),Ob g1 (.cells #[vP X.g] 26 (0,0)),aB w (aT [(XI X A)])]) (fun cc pre Lx=>False) (fun p ia=>[(2,vP g1),(3,vP g4),(4,vP g7),(6,vP ia)]) (fun p ia=>[Ob ia (.cells #[vI p.pc,vI p.bg,vI p.ln] 44 (0,0))]) (fun _ _ _ _ _=>trivial) ⟨none,0,[],⟨rfl,Nat.le_refl _⟩,rfl⟩ m2 ?_ ?_ ?_ ?_
  ·
   rintro l1 p Ly n1 m1
   have hL:¬ LetsOut (fun (_:Exit) (_:Act) (_:World)=>False):=fun ⟨_,_,h⟩=>h
   refine ah [2,3,4,13] ?_
   refine R.g_region ?_
   refine R.l_of rfl (fun h=>hL h) (cA m1 gX ?_)
   intro b0 c7 m0
   refine R.l_of rfl (fun h=>hL h) (b_ m0 0 (bh rfl) rfl rfl rfl rfl rfl dE rfl rfl (cs':=#[vI p.pc,vI p.bg,vI p.ln]) rfl ?_)
   intro c6 k9
   refine R.g_nil ?_
   refine aR ?_
   exact iD b0 ⟨rfl,rfl,rfl,rfl,trivial⟩ k9
  ·
   rintro l1 pr x ia II Kx _ n0 ⟨p3,c3,l3,hJ,rfl⟩ hphi k7
   have k6:=S.unbig (L:=[_]) (k7.tk [3,0,1,2,4,5,6,7,8,9,10,11,12,13,14,15])
   refine ah [2,3,4,6] ?_
   obtain ⟨q9,hpr9,hxq9⟩:=hphi
   have hxm9:x∈A.blocks i:=List.mem_of_getElem? hxq9
   have hpl9:pr.length≤8:=by rw [hpr9]; have h9:=(cZ hI i).2; rw [List.length_take]; omega
   have w9:=hJ.2
   have k5:S _ [_,_,_,_,_,_,_,_,_,_,_,_,_,_,_,_,_,_]:=S.unbig (k6.tk [1,0,2,3,4,5,6,7,8,9,10,11,12,13,14,15])
   refine R.g_block ?_
   refine R.g_seq ?_
   refine R.g_anyY [] (fun wx=>S wx [Ob ba18 (.cells #[vP X.g] 26 (0,0)),Ob bi19 (.cells #[vI i] 3 (0,0)),X0 X A,Ob ia (.cells #[vI x.pc,vI x.bg,vI x.ln] 44 (0,0)),II,Kx,Rw 44 3 p3 l3.length c3 (fl aO l3),X1 X A,X2 X A,X3 X,bM fA X.ms,X5 X,bM g_ X.bs,Ob h1 (.cells #[vI 0] 30 (0,0)),Ob g7 (.cells #[.slice p3 l3.length c3] 35 (0,0)),Ob g4 (.cells #[vI i] 3 (0,0)),Ob g1 (.cells #[vP X.g] 26 (0,0)),aB w (aT [(XI X A)])]) (fun wx=>S wx [Ob ba18 (.cells #[vP X.g] 26 (0,0)),Ob bi19 (.cells #[vI i] 3 (0,0)),X0 X A,Ob ia (.cells #[vI x.pc,vI x.bg,vI x.ln] 44 (0,0)),II,Kx,Rw 44 3 p3 l3.length c3 (fl aO l3),X1 X A,X2 X A,X3 X,bM fA X.ms,X5 X,bM g_ X.bs,Ob h1 (.cells #[vI 0] 30 (0,0)),Ob g7 (.cells #[.slice p3 l3.length c3] 35 (0,0)),Ob g4 (.cells #[vI i] 3 (0,0)),Ob g1 (.cells #[vP X.g] 26 (0,0)),aB w (aT [(XI X A)])]) [] (by kernel_rfl) (by kernel_rfl) (fun ⟨_,_,h⟩=>h) k5 (fun x9 h4=>?_)
   refine Dw 0 16 h4 ?_
   refine jI (v:=vP X.g) 1 rfl (bh rfl) rfl rfl rfl (by kernel_rfl) (by kernel_rfl) (by kernel_rfl) (by kernel_rfl) (fun wx=>fm rfl rfl) ?_
   refine jI (v:=.pointer (some ⟨X.g,8,none⟩)) 2 rfl (bh rfl) rfl rfl rfl (by kernel_rfl) (by kernel_rfl) (by kernel_rfl) (by kernel_rfl) (fun wx=>c_ rfl rfl Hi rfl) ?_
   refine Dw 3 2 h4 ?_
   refine yt 4 rfl h4 (fun _ H=>fS H 3) ?_
   refine sf (i:=5) ?_
   refine aG (sr x _) ?_
   rintro _ x8 ⟨rfl,H4⟩
   replace H4:=h4.ab0 H4
   refine bW ?_
   refine Ca H4 H4 ?_
   refine yt (v:=(pJ ((gZ X.bs) x.at))) 6 rfl H4 (fun _ H=>aH (bU (x:=x.at) jp H 11 rfl rfl rfl rfl ((jQ hI H7 hxm9)) vw) (rfl)) ?_
   refine jI (v:=.bool (!(((gZ X.bs) x.at).isSome))) 7 rfl (bh rfl) rfl rfl rfl (by kernel_rfl) (by kernel_rfl) (by kernel_rfl) (by kernel_rfl) (fun wx=>ai rfl rfl rfl (oD Tryz.underlying98)) ?_
   refine jI (v:=.bool (!(((gZ X.bs) x.at).isSome))) 8 rfl (bh rfl) rfl rfl rfl (by kernel_rfl) (by kernel_rfl) (by kernel_rfl) (by kernel_rfl) (fun wx=>bY rfl rfl) ?_
   rcases ef (((gZ X.bs) x.at).isSome) with H2 | H2
   ·
    refine iV 9 rfl (nY rfl rfl rfl rfl (aa H2)) rfl rfl rfl (by kernel_rfl) (by kernel_rfl) (by kernel_rfl) (by kernel_rfl) ?_
    refine iV 10 rfl (nY rfl rfl rfl rfl (aa H2)) rfl rfl rfl (by kernel_rfl) (by kernel_rfl) (by kernel_rfl) (by kernel_rfl) ?_
    refine iV 11 rfl (nY rfl rfl rfl rfl (aa H2)) rfl rfl rfl (by kernel_rfl) (by kernel_rfl) (by kernel_rfl) (by kernel_rfl) ?_
    refine iV 12 rfl (nY rfl rfl rfl rfl (aa H2)) rfl rfl rfl (by kernel_rfl) (by kernel_rfl) (by kernel_rfl) (by kernel_rfl) ?_
    refine iV 13 rfl (nY rfl rfl rfl rfl (aa H2)) rfl rfl rfl (by kernel_rfl) (by kernel_rfl) (by kernel_rfl) (by kernel_rfl) ?_
    refine iV 14 rfl (nY rfl rfl rfl rfl (aa H2)) rfl rfl rfl (by kernel_rfl) (by kernel_rfl) (by kernel_rfl) (by kernel_rfl) ?_
    refine iV 15 rfl (nY rfl rfl rfl rfl (aa H2)) rfl rfl rfl (by kernel_rfl) (by kernel_rfl) (by kernel_rfl) (by kernel_rfl) ?_
    refine iV 16 rfl (nY rfl rfl rfl rfl (aa H2)) rfl rfl rfl (by kernel_rfl) (by kernel_rfl) (by kernel_rfl) (by kernel_rfl) ?_
    refine jI (v:=.bool false) 17 rfl (bh rfl) rfl rfl rfl (by kernel_rfl) (by kernel_rfl) (by kernel_rfl) (by kernel_rfl) (fun wx=>pf (aa H2)) ?_
    refine Cb ?_
    refine aR ?_
    refine ah [4,6,31] ?_
    refine R.g_cond_f rfl rfl ?_
    refine R.g_skip ?_
    refine aR ?_
    have k4:=H4.b3 [0,1,2,3,4,5,6,7,8,9,10,11,12,13,14,15,16,17]
    exact fb ⟨p3,c3,l3,⟨(by rw [jM (by have e9:=lZ hX hxm9 H2; rw [e9]; simp [H2]),← hJ.1]),(by simp only [List.length_append,List.length_cons,List.length_nil]; omega)⟩,rfl⟩ (k4.tk [0,2,3,4,5,6,7,8,9,10,11,12,13,14,15])
   refine uG (v:=vP X.g) 9 rfl (cU rfl rfl rfl rfl (aa H2)) rfl rfl rfl (by kernel_rfl) (by kernel_rfl) (by kernel_rfl) (by kernel_rfl) (by kernel_rfl) H4 (fun wx H=>gi H 16 rfl rfl Tryz.underlying26 rfl rfl rfl) ?_
   refine jI (v:=vP X.g) 10 rfl (cU rfl rfl rfl rfl (aa H2)) rfl rfl rfl (by kernel_rfl) (by kernel_rfl) (by kernel_rfl) (by kernel_rfl) (fun wx=>fm rfl rfl) ?_
   refine jI (v:=.pointer (some ⟨X.g,6,none⟩)) 11 rfl (cU rfl rfl rfl rfl (aa H2)) rfl rfl rfl (by kernel_rfl) (by kernel_rfl) (by kernel_rfl) (by kernel_rfl) (fun wx=>c_ rfl rfl OP rfl) ?_
   refine uG (v:=.slice X.hp A.had.length X.hc) 12 rfl (cU rfl rfl rfl rfl (aa H2)) rfl rfl rfl (by kernel_rfl) (by kernel_rfl) (by kernel_rfl) (by kernel_rfl) (by kernel_rfl) H4 (fun wx H=>gi H 2 rfl rfl Tryz.underlying38 rfl rfl rfl) ?_
   refine uG (v:=vI i) 13 rfl (cU rfl rfl rfl rfl (aa H2)) rfl rfl rfl (by kernel_rfl) (by kernel_rfl) (by kernel_rfl) (by kernel_rfl) (by kernel_rfl) H4 (fun wx H=>gi H 15 rfl rfl Tryz.underlying3 rfl rfl rfl) ?_
   refine jI (v:=.pointer ((X.hp).map fun q=>q.add (((i).toNat) * 1))) 14 rfl (cU rfl rfl rfl rfl (aa H2)) rfl rfl rfl (by kernel_rfl) (by kernel_rfl) (by kernel_rfl) (by kernel_rfl) (fun wx=>zG ((i).toNat) ((H4.rr 7).some (by omega)) rfl rfl rfl Tryz.underlying38 vv (by omega)) ?_
   obtain ⟨H8,h0⟩:=(H4.rr 7).exL cP ((i).toNat)
   have hhb9:=gv h0
   refine uG (v:=.bool H8) 15 rfl (cU rfl rfl rfl rfl (aa H2)) rfl rfl rfl (by kernel_rfl) (by kernel_rfl) (by kernel_rfl) (by kernel_rfl) (by kernel_rfl) H4 (fun wx H=>wT ((i).toNat) (H.rr 7) (by omega) rfl rfl Tryz.underlying4 rfl (cP.flAt1 h0 rfl)) ?_
   refine jI (v:=.bool (!H8)) 16 rfl (cU rfl rfl rfl rfl (aa H2)) rfl rfl rfl (by kernel_rfl) (by kernel_rfl) (by kernel_rfl) (by kernel_rfl) (fun wx=>cj (b:=H8) rfl rfl) ?_
   refine jI (v:=.bool (!H8)) 17 rfl (bh rfl) rfl rfl rfl (by kernel_rfl) (by kernel_rfl) (by kernel_rfl) (by kernel_rfl) (fun wx=>pt (aa H2)) ?_
   refine Cb ?_
   refine aR ?_
   refine ah [4,6,31] ?_
   rcases ef (H8) with H5 | H5
   ·
    refine R.g_cond_f rfl (aa H5) ?_
    refine R.g_skip ?_
    refine aR ?_
    have k3:=H4.b3 [0,1,2,3,4,5,6,7,8,9,10,11,12,13,14,15,16,17]
    exact fb ⟨p3,c3,l3,⟨(by rw [jM (by have e9:=lZ hX hxm9 H2; rw [e9,hhb9]; simp [H2,H5]),← hJ.1]),(by simp only [List.length_append,List.length_cons,List.length_nil]; omega)⟩,rfl⟩ (k3.tk [0,2,3,4,5,6,7,8,9,10,11,12,13,14,15])
   refine R.g_cond_t rfl (aa H5) ?_
   refine R.g_region ?_
   refine R.w_v (fun ⟨_,_,h⟩=>h) (xl H4 14) ?_
   refine R.w_v (fun ⟨_,_,h⟩=>h) (fS H4 3) ?_
   refine R.l_of rfl (fun ⟨_,_,h⟩=>h) (iU H4 (bh rfl) rfl rfl rfl (vs:=[.agg #[vI x.pc,vI x.bg,vI x.ln]]) rfl Tryz.underlying35 dE gX rfl rfl (cells:=#[vI x.pc,vI x.bg,vI x.ln]) (by kernel_rfl) ?_)
   intro m8 x7 g8
   have hln52a:=(g8.rr 7).lenL cN
   have hln52:(l3++[x]).length=l3.length+1:=by simp only [List.length_append,List.length_cons,List.length_nil] <;> omega
   refine R.l_of rfl (fun ⟨_,_,h⟩=>h) (t6 (m:=1) (l:=l3) (l2:=[x]) cN g8 7 (j0:=0) rfl rfl ⟨rfl,Nat.le_refl _⟩ (bh rfl) rfl rfl rfl rfl rfl rfl Tryz.underlying35 kN rfl (by decide) (by omega) ?_)
   intro g0 g2 x6 k2
   refine R.l_of rfl (fun ⟨_,_,h⟩=>h) (b_ k2 15 (bh rfl) rfl rfl rfl rfl rfl Cd rfl rfl (cs':=#[.slice g0 ((l3++[x]).length) g2]) rfl ?_)
   intro x5 k1
   refine R.g_nil ?_
   refine aR ?_
   have k0:=k1.b3 [1,2,3,0,4,5,6,7,8,9,10,11,12,13,14,15,16,17,18]
   exact fb ⟨g0,g2,(l3++[x]),⟨(by rw [lO (by have e9:=lZ hX hxm9 H2; rw [e9,hhb9]; simp [H2,H5]),← hJ.1]),(by simp only [List.length_append,List.length_cons,List.length_nil]; omega)⟩,rfl⟩ (k0.tk [0,3,4,5,6,7,8,9,10,11,12,13,14,15,16])
  ·
   rintro D xs _ m9 hxs ⟨p3,c3,l3,hJ,rfl⟩ b9
   have g6:S _ [_,_,_,_,_,_,_,_,_,_,_,_,_,_,_,_]:=S.unbig (b9.tk [1,0,2,3,4,5,6,7,8,9,10,11,12,13])
   refine ae ?_
   refine R.g_seq ?_
   refine R.g_region ?_
   refine R.w_v (fun h=>hL h) (xl g6 12) ?_
   refine R.l_of rfl (fun h=>hL h) (b_ g6 12 (bh rfl) rfl rfl rfl rfl rfl Cd rfl rfl (cs':=#[.slice p3 l3.length c3]) rfl ?_)
   intro x4 b8
   refine R.l_of rfl (fun h=>hL h) (b_ b8 11 (bh rfl) rfl rfl rfl rfl rfl Rs rfl rfl (cs':=#[vI 0]) rfl ?_)
   intro x3 b6
   refine R.g_nil ?_
   refine aR ?_
   refine R.g_ret ?_
   refine IM ?_
   refine xr (by simp) b6 (k:=3) rfl ?_
   intro x2 b2
   refine Br (by simp) P7 (cT h1 _) ?_
   rintro _ _ x1 ⟨⟨rfl,h3⟩,rfl⟩
   replace h3:=b2.ab0 h3
   refine (?_:Gq _ _ _ _ _ _ FrameMode.returning _)
   refine Ac [.cell 4 35,.cell 5 30] [.slice p3 l3.length c3,vI 0] rfl ⟨⟨_,rfl,dp Tryz.underlying35 rfl (h3.cell (k:=12) rfl rfl)⟩,⟨_,rfl,dp Tryz.underlying30 rfl (h3.cell (k:=11) rfl rfl)⟩,trivial⟩ ?_
   have hE:A.inE i=0:=if_neg (by omega)
   have hV:(A.freeV i)=l3:=by unfold PK.freeV; rw [if_pos hE,hJ.1,hxs]; rfl
   rw [hV,hE]
   exact ⟨_,_,rfl,((S.big (L:=[_,_,_,_,_,_,_]) (h3.tk [2,5,6,7,8,9,10,4,15])).tk [1,0,2])⟩
  rintro D cc pr _ W _ h; exact h.elim
 have g5:=h5.b7 [4,5,6,7,8,9,10,0,1,2,3,11]
 refine R.l_of rfl (fun h=>hL h) (bR (bh rfl) (aP rfl rfl RQ) (qH X A j hX hI i H7 _ (g5.tk [0])) ?_)
 rintro _ x0 ⟨rfl,b1⟩
 have g3:=g5.au b1
 refine bB ?_
 refine aA ?_
 refine yg ?_
 refine Br (by simp) P7 (bC h1 7 (0) [] _ (g3.ob (k:=7) rfl)) ?_
 rintro _ _ g9 ⟨⟨rfl,h2⟩,rfl⟩
 replace h2:=g3.aK 7 h2
 refine (?_:Gq _ _ _ _ _ _ FrameMode.returning _)
 refine Ac [.cell 4 35,.cell 5 30] [.slice none 0 0,vI 7] rfl ⟨⟨_,rfl,dp Tryz.underlying35 rfl (h2.cell (k:=8) rfl rfl)⟩,⟨_,rfl,dp Tryz.underlying30 rfl (h2.cell (k:=0) rfl rfl)⟩,trivial⟩ ?_
 have hE:A.inE i=7:=if_pos (by omega)
 have hV:(A.freeV i)=[]:=by unfold PK.freeV; rw [hE]; exact if_neg (by decide)
 rw [hV,hE]
 exact ⟨none,0,rfl,(h2.b7 [1,2,3,4,5,6,7,11]).nilFl 44 3 aO⟩
end Go.Proofs.YthmmfhdpkddniaaGreatDoor
