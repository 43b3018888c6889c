import Derived.Test.YthmmfhdpkddniaaGreatDoorRe
set_option maxRecDepth 20000
set_option maxHeartbeats 4000000
set_option linter.all false
namespace Go.Proofs.YthmmfhdpkddniaaGreatDoor
open Go.RowKit
theorem QR:aI Tryz.prog 125=true:=by kernel_rfl
theorem Hd:kf Tryz.prog 110=some (some (.agg #[.int .i64 0,.int .i64 0,.int .i64 0,.int .i64 0]),4,32):=by kernel_rfl
theorem Mn:jW Tryz.prog 110=some 4:=by kernel_rfl
theorem Mh:tw Tryz.prog 110=some (.agg #[.int .i64 0,.int .i64 0,.int .i64 0,.int .i64 0]):=by kernel_rfl
theorem Ox (Z:ZP) (A:PK) (j:Nat) (hZ:fU Z A) (hI:bQ j A) (k:Int) (c:aV) (hj:j<100000)  (w:World) (HS:S w [(ZI Z A)]):Calls Tryz.prog 77 #[vP Z.g,vI k,.agg #[vI c.pc,vI c.bg,vI c.ln]] w fun e w'=>∃ (Y:ZP),Y.g=Z.g∧fU Y (A.hereA k c)∧∃ p' c',e=.returned (.tuple #[.slice p' (A.hereL k c).length c',.bool (A.hereW k c),vI (A.hereE k c)])∧S w' ([Rw 110 4 p' (A.hereL k c).length c' (fl askL (A.hereL k c)),(ZI Y (A.hereA k c))]++[aB w (aT [(ZI Z A)])]):=by
 have H0:=HS.bu
 have h8:=hI.a8
 have hal9:=hI.al
 have hhl9:=hI.hl
 refine en Tryz.func77 ?_
 refine ah [0,1,2] ?_
 refine iF ?_
 refine l_of (fq H0 ?_)
 intro g1 r4 H3
 have H4:=H3.nilFl 110 4 askL
 refine cS ?_
 refine l_of (fZ H4 [2,3,4,5,6,7,8,0,1,9] (Aj Z A j hZ hI k c.pc _) ?_)
 intro r3 H8
 refine aE ?_
 refine bP (v:=.bool (!decide (((oh A k c.pc):Int)=0))) (hb:=eh) ?_
 refine cJ ?_
 by_cases H6:((oh A k c.pc):Int)=0
 ·
  refine aN (nf H6) (xf 0) ?_
  refine aN (nf H6) (xl H8 8) ?_
  refine aN (nf H6) (ai rfl rfl rfl dG) ?_
  refine w_v (pf (nf H6)) ?_
  refine cD ?_
  refine ah [0,1,5,6,9,23] ?_
  by_cases H9:(c.pc:Int)<0
  ·
   refine bm H9 ?_
   refine a_ ?_
   refine bm H9 ?_
   refine dz ?_
   refine af ?_
   have hE:(A.hereE k c)=7:=if_pos H9
   have hL9:(A.hereL k c)=[]:=by unfold PK.hereL; rw [hE]; exact if_neg (by decide)
   have hW9:(A.hereW k c)=false:=by unfold PK.hereW; rw [hE]; exact if_neg (by decide)
   have hA9:A.hereA k c=A:=by unfold PK.hereA; rw [hE]; exact if_neg (by decide)
   rw [hL9,hW9,hA9,hE]
   exact ⟨Z,rfl,hZ,none,0,rfl,(H8.b7 [0,1,2,3,4,5,6,9]).nilFl 110 4 askL⟩
  refine br H9 ?_
  refine a_ ?_
  refine w_v (fS H8 8) ?_
  refine l_of (fZ H8 [0,1,2,3,4,5,6,7,8,9] (EK Z A j hZ hI c _) ?_)
  intro n2 k2
  refine w_v (cj (b:=(decide (A.isB c))) rfl rfl) ?_
  refine ae ?_
  rcases ef ((decide (A.isB c))) with H7 | H7
  ·
   have hib9:A.isB c:=of_decide_eq_true H7
   have hir9:0≤c.pc∧c.pc<(A.n:Int):=⟨hib9.1,hib9.2.1⟩
   refine g_cond_f rfl (aa H7) ?_
   refine g_seq ?_
   refine g_aS [] [] k2 (fun n1 H5=>?_)
   refine aU 0 H5 ?_
   refine aU 1 H5 ?_
   refine aU 2 H5 ?_
   refine eY 3 0 H5 ?_
   refine aU 4 H5 ?_
   refine eY 5 8 H5 ?_
   refine bT (v:=.pointer ((Z.hp).map fun q=>q.add (((c.pc).toNat) * 1))) 6 rfl H5 (fun _ _=>eZ ((c.pc).toNat) ((H5.rr 1).some (by omega))) ?_
   obtain ⟨g7,g2⟩:=(H5.rr 1).exL cP ((c.pc).toNat)
   have hhad9:aF A.had c.pc=g7:=gv g2
   refine bT (v:=.bool g7) 7 rfl H5 (fun _ H=>nX ((c.pc).toNat) (H.rr 1) (cP.flAt1 g2 rfl)) ?_
   refine aU 8 H5 ?_
   rcases ef (g7) with H2 | H2
   ·
    refine aZ 9 rfl H2 H5 ?_
    refine aZ 10 rfl H2 H5 ?_
    refine aZ 11 rfl H2 H5 ?_
    refine aZ 12 rfl H2 H5 ?_
    refine aZ 13 rfl H2 H5 ?_
    refine bG (i:=14) ?_
    refine ku H2 ?_
    refine bF H5 ?_
    refine bT (v:=.bool true) 15 rfl H5 (fun _ _=>dH rfl rfl H2 rfl) ?_
    refine aU 16 H5 ?_
    refine fP ?_
    refine aR ?_
    refine ah [0,1,5,6,33] ?_
    refine g_cond_t rfl rfl ?_
    refine dz ?_
    refine af ?_
    have hcb:=sP A k (i:=c.pc) (by omega)
    rw [hcb] at H6
    have hE:(A.hereE k c)=9:=by unfold PK.hereE; rw [if_neg H9,if_neg (fun h9=>h9 H6),if_neg (fun h9=>h9 (of_decide_eq_true H7))]; exact if_pos (by first | (left; rw [hhad9]; assumption) | (right; exact of_decide_eq_true (by assumption)))
    have hL9:(A.hereL k c)=[]:=by unfold PK.hereL; rw [hE]; exact if_neg (by decide)
    have hW9:(A.hereW k c)=false:=by unfold PK.hereW; rw [hE]; exact if_neg (by decide)
    have hA9:A.hereA k c=A:=by unfold PK.hereA; rw [hE]; exact if_neg (by decide)
    rw [hL9,hW9,hA9,hE]
    exact ⟨Z,rfl,hZ,none,0,rfl,(H5.b7 [0,1,2,3,4,5,6,9]).nilFl 110 4 askL⟩
   refine da 9 rfl H2 H5 (fun _ _=>xm) ?_
   refine da 10 rfl H2 H5 (fun _ _=>xn) ?_
   refine da 11 rfl H2 H5 (fun _ _=>xf 7) ?_
   refine da 12 rfl H2 H5 (fun _ H=>xl H 0) ?_
   refine da 13 rfl H2 H5 (fun _ H=>fS H 8) ?_
   refine bG (i:=14) ?_
   refine bZ H5 (cU rfl rfl rfl rfl H2) (aP rfl rfl DK) (zB A.here Z.ep A.here.length Z.ec c (by omega) _ (H5.rr 3)) rfl rfl ?_
   intro n0 g5
   refine bF g5 ?_
   refine bT (v:=.bool ((decide (c∈A.here)))) 15 rfl g5 (fun _ _=>cH rfl rfl H2 rfl) ?_
   refine aU 16 g5 ?_
   refine fP ?_
   refine aR ?_
   refine ah [0,1,5,6,33] ?_
   rcases ef ((decide (c∈A.here))) with h6 | h6
   ·
    refine g_cond_t rfl h6 ?_
    refine dz ?_
    refine af ?_
    have hcb:=sP A k (i:=c.pc) (by omega)
    rw [hcb] at H6
    have hE:(A.hereE k c)=9:=by unfold PK.hereE; rw [if_neg H9,if_neg (fun h9=>h9 H6),if_neg (fun h9=>h9 (of_decide_eq_true H7))]; exact if_pos (by first | (left; rw [hhad9]; assumption) | (right; exact of_decide_eq_true (by assumption)))
    have hL9:(A.hereL k c)=[]:=by unfold PK.hereL; rw [hE]; exact if_neg (by decide)
    have hW9:(A.hereW k c)=false:=by unfold PK.hereW; rw [hE]; exact if_neg (by decide)
    have hA9:A.hereA k c=A:=by unfold PK.hereA; rw [hE]; exact if_neg (by decide)
    rw [hL9,hW9,hA9,hE]
    exact ⟨Z,rfl,hZ,none,0,rfl,(g5.b7 [0,1,2,3,4,5,6,9]).nilFl 110 4 askL⟩
   refine g_cond_f rfl h6 ?_
   refine g_seq ?_
   refine g_aM [] [8] [] g5 (fun m9 k1=>?_)
   have x1:=k1.tk [8]
   refine aU 0 x1 ?_
   refine aU 1 x1 ?_
   refine bT 3 rfl x1 (fun _ H=>fS H 0) ?_
   refine bG (i:=2) ?_
   have k0:=k1.b7 [0,1,2,3,4,5,6,7,8,9]
   refine aG (qP Z A j hZ hI k (by omega) _ (k0.tk [0])) ?_
   rintro _ m8 ⟨g8,x2,rfl,c8⟩
   replace c8:=k0.aI2 [0] c8
   have hmlpa25:=iK A.asked k
   have hal9:=hI.al
   have c7:=c8.ub [1,0,2,3,4]
   refine bW ?_
   refine bF (c7.tk [9]) ?_
   refine bG (i:=4) ?_
   refine cz c7 (zB (bO A.asked k) g8 ((bO A.asked k).length) x2 c (by omega) _ (c7.rr 7)) ?_
   intro m7 g6
   have x0:=g6.tk [9]
   refine bF x0 ?_
   refine bT (v:=.bool (!((decide (c∈(bO A.asked k)))))) 5 rfl x0 (fun _ _=>cj (b:=(decide (c∈(bO A.asked k)))) rfl rfl) ?_
   refine aU 6 x0 ?_
   refine fP ?_
   refine aR ?_
   rcases ef ((decide (c∈(bO A.asked k)))) with h2 | h2
   ·
    refine g_cond_f rfl (aa h2) ?_
    refine a_ ?_
    refine w_v (fS g6 9) ?_
    have b9:=g6.b7 [0,1,2,3,4,5,6,7,8,9,10]
    refine l_of (aG (MR Z A j hZ hI c (by omega) _ (b9.tk [0])) ?_)
    rintro _ m6 ⟨g0,g4,rfl,c6⟩
    replace c6:=b9.aI2 [0] c6
    have holpo34:=kY A.asked c
    have hal9:=hI.al
    have r2:=c6.ub [1,0,2,3,4,5]
    refine bW ?_
    refine aE ?_
    refine cQ (ι:=Nat × Option Addr × Nat × AL × Option Addr × Nat × AL) (fun (i,pq,cq,oz,pv,cv,az)=>[(0,vP Z.g),(1,vI k),(5,vP g1),(6,.slice pq oz.length cq),(59,.slice g0 ((cn A.asked c).length) g4),(60,vI (((cn A.asked c).length:Int))),(61,vI i)]) (fun (i,pq,cq,oz,pv,cv,az) wx=>(i≤(cn A.asked c).length)∧(oz=(((cn A.asked c).take i).filter fun x=>decide (x ≠ k)).map fun x=>(x,c))∧(oz.length≤i)∧(az=zC A.asked c ((cn A.asked c).take i))∧(az.Sublist A.asked)∧S wx [Rw 110 4 pq oz.length cq (fl askL oz),Ob Z.g (.cells #[vI A.n,vI A.pz,vI A.la,.string (A.seed),.bool A.ino,.slice Z.hp A.had.length Z.hc,.slice Z.wp A.wish.length Z.wc,.slice Z.ep A.here.length Z.ec,.slice pv az.length cv,.slice Z.pp Z.rs.length Z.pc] 97 (0,0)),Z1 Z A,Z2 Z A,Z3 Z A,Rw 150 4 pv az.length cv (fl askL az),Z5 Z,bM gW Z.rs,Rw 3 1 g0 ((cn A.asked c).length) g4 (fl cg (cn A.asked c)),Ob g1 (.cells #[vI c.pc,vI c.bg,vI c.ln] 44 (0,0)),aB w (aT [(ZI Z A)])]) (fun (i,pq,cq,oz,pv,cv,az)=>((cn A.asked c).length) - i) (0,none,0,[],Z.ap,Z.ac,A.asked) ⟨Nat.zero_le _,rfl,(Nat.le_refl 0),rfl,(List.Sublist.refl _),(r2.tk [9,0,1,2,3,4,5,6,7,10,11])⟩ ?_
    rintro ⟨i,pq,cq,oz,pv,cv,az⟩ m5 ⟨hi,hoz,hol,haz,hsub,h5⟩
    refine ah [0,1,5,6,59,60,61] ?_
    have hal8:az.length≤400 * j:=Nat.le_trans hsub.length_le hI.al
    refine aC ?_
    refine g_seq ?_
    by_cases g3:((i:Int):Int)<((cn A.asked c).length:Int)
    ·
     refine bm g3 ?_
     refine aQ ?_
     refine w_v (iH i (h5.rr 8)) ?_
     obtain ⟨h0,h1⟩:=(h5.rr 8).exL bE i
     refine w_v (nX i (h5.rr 8) (bE.flAt1 h1 rfl)) ?_
     refine a_ ?_
     refine bP (v:=.bool (!decide ((h0:Int)=k))) (hb:=eh) ?_
     refine cD ?_
     by_cases h4:(h0:Int)=k
     ·
      refine kw h4 ?_
      refine aQ ?_
      refine w_v (fS h5 9) ?_
      refine l_of (fC gX #[vI c.pc,vI c.bg,vI c.ln] h5 ?_)
      intro q2 m4 r1
      have r0:=S.oF cN 1 [c] r1
      have b8:=r0.b7 [2,3,4,5,6,7,8,0,1,9,10,11]
      refine l_of (aG (wM ({ Z with ap:=pv,ac:=cv }:ZP) ({ A with asked:=az }:PK) j hZ (bQ.sub hI hsub) h0 ([c]) (some ⟨q2,0,none⟩) 1 1 (by omega) (by omega) _ (b8.tk [0,1])) ?_)
      rintro _ m3 ⟨x4,x6,rfl,x9⟩
      replace x9:=b8.aI2 [0,1] x9
      have q9:=x9.ub [0,1,2,3,4,5]
      refine bW ?_
      refine aC ?_
      refine ah [0,1,5,6,59,60,61] ?_
      refine aR ?_
      refine gI i ?_
      refine ae ?_
      refine bD (i:=(i,pq,cq,oz,pv,cv,az)) ((i+1),pq,cq,oz,x4,x6,(cx az h0 fun x=>decide (x∈[c]))) ⟨by omega,(by rw [aj h1,List.filter_append,List.filter_cons,if_neg (by simp [h4]),List.filter_nil,List.append_nil]; exact hoz),(by first | omega | (simp only [List.length_append,List.length_cons,List.length_nil]; omega)),(by rw [aj h1,qZ,← haz]),(by rw [haz] at hsub ⊢; exact (jU _ _ _).trans hsub),(q9.tk [8,0,1,2,3,4,5,6,9,10,11])⟩
     refine mX h4 ?_
     refine aC ?_
     refine w_v (fS h5 9) ?_
     refine w_v (v:=.agg #[vI h0,vI c.pc,vI c.bg,vI c.ln]) (j4) ?_
     refine l_of (fC Mh #[vI h0,vI c.pc,vI c.bg,vI c.ln] h5 ?_)
     intro u0 m2 b6
     have hln62a:=(b6.rr 1).lenL lC
     have hln62:(oz++[((h0,c):Int × aV)]).length=oz.length+1:=by simp only [List.length_append,List.length_cons,List.length_nil] <;> omega
     refine l_of (fE Hd [((h0,c):Int × aV)] lC b6 1 0 ?_)
     intro q0 q3 m1 b2
     refine ae ?_
     refine ah [0,1,5,6,11,59,60,61] ?_
     refine aC ?_
     refine w_v (fS b2 10) ?_
     refine l_of (fC gX #[vI c.pc,vI c.bg,vI c.ln] b2 ?_)
     intro q1 m0 q8
     have q7:=S.oF cN 1 [c] q8
     have b1:=q7.b7 [3,4,5,6,7,8,9,0,1,2,10,11,12]
     refine l_of (aG (wM ({ Z with ap:=pv,ac:=cv }:ZP) ({ A with asked:=az }:PK) j hZ (bQ.sub hI hsub) h0 ([c]) (some ⟨q1,0,none⟩) 1 1 (by omega) (by omega) _ (b1.tk [0,1])) ?_)
     rintro _ k9 ⟨x3,x5,rfl,x8⟩
     replace x8:=b1.aI2 [0,1] x8
     have q6:=x8.ub [0,1,2,3,4,5,6]
     refine bW ?_
     refine aE ?_
     refine gI i ?_
     refine ae ?_
     refine bD (i:=(i,pq,cq,oz,pv,cv,az)) ((i+1),q0,q3,(oz++[((h0,c):Int × aV)]),x3,x5,(cx az h0 fun x=>decide (x∈[c]))) ⟨by omega,(by rw [aj h1,List.filter_append,List.filter_cons,if_pos (by simp [h4]),List.filter_nil,List.map_append,← hoz]; rfl),(by first | omega | (simp only [List.length_append,List.length_cons,List.length_nil]; omega)),(by rw [aj h1,qZ,← haz]),(by rw [haz] at hsub ⊢; exact (jU _ _ _).trans hsub),(q6.tk [9,0,1,2,3,4,5,6,10,11,12])⟩
    refine br g3 ?_
    refine aR ?_
    rw [List.take_of_length_le (by omega)] at haz hoz
    rw [BG] at haz
    subst haz
    clear hsub
    have hhl9:=hI.hl
    refine aE ?_
    refine g_seq ?_
    refine g_aM [] [1,9] [10] h5 (fun k7 b0=>?_)
    have h7:=b0.tk [1,9]
    refine aU 0 h7 ?_
    refine aU 1 h7 ?_
    refine aU 2 h7 ?_
    refine aU 3 h7 ?_
    refine eY 4 0 h7 ?_
    refine bT 5 rfl h7 (fun _ H=>fS H 1) ?_
    refine bG (i:=6) ?_
    refine fC gX #[vI c.pc,vI c.bg,vI c.ln] b0 ?_
    intro r7 k6 x7
    refine bF (x7.tk [2,10]) ?_
    refine bG (i:=7) ?_
    have hln82a:=(x7.rr 5).lenL cN
    have hln82:(A.here++[c]).length=A.here.length+1:=by simp only [List.length_append,List.length_cons,List.length_nil] <;> omega
    refine fE kN [c] cN x7 5 0 ?_
    intro c9 w8 k5 w9
    have g9:=w9.tk [2,10]
    refine bF g9 ?_
    refine bG (i:=8) ?_
    refine iW xn ?_
    refine bF g9 ?_
    refine bG (i:=9) ?_
    refine iW yq ?_
    refine bF g9 ?_
    refine bG (i:=10) ?_
    refine eu w9 2 ?_
    intro k4 q5
    have hcb:=sP A k (i:=c.pc) (by omega)
    rw [hcb] at H6
    have hE:(A.hereE k c)=0:=by unfold PK.hereE; rw [if_neg H9,if_neg (fun h9=>h9 H6),if_neg (fun h9=>h9 (of_decide_eq_true H7)),if_neg (by rintro (h9 | h9) <;> simp_all)]; exact if_neg (fun h9=>h9 (gp.2 (gq.1 (of_decide_eq_true h2))))
    have hA9:A.hereA k c=({ A with asked:=(py A.asked c),here:=(A.here++[c]) }:PK):=if_pos hE
    have hI3:bQ (j+1) ({ A with asked:=(py A.asked c),here:=(A.here++[c]) }:PK):=by have h9:=hI.here k c; rwa [hA9] at h9
    refine m_ rfl ?_
    refine fP ?_
    refine aR ?_
    refine ah [0,5,6] ?_
    refine aQ ?_
    refine l_of (fZ q5 [2,3,4,5,6,7,8,0,1,9,10,11] (DU ({ Z with ap:=pv,ac:=cv,ep:=c9,ec:=w8 }:ZP) ({ A with asked:=(py A.asked c),here:=(A.here++[c]) }:PK) (j+1) hZ hI3 c.pc ⟨by omega,by have h9:=(of_decide_eq_true H7:A.isB c).2.1; exact h9⟩ (by omega) _) ?_)
    intro k3 q4
    refine aQ ?_
    refine af ?_
    have hL9:(A.hereL k c)=oz:=by unfold PK.hereL; rw [if_pos hE]; exact hoz.symm
    have hW9:(A.hereW k c)=({ A with asked:=(py A.asked c),here:=(A.here++[c]) }:PK).wholeB c.pc:=by unfold PK.hereW; rw [if_pos hE,hA9]
    rw [hL9,hW9,hA9,hE]
    exact ⟨({ Z with ap:=pv,ac:=cv,ep:=c9,ec:=w8 }:ZP),rfl,hZ,_,_,rfl,((S.big (L:=[_,_,_,_,_,_,_]) (q4.tk [0,1,2,3,4,5,6,8,11])).tk [1,0,2])⟩
   refine g_cond_t rfl (aa h2) ?_
   refine dz ?_
   refine af ?_
   have hcb:=sP A k (i:=c.pc) (by omega)
   rw [hcb] at H6
   have hE:(A.hereE k c)=20:=by unfold PK.hereE; rw [if_neg H9,if_neg (fun h9=>h9 H6),if_neg (fun h9=>h9 (of_decide_eq_true H7)),if_neg (by rintro (h9 | h9) <;> simp_all)]; exact if_pos (fun h9=>of_decide_eq_false h2 (gq.2 (gp.1 h9)))
   have hL9:(A.hereL k c)=[]:=by unfold PK.hereL; rw [hE]; exact if_neg (by decide)
   have hW9:(A.hereW k c)=false:=by unfold PK.hereW; rw [hE]; exact if_neg (by decide)
   have hA9:A.hereA k c=A:=by unfold PK.hereA; rw [hE]; exact if_neg (by decide)
   rw [hL9,hW9,hA9,hE]
   exact ⟨Z,rfl,hZ,none,0,rfl,(g6.b7 [0,1,2,3,4,5,6,10]).nilFl 110 4 askL⟩
  refine g_cond_t rfl (aa H7) ?_
  refine dz ?_
  refine af ?_
  have hcb:=sP A k (i:=c.pc) (by omega)
  rw [hcb] at H6
  have hE:(A.hereE k c)=1:=by unfold PK.hereE; rw [if_neg H9,if_neg (fun h9=>h9 H6)]; exact if_pos (of_decide_eq_false H7)
  have hL9:(A.hereL k c)=[]:=by unfold PK.hereL; rw [hE]; exact if_neg (by decide)
  have hW9:(A.hereW k c)=false:=by unfold PK.hereW; rw [hE]; exact if_neg (by decide)
  have hA9:A.hereA k c=A:=by unfold PK.hereA; rw [hE]; exact if_neg (by decide)
  rw [hL9,hW9,hA9,hE]
  exact ⟨Z,rfl,hZ,none,0,rfl,(k2.b7 [0,1,2,3,4,5,6,9]).nilFl 110 4 askL⟩
 iterate 3 refine dh (nt H6) ?_
 refine w_v (pt (nt H6)) ?_
 refine cD ?_
 refine ah [0,1,5,6,9,23] ?_
 refine g_cond_t rfl rfl ?_
 refine a_ ?_
 by_cases h3:(c.pc:Int)<0
 ·
  refine bm h3 ?_
  refine dz ?_
  refine af ?_
  have hE:(A.hereE k c)=7:=if_pos h3
  have hL9:(A.hereL k c)=[]:=by unfold PK.hereL; rw [hE]; exact if_neg (by decide)
  have hW9:(A.hereW k c)=false:=by unfold PK.hereW; rw [hE]; exact if_neg (by decide)
  have hA9:A.hereA k c=A:=by unfold PK.hereA; rw [hE]; exact if_neg (by decide)
  rw [hL9,hW9,hA9,hE]
  exact ⟨Z,rfl,hZ,none,0,rfl,(H8.b7 [0,1,2,3,4,5,6,9]).nilFl 110 4 askL⟩
 refine br h3 ?_
 refine cS ?_
 refine af ?_
 have hcb:=sP A k (i:=c.pc) (by omega)
 rw [hcb] at H6
 rw [hcb]
 have hE:(A.hereE k c)=A.boE k c.pc:=by unfold PK.hereE; rw [if_neg h3]; exact if_pos H6
 have hL9:(A.hereL k c)=[]:=by unfold PK.hereL; rw [hE]; exact if_neg H6
 have hW9:(A.hereW k c)=false:=by unfold PK.hereW; rw [hE]; exact if_neg H6
 have hA9:A.hereA k c=A:=by unfold PK.hereA; rw [hE]; exact if_neg H6
 rw [hL9,hW9,hA9,hE]
 exact ⟨Z,rfl,hZ,none,0,rfl,(H8.b7 [0,1,2,3,4,5,6,9]).nilFl 110 4 askL⟩
end Go.Proofs.YthmmfhdpkddniaaGreatDoor
