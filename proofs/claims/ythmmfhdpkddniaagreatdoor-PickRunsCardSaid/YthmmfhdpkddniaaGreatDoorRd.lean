import Derived.Test.YthmmfhdpkddniaaGreatDoorRc
set_option maxRecDepth 20000
set_option maxHeartbeats 4000000
set_option linter.all false
namespace Go.Proofs.YthmmfhdpkddniaaGreatDoor
open Go.RowKit
theorem RI:aI Tryz.prog 96=true:=by kernel_rfl
theorem sH:u_ Tryz.prog 40 0=some 0:=by kernel_rfl
theorem qd:kf Tryz.prog 125=some (some (.agg #[.int .i64 0,.slice none 0 0,.slice none 0 0,.slice none 0 0,.bool false,.bool false]),6,88):=by kernel_rfl
theorem pO:kf Tryz.prog 4=some (some (.bool false),1,1):=by kernel_rfl
theorem EW:jW Tryz.prog 40=some 2:=by kernel_rfl
theorem M5 (Z:ZP) (A:PK) (j:Nat) (hZ:fU Z A) (hI:bQ j A) (i:Int) (x:o_)  (w:World) (HS:S w [(ZI Z A)]):Calls Tryz.prog 16 #[vP Z.g,vI i,.agg #[vI x.lv,vI x.du]] w fun e w'=>∃ (Y:ZP),Y.g=Z.g∧fU Y (A.wishA i x)∧e=.returned (vI (A.wishE i x))∧S w' ([(ZI Y (A.wishA i x))]++[aB w (aT [(ZI Z A)])]):=by
 have H0:=HS.bu
 have h8:=hI.a8
 refine en Tryz.func16 ?_
 refine ah [0,1,2] ?_
 refine iF ?_
 refine l_of (fq H0 ?_)
 intro g1 h5 H3
 refine cp ?_
 by_cases H2:(i:Int)<0
 ·
  iterate 6 refine dh (dt H2) ?_
  refine w_v (pt (dt H2)) ?_
  refine cJ ?_
  iterate 3 refine dh rfl ?_
  refine w_v (pt rfl) ?_
  refine cJ ?_
  iterate 3 refine dh rfl ?_
  refine w_v (pt rfl) ?_
  refine cJ ?_
  iterate 3 refine dh rfl ?_
  refine w_v (pt rfl) ?_
  refine cJ ?_
  iterate 3 refine dh rfl ?_
  refine w_v (pt rfl) ?_
  refine cD ?_
  refine ah [0,1,5,36] ?_
  refine g_cond_t rfl rfl ?_
  refine aQ ?_
  refine af ?_
  have h7:(i<0∨(A.n:Int)≤i)∨(x.lv<0∨7<x.lv)∨(x.du<0∨1000000000<x.du):=by omega
  have hE:A.wishE i x=7:=if_pos h7
  have hA9:A.wishA i x=A:=by unfold PK.wishA; rw [hE]; exact if_neg (by decide)
  rw [hA9]
  exact ⟨Z,rfl,hZ,(by rw [hE]; rfl),(H3.b7 [1,2,3,4,5,6,7,8])⟩
 iterate 2 refine aN (df H2) xm ?_
 refine aN (df H2) xn ?_
 refine aN (df H2) (xf 0) ?_
 refine aN (df H2) (xl H3 1) ?_
 refine aN (df H2) (ai rfl rfl rfl nm) ?_
 refine w_v (pf (df H2)) ?_
 refine cJ ?_
 by_cases H8:((A.n:Int):Int)≤i
 ·
  iterate 3 refine dh (dt H8) ?_
  refine w_v (pt (dt H8)) ?_
  refine cJ ?_
  iterate 3 refine dh rfl ?_
  refine w_v (pt rfl) ?_
  refine cJ ?_
  iterate 3 refine dh rfl ?_
  refine w_v (pt rfl) ?_
  refine cJ ?_
  iterate 3 refine dh rfl ?_
  refine w_v (pt rfl) ?_
  refine cD ?_
  refine ah [0,1,5,36] ?_
  refine g_cond_t rfl rfl ?_
  refine aQ ?_
  refine af ?_
  have h7:(i<0∨(A.n:Int)≤i)∨(x.lv<0∨7<x.lv)∨(x.du<0∨1000000000<x.du):=by omega
  have hE:A.wishE i x=7:=if_pos h7
  have hA9:A.wishA i x=A:=by unfold PK.wishA; rw [hE]; exact if_neg (by decide)
  rw [hA9]
  exact ⟨Z,rfl,hZ,(by rw [hE]; rfl),(H3.b7 [1,2,3,4,5,6,7,8])⟩
 refine aN (df H8) (xf 0) ?_
 refine aN (df H8) (xl H3 0) ?_
 refine aN (df H8) (ai rfl rfl rfl dG) ?_
 refine w_v (pf (df H8)) ?_
 refine cJ ?_
 by_cases H7:(x.lv:Int)<0
 ·
  iterate 3 refine dh (dt H7) ?_
  refine w_v (pt (dt H7)) ?_
  refine cJ ?_
  iterate 3 refine dh rfl ?_
  refine w_v (pt rfl) ?_
  refine cJ ?_
  iterate 3 refine dh rfl ?_
  refine w_v (pt rfl) ?_
  refine cD ?_
  refine ah [0,1,5,36] ?_
  refine g_cond_t rfl rfl ?_
  refine aQ ?_
  refine af ?_
  have h7:(i<0∨(A.n:Int)≤i)∨(x.lv<0∨7<x.lv)∨(x.du<0∨1000000000<x.du):=by omega
  have hE:A.wishE i x=7:=if_pos h7
  have hA9:A.wishA i x=A:=by unfold PK.wishA; rw [hE]; exact if_neg (by decide)
  rw [hA9]
  exact ⟨Z,rfl,hZ,(by rw [hE]; rfl),(H3.b7 [1,2,3,4,5,6,7,8])⟩
 refine aN (df H7) (xf 0) ?_
 refine aN (df H7) (xl H3 0) ?_
 refine aN (df H7) (ai rfl rfl rfl fK) ?_
 refine w_v (pf (df H7)) ?_
 refine cJ ?_
 by_cases H6:(7:Int)<x.lv
 ·
  iterate 3 refine dh (dt H6) ?_
  refine w_v (pt (dt H6)) ?_
  refine cJ ?_
  iterate 3 refine dh rfl ?_
  refine w_v (pt rfl) ?_
  refine cD ?_
  refine ah [0,1,5,36] ?_
  refine g_cond_t rfl rfl ?_
  refine aQ ?_
  refine af ?_
  have h7:(i<0∨(A.n:Int)≤i)∨(x.lv<0∨7<x.lv)∨(x.du<0∨1000000000<x.du):=by omega
  have hE:A.wishE i x=7:=if_pos h7
  have hA9:A.wishA i x=A:=by unfold PK.wishA; rw [hE]; exact if_neg (by decide)
  rw [hA9]
  exact ⟨Z,rfl,hZ,(by rw [hE]; rfl),(H3.b7 [1,2,3,4,5,6,7,8])⟩
 refine aN (df H6) (xf 1) ?_
 refine aN (df H6) (xl H3 0) ?_
 refine aN (df H6) (ai rfl rfl rfl dG) ?_
 refine w_v (pf (df H6)) ?_
 refine cJ ?_
 by_cases H5:(x.du:Int)<0
 ·
  iterate 3 refine dh (dt H5) ?_
  refine w_v (pt (dt H5)) ?_
  refine cD ?_
  refine ah [0,1,5,36] ?_
  refine g_cond_t rfl rfl ?_
  refine aQ ?_
  refine af ?_
  have h7:(i<0∨(A.n:Int)≤i)∨(x.lv<0∨7<x.lv)∨(x.du<0∨1000000000<x.du):=by omega
  have hE:A.wishE i x=7:=if_pos h7
  have hA9:A.wishA i x=A:=by unfold PK.wishA; rw [hE]; exact if_neg (by decide)
  rw [hA9]
  exact ⟨Z,rfl,hZ,(by rw [hE]; rfl),(H3.b7 [1,2,3,4,5,6,7,8])⟩
 refine aN (df H5) (xf 1) ?_
 refine aN (df H5) (xl H3 0) ?_
 refine aN (df H5) (ai rfl rfl rfl fK) ?_
 refine w_v (pf (df H5)) ?_
 refine cD ?_
 refine ah [0,1,5,36] ?_
 by_cases h1:(1000000000:Int)<x.du
 ·
  refine bm h1 ?_
  refine aQ ?_
  refine af ?_
  have h7:(i<0∨(A.n:Int)≤i)∨(x.lv<0∨7<x.lv)∨(x.du<0∨1000000000<x.du):=by omega
  have hE:A.wishE i x=7:=if_pos h7
  have hA9:A.wishA i x=A:=by unfold PK.wishA; rw [hE]; exact if_neg (by decide)
  rw [hA9]
  exact ⟨Z,rfl,hZ,(by rw [hE]; rfl),(H3.b7 [1,2,3,4,5,6,7,8])⟩
 refine br h1 ?_
 refine ae ?_
 refine g_seq ?_
 refine g_aM [] [0,1] [7] H3 (fun h2 h0=>?_)
 have H4:=h0.tk [0,1]
 refine aU 0 H4 ?_
 refine aU 1 H4 ?_
 refine aU 2 H4 ?_
 refine eY 3 1 H4 ?_
 refine aU 4 H4 ?_
 refine bT 5 rfl H4 (fun _ H=>fS H 0) ?_
 refine bG (i:=6) ?_
 refine iW (iH ((i).toNat) (h0.rr 3)) ?_
 refine bF H4 ?_
 refine bG (i:=7) ?_
 refine mH (j:=((i).toNat)) lA x h0 3 (bh rfl) rfl rfl rfl rfl rfl rfl EW (by omega) ?_
 intro H9 h4
 have h3:S H9 [Ob g1 (.cells #[vI x.lv,vI x.du] 40 (0,0)),Ob Z.g (.cells #[vI A.n,vI A.pz,vI A.la,.string (A.seed),.bool A.ino,.slice Z.hp A.had.length Z.hc,.slice Z.wp ((A.wish.set (i).toNat x).length) Z.wc,.slice Z.ep A.here.length Z.ec,.slice Z.ap A.asked.length Z.ac,.slice Z.pp Z.rs.length Z.pc] 97 (0,0)),Z1 Z A,Rw 40 2 Z.wp ((A.wish.set (i).toNat x).length) Z.wc (fl jC (A.wish.set (i).toNat x)),Z3 Z A,Z4 Z A,Z5 Z,bM gW Z.rs,aB w (aT [(ZI Z A)])]:=by rw [show (A.wish.set (i).toNat x).length=A.wish.length from List.length_set]; exact h4
 refine m_ rfl ?_
 refine fP ?_
 refine aQ ?_
 refine af ?_
 have h7:¬ ((i<0∨(A.n:Int)≤i)∨(x.lv<0∨7<x.lv)∨(x.du<0∨1000000000<x.du)):=by omega
 have hE:A.wishE i x=0:=if_neg h7
 have hA9:A.wishA i x={ A with wish:=A.wish.set i.toNat x }:=if_pos hE
 rw [hA9,hE]
 exact ⟨Z,rfl,hZ,rfl,(h3.b7 [1,2,3,4,5,6,7,8])⟩
theorem Om (Z:ZP) (A:PK) (j:Nat) (hZ:fU Z A) (hI:bQ j A) (k:Int)  (w:World) (HS:S w [(ZI Z A)]):Calls Tryz.prog 61 #[vP Z.g,vI k] w fun e w'=>∃ (Y:ZP),Y.g=Z.g∧fU Y (A.joinA k)∧e=.returned (vI (A.joinE k))∧S w' ([(ZI Y (A.joinA k))]++[aB w (aT [(ZI Z A)])]):=by
 have H0:=HS.bu
 have h8:=hI.a8
 have hrs9:Z.rs.length≤100:=by have h9:=hI.pl; rw [← hZ,List.length_map] at h9; exact h9
 refine en Tryz.func61 ?_
 refine ah [0,1] ?_
 refine cp ?_
 refine l_of (fZ H0 [0,1,2,3,4,5,6,7] (oQ Z A j hZ hI k _) ?_)
 intro d4 H4
 refine dz ?_
 by_cases h2:((A.peE k):Int)=7
 ·
  refine bm h2 ?_
  refine cp ?_
  refine af ?_
  have h7:k<1∨1000<k:=by have h9:=h2; unfold PK.peE at h9; split at h9; assumption; split at h9 <;> cases h9
  have hE:A.joinE k=7:=if_pos h7
  have hA9:A.joinA k=A:=by unfold PK.joinA; rw [hE]; exact if_neg (by decide)
  rw [hA9]
  exact ⟨Z,rfl,hZ,(by rw [hE,h2]; rfl),(H4.b7 [0,1,2,3,4,5,6,7])⟩
 refine br h2 ?_
 refine aQ ?_
 by_cases h3:((A.peE k):Int)=0
 ·
  refine bm h3 ?_
  refine aC ?_
  refine ah [4] ?_
  refine aC ?_
  refine af ?_
  obtain ⟨a3,a2,i9,p9,hp9,hpk9,hf9⟩:=vh h3
  have hE:A.joinE k=6:=by unfold PK.joinE; rw [if_neg (by omega),hf9]; rfl
  have hA9:A.joinA k=A:=by unfold PK.joinA; rw [hE]; exact if_neg (by decide)
  rw [hA9]
  exact ⟨Z,rfl,hZ,(by rw [hE]; rfl),(H4.b7 [0,1,2,3,4,5,6,7])⟩
 refine br h3 ?_
 refine eG ?_
 refine ah [0,1,16] ?_
 by_cases k7:(100:Int)≤(Z.rs.length:Int)
 ·
  refine bm k7 ?_
  refine a_ ?_
  refine af ?_
  have hnp:¬ (k<1∨1000<k):=fun h9=>h2 (if_pos h9)
  have hnf:fD A.peers k=none:=by have h9:=h3; unfold PK.peE at h9; rw [if_neg hnp] at h9; cases hq:fD A.peers k with | none=>rfl | some p=>rw [hq] at h9; exact absurd rfl h9
  have hpl9:Z.rs.length=A.peers.length:=by rw [← hZ,List.length_map]
  have hE:A.joinE k=4:=by unfold PK.joinE; rw [if_neg hnp,hnf]; show (if 100≤A.peers.length then (4:Int) else 0)=4; exact if_pos (by omega)
  have hA9:A.joinA k=A:=by unfold PK.joinA; rw [hE]; exact if_neg (by decide)
  rw [hA9]
  exact ⟨Z,rfl,hZ,(by rw [hE]; rfl),(H4.b7 [0,1,2,3,4,5,6,7])⟩
 refine br k7 ?_
 refine aC ?_
 refine g_seq ?_
 refine g_cut (ι:=Nat × Nat × Nat × Option Addr × Nat) (fun (g1,g2,g3,rp,rc)=>[]) (fun (g1,g2,g3,rp,rc) wx=>S wx [Rw 4 1 (some ⟨g1,0,none⟩) ((List.replicate A.n false).length) A.n (fl cG (List.replicate A.n false)),Rw 4 1 (some ⟨g2,0,none⟩) ((List.replicate A.n false).length) A.n (fl cG (List.replicate A.n false)),Rw 4 1 (some ⟨g3,0,none⟩) ((List.replicate A.n false).length) A.n (fl cG (List.replicate A.n false)),Ob Z.g (.cells #[vI A.n,vI A.pz,vI A.la,.string (A.seed),.bool A.ino,.slice Z.hp A.had.length Z.hc,.slice Z.wp A.wish.length Z.wc,.slice Z.ep A.here.length Z.ec,.slice Z.ap A.asked.length Z.ac,.slice rp ((Z.rs++[(⟨k,(some ⟨g1,0,none⟩),A.n,(List.replicate A.n false),(some ⟨g2,0,none⟩),A.n,(List.replicate A.n false),(some ⟨g3,0,none⟩),A.n,(List.replicate A.n false),false,false⟩:Rp)]).length) rc] 97 (0,0)),Z1 Z A,Z2 Z A,Z3 Z A,Z4 Z A,Rw 125 6 rp ((Z.rs++[(⟨k,(some ⟨g1,0,none⟩),A.n,(List.replicate A.n false),(some ⟨g2,0,none⟩),A.n,(List.replicate A.n false),(some ⟨g3,0,none⟩),A.n,(List.replicate A.n false),false,false⟩:Rp)]).length) rc (fl mQ (Z.rs++[(⟨k,(some ⟨g1,0,none⟩),A.n,(List.replicate A.n false),(some ⟨g2,0,none⟩),A.n,(List.replicate A.n false),(some ⟨g3,0,none⟩),A.n,(List.replicate A.n false),false,false⟩:Rp)])),bM gW Z.rs,aB w (aT [(ZI Z A)])]) ?_ ?_
 ·
  refine g_aM [] [0] [26] H4 (fun d3 H9=>?_)
  have H2:=H9.tk [0]
  refine aU 0 H2 ?_
  refine aU 1 H2 ?_
  refine aU 2 H2 ?_
  refine aU 3 H2 ?_
  refine eY 4 0 H2 ?_
  refine aU 5 H2 ?_
  refine aU 6 H2 ?_
  refine aU 7 H2 ?_
  refine aU 8 H2 ?_
  refine eY 9 0 H2 ?_
  refine aU 11 H2 ?_
  refine aU 12 H2 ?_
  refine aU 13 H2 ?_
  refine eY 14 0 H2 ?_
  refine aU 16 H2 ?_
  refine aU 17 H2 ?_
  refine aU 18 H2 ?_
  refine eY 19 0 H2 ?_
  refine uh (i:=10) (j:=15) (k:=20) (by kernel_rfl) rfl rfl rfl ?_ ?_ ?_
  ·
   refine gk A.n H9 (bh rfl) rfl rfl rfl rfl rfl Tryz.underlying38 pO (by omega) ?_
   intro H7 y4 b6
   refine bF (b6.tk [1]) ?_
   refine lH (i:=15) (j:=20) (by kernel_rfl) rfl rfl ?_ ?_
   ·
    refine gk A.n b6 (bh rfl) rfl rfl rfl rfl rfl Tryz.underlying38 pO (by omega) ?_
    intro x0 y3 q4
    refine bF (q4.tk [2]) ?_
    refine bG (i:=20) ?_
    refine gk A.n q4 (bh rfl) rfl rfl rfl rfl rfl Tryz.underlying38 pO (by omega) ?_
    intro g9 y2 q3
    have m2:=q3.tk [3]
    refine bF m2 ?_
    refine bT (v:=.agg #[vI k,.slice (some ⟨H7,0,none⟩) ((List.replicate A.n false).length) A.n,.slice (some ⟨x0,0,none⟩) ((List.replicate A.n false).length) A.n,.slice (some ⟨g9,0,none⟩) ((List.replicate A.n false).length) A.n,.bool false,.bool false]) 21 rfl m2 (fun _ _=>j4) ?_
    refine bG (i:=22) ?_
    refine fC na #[vI k,.slice (some ⟨H7,0,none⟩) ((List.replicate A.n false).length) A.n,.slice (some ⟨x0,0,none⟩) ((List.replicate A.n false).length) A.n,.slice (some ⟨g9,0,none⟩) ((List.replicate A.n false).length) A.n,.bool false,.bool false] q3 ?_
    intro e0 y1 b2
    refine bF (b2.tk [4]) ?_
    refine bG (i:=23) ?_
    have hln26a:=(b2.rr 9).lenL mR
    have hln26:(Z.rs++[(⟨k,(some ⟨H7,0,none⟩),A.n,(List.replicate A.n false),(some ⟨x0,0,none⟩),A.n,(List.replicate A.n false),(some ⟨g9,0,none⟩),A.n,(List.replicate A.n false),false,false⟩:Rp)]).length=Z.rs.length+1:=by simp only [List.length_append,List.length_cons,List.length_nil] <;> omega
    refine fE qd [(⟨k,(some ⟨H7,0,none⟩),A.n,(List.replicate A.n false),(some ⟨x0,0,none⟩),A.n,(List.replicate A.n false),(some ⟨g9,0,none⟩),A.n,(List.replicate A.n false),false,false⟩:Rp)] mR b2 9 0 ?_
    intro y9 j0 y0 q2
    have c6:=q2.tk [4]
    refine bF c6 ?_
    refine bG (i:=24) ?_
    refine iW xn ?_
    refine bF c6 ?_
    refine bG (i:=25) ?_
    refine iW yq ?_
    refine bF c6 ?_
    refine bG (i:=26) ?_
    refine eu q2 4 ?_
    intro v9 d2
    refine m_ rfl ?_
    refine fP ?_
    refine aR ?_
    refine iu (H7,x0,g9,y9,j0) ?_ ?_
    · exact trivial
    exact (d2.tk [3,2,1,4,5,6,7,8,9,10,11])
   refine gk A.n b6 (bh rfl) rfl rfl rfl rfl rfl Tryz.underlying38 pO (by omega) ?_
   intro g8 v8 q1
   refine bF (q1.tk [2]) ?_
   refine bG (i:=15) ?_
   refine gk A.n q1 (bh rfl) rfl rfl rfl rfl rfl Tryz.underlying38 pO (by omega) ?_
   intro g7 v7 q0
   have m1:=q0.tk [3]
   refine bF m1 ?_
   refine bT (v:=.agg #[vI k,.slice (some ⟨H7,0,none⟩) ((List.replicate A.n false).length) A.n,.slice (some ⟨g7,0,none⟩) ((List.replicate A.n false).length) A.n,.slice (some ⟨g8,0,none⟩) ((List.replicate A.n false).length) A.n,.bool false,.bool false]) 21 rfl m1 (fun _ _=>j4) ?_
   refine bG (i:=22) ?_
   refine fC na #[vI k,.slice (some ⟨H7,0,none⟩) ((List.replicate A.n false).length) A.n,.slice (some ⟨g7,0,none⟩) ((List.replicate A.n false).length) A.n,.slice (some ⟨g8,0,none⟩) ((List.replicate A.n false).length) A.n,.bool false,.bool false] q0 ?_
   intro a9 v6 b1
   refine bF (b1.tk [4]) ?_
   refine bG (i:=23) ?_
   have hln42a:=(b1.rr 9).lenL mR
   have hln42:(Z.rs++[(⟨k,(some ⟨H7,0,none⟩),A.n,(List.replicate A.n false),(some ⟨g7,0,none⟩),A.n,(List.replicate A.n false),(some ⟨g8,0,none⟩),A.n,(List.replicate A.n false),false,false⟩:Rp)]).length=Z.rs.length+1:=by simp only [List.length_append,List.length_cons,List.length_nil] <;> omega
   refine fE qd [(⟨k,(some ⟨H7,0,none⟩),A.n,(List.replicate A.n false),(some ⟨g7,0,none⟩),A.n,(List.replicate A.n false),(some ⟨g8,0,none⟩),A.n,(List.replicate A.n false),false,false⟩:Rp)] mR b1 9 0 ?_
   intro y8 i8 v5 n2
   have x9:=n2.tk [4]
   refine bF x9 ?_
   refine bG (i:=24) ?_
   refine iW xn ?_
   refine bF x9 ?_
   refine bG (i:=25) ?_
   refine iW yq ?_
   refine bF x9 ?_
   refine bG (i:=26) ?_
   refine eu n2 4 ?_
   intro v4 d1
   refine m_ rfl ?_
   refine fP ?_
   refine aR ?_
   refine iu (H7,g7,g8,y8,i8) ?_ ?_
   · exact trivial
   exact (d1.tk [3,1,2,4,5,6,7,8,9,10,11])
  ·
   refine gk A.n H9 (bh rfl) rfl rfl rfl rfl rfl Tryz.underlying38 pO (by omega) ?_
   intro H6 v3 b0
   refine bF (b0.tk [1]) ?_
   refine lH (i:=10) (j:=20) (by kernel_rfl) rfl rfl ?_ ?_
   ·
    refine gk A.n b0 (bh rfl) rfl rfl rfl rfl rfl Tryz.underlying38 pO (by omega) ?_
    intro g6 v2 n1
    refine bF (n1.tk [2]) ?_
    refine bG (i:=20) ?_
    refine gk A.n n1 (bh rfl) rfl rfl rfl rfl rfl Tryz.underlying38 pO (by omega) ?_
    intro g5 v1 n0
    have m0:=n0.tk [3]
    refine bF m0 ?_
    refine bT (v:=.agg #[vI k,.slice (some ⟨g6,0,none⟩) ((List.replicate A.n false).length) A.n,.slice (some ⟨H6,0,none⟩) ((List.replicate A.n false).length) A.n,.slice (some ⟨g5,0,none⟩) ((List.replicate A.n false).length) A.n,.bool false,.bool false]) 21 rfl m0 (fun _ _=>j4) ?_
    refine bG (i:=22) ?_
    refine fC na #[vI k,.slice (some ⟨g6,0,none⟩) ((List.replicate A.n false).length) A.n,.slice (some ⟨H6,0,none⟩) ((List.replicate A.n false).length) A.n,.slice (some ⟨g5,0,none⟩) ((List.replicate A.n false).length) A.n,.bool false,.bool false] n0 ?_
    intro a7 v0 w9
    refine bF (w9.tk [4]) ?_
    refine bG (i:=23) ?_
    have hln61a:=(w9.rr 9).lenL mR
    have hln61:(Z.rs++[(⟨k,(some ⟨g6,0,none⟩),A.n,(List.replicate A.n false),(some ⟨H6,0,none⟩),A.n,(List.replicate A.n false),(some ⟨g5,0,none⟩),A.n,(List.replicate A.n false),false,false⟩:Rp)]).length=Z.rs.length+1:=by simp only [List.length_append,List.length_cons,List.length_nil] <;> omega
    refine fE qd [(⟨k,(some ⟨g6,0,none⟩),A.n,(List.replicate A.n false),(some ⟨H6,0,none⟩),A.n,(List.replicate A.n false),(some ⟨g5,0,none⟩),A.n,(List.replicate A.n false),false,false⟩:Rp)] mR w9 9 0 ?_
    intro y7 i5 u9 m9
    have x8:=m9.tk [4]
    refine bF x8 ?_
    refine bG (i:=24) ?_
    refine iW xn ?_
    refine bF x8 ?_
    refine bG (i:=25) ?_
    refine iW yq ?_
    refine bF x8 ?_
    refine bG (i:=26) ?_
    refine eu m9 4 ?_
    intro u0 d0
    refine m_ rfl ?_
    refine fP ?_
    refine aR ?_
    refine iu (g6,H6,g5,y7,i5) ?_ ?_
    · exact trivial
    exact (d0.tk [2,3,1,4,5,6,7,8,9,10,11])
   refine gk A.n b0 (bh rfl) rfl rfl rfl rfl rfl Tryz.underlying38 pO (by omega) ?_
   intro g4 r7 m8
   refine bF (m8.tk [2]) ?_
   refine bG (i:=10) ?_
   refine gk A.n m8 (bh rfl) rfl rfl rfl rfl rfl Tryz.underlying38 pO (by omega) ?_
   intro g0 r4 m7
   have k9:=m7.tk [3]
   refine bF k9 ?_
   refine bT (v:=.agg #[vI k,.slice (some ⟨g0,0,none⟩) ((List.replicate A.n false).length) A.n,.slice (some ⟨H6,0,none⟩) ((List.replicate A.n false).length) A.n,.slice (some ⟨g4,0,none⟩) ((List.replicate A.n false).length) A.n,.bool false,.bool false]) 21 rfl k9 (fun _ _=>j4) ?_
   refine bG (i:=22) ?_
   refine fC na #[vI k,.slice (some ⟨g0,0,none⟩) ((List.replicate A.n false).length) A.n,.slice (some ⟨H6,0,none⟩) ((List.replicate A.n false).length) A.n,.slice (some ⟨g4,0,none⟩) ((List.replicate A.n false).length) A.n,.bool false,.bool false] m7 ?_
   intro a6 r3 w8
   refine bF (w8.tk [4]) ?_
   refine bG (i:=23) ?_
   have hln77a:=(w8.rr 9).lenL mR
   have hln77:(Z.rs++[(⟨k,(some ⟨g0,0,none⟩),A.n,(List.replicate A.n false),(some ⟨H6,0,none⟩),A.n,(List.replicate A.n false),(some ⟨g4,0,none⟩),A.n,(List.replicate A.n false),false,false⟩:Rp)]).length=Z.rs.length+1:=by simp only [List.length_append,List.length_cons,List.length_nil] <;> omega
   refine fE qd [(⟨k,(some ⟨g0,0,none⟩),A.n,(List.replicate A.n false),(some ⟨H6,0,none⟩),A.n,(List.replicate A.n false),(some ⟨g4,0,none⟩),A.n,(List.replicate A.n false),false,false⟩:Rp)] mR w8 9 0 ?_
   intro y6 i4 r2 m6
   have x7:=m6.tk [4]
   refine bF x7 ?_
   refine bG (i:=24) ?_
   refine iW xn ?_
   refine bF x7 ?_
   refine bG (i:=25) ?_
   refine iW yq ?_
   refine bF x7 ?_
   refine bG (i:=26) ?_
   refine eu m6 4 ?_
   intro r1 j2
   refine m_ rfl ?_
   refine fP ?_
   refine aR ?_
   refine iu (g0,H6,g4,y6,i4) ?_ ?_
   · exact trivial
   exact (j2.tk [1,3,2,4,5,6,7,8,9,10,11])
  refine gk A.n H9 (bh rfl) rfl rfl rfl rfl rfl Tryz.underlying38 pO (by omega) ?_
  intro H5 r0 c9
  refine bF (c9.tk [1]) ?_
  refine lH (i:=10) (j:=15) (by kernel_rfl) rfl rfl ?_ ?_
  ·
   refine gk A.n c9 (bh rfl) rfl rfl rfl rfl rfl Tryz.underlying38 pO (by omega) ?_
   intro h6 q9 m5
   refine bF (m5.tk [2]) ?_
   refine bG (i:=15) ?_
   refine gk A.n m5 (bh rfl) rfl rfl rfl rfl rfl Tryz.underlying38 pO (by omega) ?_
   intro h5 q8 m4
   have x2:=m4.tk [3]
   refine bF x2 ?_
   refine bT (v:=.agg #[vI k,.slice (some ⟨h6,0,none⟩) ((List.replicate A.n false).length) A.n,.slice (some ⟨h5,0,none⟩) ((List.replicate A.n false).length) A.n,.slice (some ⟨H5,0,none⟩) ((List.replicate A.n false).length) A.n,.bool false,.bool false]) 21 rfl x2 (fun _ _=>j4) ?_
   refine bG (i:=22) ?_
   refine fC na #[vI k,.slice (some ⟨h6,0,none⟩) ((List.replicate A.n false).length) A.n,.slice (some ⟨h5,0,none⟩) ((List.replicate A.n false).length) A.n,.slice (some ⟨H5,0,none⟩) ((List.replicate A.n false).length) A.n,.bool false,.bool false] m4 ?_
   intro a5 q7 c8
   refine bF (c8.tk [4]) ?_
   refine bG (i:=23) ?_
   have hln96a:=(c8.rr 9).lenL mR
   have hln96:(Z.rs++[(⟨k,(some ⟨h6,0,none⟩),A.n,(List.replicate A.n false),(some ⟨h5,0,none⟩),A.n,(List.replicate A.n false),(some ⟨H5,0,none⟩),A.n,(List.replicate A.n false),false,false⟩:Rp)]).length=Z.rs.length+1:=by simp only [List.length_append,List.length_cons,List.length_nil] <;> omega
   refine fE qd [(⟨k,(some ⟨h6,0,none⟩),A.n,(List.replicate A.n false),(some ⟨h5,0,none⟩),A.n,(List.replicate A.n false),(some ⟨H5,0,none⟩),A.n,(List.replicate A.n false),false,false⟩:Rp)] mR c8 9 0 ?_
   intro y5 i3 q6 m3
   have h0:=m3.tk [4]
   refine bF h0 ?_
   refine bG (i:=24) ?_
   refine iW xn ?_
   refine bF h0 ?_
   refine bG (i:=25) ?_
   refine iW yq ?_
   refine bF h0 ?_
   refine bG (i:=26) ?_
   refine eu m3 4 ?_
   intro q5 j1
   refine m_ rfl ?_
   refine fP ?_
   refine aR ?_
   refine iu (h6,h5,H5,y5,i3) ?_ ?_
   · exact trivial
   exact (j1.tk [2,1,3,4,5,6,7,8,9,10,11])
  refine gk A.n c9 (bh rfl) rfl rfl rfl rfl rfl Tryz.underlying38 pO (by omega) ?_
  intro h4 k6 x5
  refine bF (x5.tk [2]) ?_
  refine bG (i:=10) ?_
  refine gk A.n x5 (bh rfl) rfl rfl rfl rfl rfl Tryz.underlying38 pO (by omega) ?_
  intro H3 k5 x4
  have x1:=x4.tk [3]
  refine bF x1 ?_
  refine bT (v:=.agg #[vI k,.slice (some ⟨H3,0,none⟩) ((List.replicate A.n false).length) A.n,.slice (some ⟨h4,0,none⟩) ((List.replicate A.n false).length) A.n,.slice (some ⟨H5,0,none⟩) ((List.replicate A.n false).length) A.n,.bool false,.bool false]) 21 rfl x1 (fun _ _=>j4) ?_
  refine bG (i:=22) ?_
  refine fC na #[vI k,.slice (some ⟨H3,0,none⟩) ((List.replicate A.n false).length) A.n,.slice (some ⟨h4,0,none⟩) ((List.replicate A.n false).length) A.n,.slice (some ⟨H5,0,none⟩) ((List.replicate A.n false).length) A.n,.bool false,.bool false] x4 ?_
  intro i1 k4 h1
  refine bF (h1.tk [4]) ?_
  refine bG (i:=23) ?_
  have hln112a:=(h1.rr 9).lenL mR
  have hln112:(Z.rs++[(⟨k,(some ⟨H3,0,none⟩),A.n,(List.replicate A.n false),(some ⟨h4,0,none⟩),A.n,(List.replicate A.n false),(some ⟨H5,0,none⟩),A.n,(List.replicate A.n false),false,false⟩:Rp)]).length=Z.rs.length+1:=by simp only [List.length_append,List.length_cons,List.length_nil] <;> omega
  refine fE qd [(⟨k,(some ⟨H3,0,none⟩),A.n,(List.replicate A.n false),(some ⟨h4,0,none⟩),A.n,(List.replicate A.n false),(some ⟨H5,0,none⟩),A.n,(List.replicate A.n false),false,false⟩:Rp)] mR h1 9 0 ?_
  intro x6 c7 k3 x3
  have H8:=x3.tk [4]
  refine bF H8 ?_
  refine bG (i:=24) ?_
  refine iW xn ?_
  refine bF H8 ?_
  refine bG (i:=25) ?_
  refine iW yq ?_
  refine bF H8 ?_
  refine bG (i:=26) ?_
  refine eu x3 4 ?_
  intro k2 k0
  refine m_ rfl ?_
  refine fP ?_
  refine aR ?_
  refine iu (H3,h4,H5,x6,c7) ?_ ?_
  · exact trivial
  exact (k0.tk [1,2,3,4,5,6,7,8,9,10,11])
 rintro ⟨g1,g2,g3,rp,rc⟩ k1 b9
 refine ah [] ?_
 refine aE ?_
 refine af ?_
 have hnp:¬ (k<1∨1000<k):=fun h9=>h2 (if_pos h9)
 have hnf:fD A.peers k=none:=by have h9:=h3; unfold PK.peE at h9; rw [if_neg hnp] at h9; cases hq:fD A.peers k with | none=>rfl | some p=>rw [hq] at h9; exact absurd rfl h9
 have hpl9:Z.rs.length=A.peers.length:=by rw [← hZ,List.length_map]
 have hE:A.joinE k=0:=by unfold PK.joinE; rw [if_neg hnp,hnf]; show (if 100≤A.peers.length then (4:Int) else 0)=0; exact if_neg (by omega)
 have hA9:A.joinA k={ A with peers:=A.peers++[⟨k,List.replicate A.n false,List.replicate A.n false,List.replicate A.n false,false,false⟩] }:=if_pos hE
 rw [hA9,hE]
 have b8:=S.lstSnoc (F:=gW) (x:=(⟨k,(some ⟨g1,0,none⟩),A.n,(List.replicate A.n false),(some ⟨g2,0,none⟩),A.n,(List.replicate A.n false),(some ⟨g3,0,none⟩),A.n,(List.replicate A.n false),false,false⟩:Rp)) (b9.b3 [0,1,2,9,3,4,5,6,7,8,10])
 have hz9:((Z.rs++[(⟨k,(some ⟨g1,0,none⟩),A.n,(List.replicate A.n false),(some ⟨g2,0,none⟩),A.n,(List.replicate A.n false),(some ⟨g3,0,none⟩),A.n,(List.replicate A.n false),false,false⟩:Rp)])).map Rp.pe=A.peers++[⟨k,List.replicate A.n false,List.replicate A.n false,List.replicate A.n false,false,false⟩]:=by rw [List.map_append,hZ]; rfl
 exact ⟨({ Z with pp:=rp,pc:=rc,rs:=(Z.rs++[(⟨k,(some ⟨g1,0,none⟩),A.n,(List.replicate A.n false),(some ⟨g2,0,none⟩),A.n,(List.replicate A.n false),(some ⟨g3,0,none⟩),A.n,(List.replicate A.n false),false,false⟩:Rp)]) }:ZP),rfl,hz9,rfl,S.big (L:=[_,_,_,_,_,_,_]) (b8.tk [1,2,3,4,5,6,0,7])⟩
theorem sZ {α β:Type} (f:α→β):∀ (l:List α) (i:Nat),(l.eraseIdx i).map f=(l.map f).eraseIdx i
 | [],i=>rfl
 | a :: l,0=>rfl
 | a :: l,i+1=>by show f a :: (l.eraseIdx i).map f=f a :: (l.map f).eraseIdx i; rw [sZ f l i]
theorem Kr (Z:ZP) (A:PK) (j:Nat) (hZ:fU Z A) (hI:bQ j A) (k:Int) (hj:j≤100000)  (w:World) (HS:S w [(ZI Z A)]):Calls Tryz.prog 62 #[vP Z.g,vI k] w fun e w'=>∃ (Y:ZP),Y.g=Z.g∧fU Y (A.leaveA k)∧∃ p' c',e=.returned (.tuple #[.slice p' (A.leaveL k).length c',vI (A.peE k)])∧S w' ([Rw 44 3 p' (A.leaveL k).length c' (fl aO (A.leaveL k)),(ZI Y (A.leaveA k))]++[aB w (aT [(ZI Z A)])]):=by
 have H0:=HS.bu
 have h8:=hI.a8
 have hrs9:Z.rs.length≤100:=by have h9:=hI.pl; rw [← hZ,List.length_map] at h9; exact h9
 refine en Tryz.func62 ?_
 refine ah [0,1] ?_
 refine dz ?_
 refine l_of (fZ H0 [0,1,2,3,4,5,6,7] (oQ Z A j hZ hI k _) ?_)
 intro x9 H4
 refine aE ?_
 refine bP (v:=.bool (!decide (((A.peE k):Int)=0))) (hb:=eh) ?_
 refine cD ?_
 by_cases H6:((A.peE k):Int)=0
 ·
  refine kw H6 ?_
  refine aQ ?_
  have H8:=H4.b7 [0,1,2,3,4,5,6,7]
  refine l_of (aG (qP Z A j hZ hI k (by omega) _ (H8.tk [0])) ?_)
  rintro _ x8 ⟨h1,h2,rfl,g1⟩
  replace g1:=H8.aI2 [0] g1
  have hmlpa6:=iK A.asked k
  have hal9:=hI.al
  have x7:=g1.ub [1,0,2]
  refine bW ?_
  refine a_ ?_
  have g5:=x7.b7 [0,1,2,3,4,5,6,7,8]
  refine l_of (aG (wM Z A j hZ hI k (bO A.asked k) h1 ((bO A.asked k).length) h2 (by omega) (by omega) _ (g5.tk [0,1])) ?_)
  rintro _ h5 ⟨H2,H3,rfl,g0⟩
  replace g0:=g5.aI2 [0,1] g0
  have x6:=g0.ub [0,1,2]
  refine bW ?_
  refine cD ?_
  refine MU [(0,_),(1,_),(7,_)] ?_
  refine iF ?_
  refine ru ?_
  have g4:S h5 [(ZI ({ Z with ap:=H2,ac:=H3 }:ZP) ({ A with asked:=(cx A.asked k fun x=>decide (x∈(bO A.asked k))) }:PK)),Rw 44 3 h1 ((bO A.asked k).length) h2 (fl aO (bO A.asked k)),aB w (aT [(ZI Z A)])]:=S.big (L:=[_,_,_,_,_,_,_]) (x6.tk [0,1,2,3,4,5,6,7,8])
  refine l_of (bR (bh rfl) (aP rfl rfl QS) (jL ({ Z with ap:=H2,ac:=H3 }:ZP) ({ A with asked:=(cx A.asked k fun x=>decide (x∈(bO A.asked k))) }:PK) j hZ (bQ.sub hI (jU _ _ _)) k _ (g4.takes [0] (by decide))) ?_)
  rintro _ h0 ⟨fi18,rfl,hfi19,h7⟩
  replace h7:S h0 [(ZI ({ Z with ap:=H2,ac:=H3 }:ZP) ({ A with asked:=(cx A.asked k fun x=>decide (x∈(bO A.asked k))) }:PK)),Rw 44 3 h1 ((bO A.asked k).length) h2 (fl aO (bO A.asked k)),aB w (aT [(ZI Z A)])]:=g4.absorbI (new:=[(ZI ({ Z with ap:=H2,ac:=H3 }:ZP) ({ A with asked:=(cx A.asked k fun x=>decide (x∈(bO A.asked k))) }:PK))]) [0] h7
  obtain ⟨fi,fx,rfl,hfx,hfk⟩:=iC.is hZ H6 hfi19
  have hfl:=fU.at hZ hfx
  have hln:fx.fld.length=A.n∧fx.alw.length=A.n∧fx.sug.length=A.n:=hI.fl _ (List.mem_of_getElem? hfl)
  have hfi9:=(List.getElem?_eq_some_iff.1 hfx).1
  have x5:S h0 [Ob Z.g (.cells #[.int .i64 ((A.n:Int)),.int .i64 ((A.pz:Int)),.int .i64 ((A.la:Int)),.string (A.seed),.bool A.ino,.slice Z.hp A.had.length Z.hc,.slice Z.wp A.wish.length Z.wc,.slice Z.ep A.here.length Z.ec,.slice H2 ((cx A.asked k fun x=>decide (x∈(bO A.asked k))).length) H3,.slice Z.pp Z.rs.length Z.pc] 97 (0,0)),Rw 4 1 Z.hp A.had.length Z.hc (fl cG A.had),Rw 40 2 Z.wp A.wish.length Z.wc (fl jC A.wish),Rw 44 3 Z.ep A.here.length Z.ec (fl aO A.here),Rw 150 4 H2 ((cx A.asked k fun x=>decide (x∈(bO A.asked k))).length) H3 (fl askL (cx A.asked k fun x=>decide (x∈(bO A.asked k)))),Rw 125 6 Z.pp Z.rs.length Z.pc (fl mQ Z.rs),(bM gW Z.rs),Rw 44 3 h1 ((bO A.asked k).length) h2 (fl aO (bO A.asked k)),aB w (aT [(ZI Z A)])]:=S.unbig (L:=[_,_,_,_,_,_,_]) (h7.tk [0,1,2])
  refine wm rfl rfl ?_
  refine ae ?_
  refine g_seq ?_
  refine g_any [] (fun wx=>S wx [Ob Z.g (.cells #[.int .i64 ((A.n:Int)),.int .i64 ((A.pz:Int)),.int .i64 ((A.la:Int)),.string (A.seed),.bool A.ino,.slice Z.hp A.had.length Z.hc,.slice Z.wp A.wish.length Z.wc,.slice Z.ep A.here.length Z.ec,.slice H2 ((cx A.asked k fun x=>decide (x∈(bO A.asked k))).length) H3,.slice Z.pp Z.rs.length Z.pc] 97 (0,0))]) [19] (by kernel_rfl) x5 (fun g9 h3=>?_)
  have H5:=h3.mask [true,false,false,false,false,false,false,false,false]
  refine bT 0 rfl H5 (fun _ _=>xm) ?_
  refine bT 2 rfl H5 (fun _ _=>xm) ?_
  refine bT 3 rfl H5 (fun _ _=>xn) ?_
  refine bT 4 rfl H5 (fun _ _=>xf 9) ?_
  refine bT 5 rfl H5 (fun _ H=>xl H 0) ?_
  refine bT 6 rfl H5 (fun _ _=>xm) ?_
  have hnc:=(h3.rwReads (k:=5) rfl).2.1
  refine bT (v:=.slice Z.pp fi Z.pc) 7 rfl H5 (fun _ _=>aH (ui fi rfl rfl rfl Tryz.underlying95 rJ (by omega)) (by rw [DJ])) ?_
  refine bT 9 rfl H5 (fun _ _=>xm) ?_
  refine bT 10 rfl H5 (fun _ _=>xn) ?_
  refine bT 11 rfl H5 (fun _ _=>xf 9) ?_
  refine bT 12 rfl H5 (fun _ H=>xl H 0) ?_
  refine bT 13 rfl H5 (fun _ _=>xm) ?_
  refine bT (v:=.int .i64 ((fi:Int)+1)) 14 rfl H5 (fun _ _=>ai rfl rfl rfl (dY (jD (by omega)))) ?_
  have hnc:=(h3.rwReads (k:=5) rfl).2.1
  have hnl:=(h3.rwReads (k:=5) rfl).lenL mR
  have hdl:(Z.rs.drop (fi+1)).length=Z.rs.length - (fi+1):=by rw [List.length_drop,← hnl]
  refine bT (v:=.slice (kA Z.pp (fi+1) Z.pc 6) ((Z.rs.drop (fi+1)).length) (Z.pc - (fi+1))) 15 rfl H5 (fun _ _=>aH (vd (fi+1) rfl rfl rfl Tryz.underlying95 rJ (by omega)) (by rw [List.length_drop,← hnl])) ?_
  refine vk (i:=1) (by kernel_rfl) rfl ?_
  refine mL h3 (bh rfl) rfl rfl rfl Tryz.underlying95 rJ ?_
  intro x2 h4 H9
  replace H9:S h4 [Rw 125 6 (some ⟨x2,0,none⟩) 0 0 (fl mQ ([]:List Rp)),Ob Z.g (.cells #[.int .i64 ((A.n:Int)),.int .i64 ((A.pz:Int)),.int .i64 ((A.la:Int)),.string (A.seed),.bool A.ino,.slice Z.hp A.had.length Z.hc,.slice Z.wp A.wish.length Z.wc,.slice Z.ep A.here.length Z.ec,.slice H2 ((cx A.asked k fun x=>decide (x∈(bO A.asked k))).length) H3,.slice Z.pp Z.rs.length Z.pc] 97 (0,0)),Rw 4 1 Z.hp A.had.length Z.hc (fl cG A.had),Rw 40 2 Z.wp A.wish.length Z.wc (fl jC A.wish),Rw 44 3 Z.ep A.here.length Z.ec (fl aO A.here),Rw 150 4 H2 ((cx A.asked k fun x=>decide (x∈(bO A.asked k))).length) H3 (fl askL (cx A.asked k fun x=>decide (x∈(bO A.asked k)))),Rw 125 6 Z.pp Z.rs.length Z.pc (fl mQ Z.rs),(bM gW Z.rs),Rw 44 3 h1 ((bO A.asked k).length) h2 (fl aO (bO A.asked k)),aB w (aT [(ZI Z A)])]:=S.obFl mR H9 (k:=0) rfl rfl (by decide) rfl
  refine bF (H9.mask [false,true,false,false,false,false,false,false,false,false]) ?_
  refine vk (i:=8) (by kernel_rfl) rfl ?_
  have hln33a:=(H9.rwReads (k:=0) rfl).lenL mR
  have hln33b:=((H9.rwReads (k:=6) rfl).takeL mR fi (by omega)).lenL mR
  have hln33:(Z.rs.take fi).length=0+fi:=by omega
  refine iO (l:=[]) (l2:=(Z.rs.take fi)) mR H9 0 (bh rfl) rfl rfl rfl rfl rfl rfl Tryz.underlying95 qd rfl (by decide) ((H9.rwReads (k:=6) rfl).takeL mR fi (by omega)) (by omega) ?_
  intro c6 c7 g8 H7
  rw [List.nil_append] at H7 ⊢
  replace H7:S _ [_,_,_,_,_,_,_,_,_,_]:=H7
  refine bF (H7.tk [1]) ?_
  refine vk (i:=16) (by kernel_rfl) rfl ?_
  have hln38a:=(H7.rwReads (k:=0) rfl).lenL mR
  have hln38b:=((H7.rwReads (k:=6) rfl).cutLn mR (fi+1) (by omega)).lenL mR
  have hln38:((Z.rs.take fi)++(Z.rs.drop (fi+1))).length=((Z.rs.take fi).length)+((Z.rs.drop (fi+1)).length):=by simp only [List.length_append,List.length_cons,List.length_nil] <;> omega
  refine iO (l:=(Z.rs.take fi)) (l2:=(Z.rs.drop (fi+1))) mR H7 0 (bh rfl) rfl rfl rfl rfl rfl rfl Tryz.underlying95 qd rfl (by decide) ((H7.rwReads (k:=6) rfl).cutLn mR (fi+1) (by omega)) (by omega) ?_
  intro x0 x3 g7 g3
  have h6:=g3.tk [1]
  refine bF h6 ?_
  refine bG (i:=17) ?_
  refine iW xn ?_
  refine bF h6 ?_
  refine bG (i:=18) ?_
  refine iW yq ?_
  refine bF h6 ?_
  refine bG (i:=19) ?_
  refine eu g3 1 ?_
  intro g6 x4
  refine m_ rfl ?_
  refine fP ?_
  refine aR ?_
  refine ah [7] ?_
  refine a_ ?_
  refine af ?_
  have hL9:A.leaveL k=bO A.asked k:=if_pos H6
  have hA9:A.leaveA k={ A with asked:=cx A.asked k (fun _=>true),peers:=A.peers.filter fun p=>decide (p.k ≠ k) }:=if_pos H6
  rw [hL9,hA9,H6]
  have x1:(cx A.asked k fun x=>decide (x∈bO A.asked k))=cx A.asked k (fun _=>true):=o0 fun c hc=>dt (gq.2 hc)
  have he9:((Z.rs.take fi)++(Z.rs.drop (fi+1)))=Z.rs.eraseIdx fi:=(List.eraseIdx_eq_take_drop_succ _ _).symm
  have hz9:(Z.rs.eraseIdx fi).map Rp.pe=A.peers.filter fun p=>decide (p.k ≠ k):=by subst hfk; rw [show fx.k=fx.pe.k from rfl,← uE hI.nd hfl,← hZ]; exact (sZ Rp.pe Z.rs fi)
  have g2:=S.lstDrop (x4.tk [7,1,2,3,4,5,0,8,9]) hfx
  rw [x1,he9] at g2
  exact ⟨({ Z with ap:=H2,ac:=H3,pp:=x0,pc:=x3,rs:=(Z.rs.eraseIdx fi) }:ZP),rfl,hz9,_,_,rfl,(S.big (L:=[_,_,_,_,_,_,_]) (g2.tk [1,2,3,4,5,6,0,7,8])).tk [1,0,2]⟩
 refine mX H6 ?_
 refine cp ?_
 refine af ?_
 have hL9:A.leaveL k=[]:=if_neg H6
 have hA9:A.leaveA k=A:=if_neg H6
 rw [hL9,hA9]
 exact ⟨Z,rfl,hZ,none,0,rfl,(H4.b7 [0,1,2,3,4,5,6,7]).nilFl 44 3 aO⟩
end Go.Proofs.YthmmfhdpkddniaaGreatDoor
