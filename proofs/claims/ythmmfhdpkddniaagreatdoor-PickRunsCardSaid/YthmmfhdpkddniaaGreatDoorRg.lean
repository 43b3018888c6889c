import Derived.Test.YthmmfhdpkddniaaGreatDoorRf
set_option maxRecDepth 20000
set_option maxHeartbeats 4000000
set_option linter.all false
namespace Go.Proofs.YthmmfhdpkddniaaGreatDoor
open Go.RowKit
def PK.frB (A:PK) (c:aV):Bool:=!aF A.had c.pc && A.freeC c
def PK.parR (A:PK) (i:Int):Bool:=!aF A.had i && decide ((A.freeL i).length<(A.blocks i).length)
def PK.freeV (A:PK) (i:Int):List aV:=if A.inE i=0 then A.freeL i else []
def PK.cntV (A:PK) (i:Int):Int:=if A.inE i=0 then (A.countV i:Int) else 0
theorem PK.countV_le (A:PK) (i:Int):A.countV i≤A.peers.length:=List.length_filter_le _ _
theorem qW {j:Nat} {A:PK} (h:bQ j A) (i:Int):(A.freeL i).length≤8:=Nat.le_trans (List.length_filter_le _ _) (cZ h i).2
theorem kF {l:List Bool} {n:Nat} {b:Bool} (h:l[n]?=some b):l.getD n false=b:=by rw [List.getD_eq_getElem?_getD,h]; rfl
theorem vi {l:List o_} {n:Nat} {b:o_} (h:l[n]?=some b):(l.getD n ⟨0,0⟩).lv=b.lv:=by rw [List.getD_eq_getElem?_getD,h]; rfl
theorem wj {l:List o_} {n:Nat} {b:o_} (h:l[n]?=some b):(l.getD n ⟨0,0⟩).du=b.du:=by rw [List.getD_eq_getElem?_getD,h]; rfl
theorem Cw {A:PK} {c:aV} {x:Bool} (h:aF A.had c.pc=x):A.frB c=(!x && (!decide (c∈A.here) && decide (((cn A.asked c).length:Int)=0))):=by
 unfold PK.frB PK.freeC
 rw [h]
 congr 2
 cases cn A.asked c with
 | nil=>rfl
 | cons a l=>show false=decide (((a :: l).length:Int)=0); rw [decide_eq_false]; rw [List.length_cons]; omega
theorem IL {A:PK} {i:Int} {c:aV} (h:c∈A.blocks i):A.frB c=(!aF A.had i && A.freeC c):=by
 unfold PK.frB
 rw [eQ h]
theorem Bu {A:PK} {i:Int} {ii:Nat} {x:aV} (h:(A.blocks i)[ii]?=some x):((A.blocks i).take (ii+1)).filter (fun c=>!aF A.had i && A.freeC c)=((A.blocks i).take ii).filter (fun c=>!aF A.had i && A.freeC c)++if A.frB x=true then [x] else []:=by
 rw [aj h,List.filter_append,List.filter_cons,← IL (List.mem_of_getElem? h)]
 split <;> rfl
theorem cK {n k:Nat} (h:k<n):(jo n)[k]?=some (k:Int):=by
 unfold jo
 rw [List.getElem?_map,List.getElem?_range h]; rfl
def PK.endF (A:PK) (i:Int):Bool:=!A.openB i || (A.blocks i).all fun c=>!A.freeC c
theorem vO (A:PK):A.endB=(jo A.n).all A.endF:=rfl
theorem IZ {A:PK} {i:Int} (h:aF A.had i=true):A.endF i=true:=by unfold PK.endF PK.openB; rw [h]; rfl
theorem K3 {A:PK} {i:Int} (h:¬ 0<A.lv i):A.endF i=true:=by unfold PK.endF PK.openB; rw [decide_eq_false h,Bool.and_false]; rfl
theorem F4 {A:PK} {i:Int} (h:aF A.had i=false) (h2:(A.freeL i).length=0):A.endF i=true:=by
 unfold PK.endF
 rw [Bool.or_eq_true]
 right
 rw [List.all_eq_true]
 intro c hc
 have h3:=List.eq_nil_of_length_eq_zero h2
 unfold PK.freeL at h3
 rw [List.filter_eq_nil_iff] at h3
 have:=h3 c hc
 rw [h] at this
 simpa using this
theorem K0 {A:PK} {i:Int} (h:aF A.had i=false) (h1:0<A.lv i) (h2:0<(A.freeL i).length):A.endF i=false:=by
 unfold PK.endF PK.openB
 rw [h,decide_eq_true h1]
 show (false || (A.blocks i).all fun c=>!A.freeC c)=false
 rw [Bool.false_or,List.all_eq_false]
 obtain ⟨c,hc⟩:=List.exists_mem_of_length_pos h2
 obtain ⟨h3,h4⟩:=List.mem_filter.1 hc
 rw [h] at h4
 exact ⟨c,h3,by simpa using h4⟩
theorem uX {A:PK} {i:Int} (h:A.openB i=false):A.leftI i=0:=by unfold PK.leftI; rw [h]; rfl
theorem El {A:PK} {i:Int} (h:A.openB i=true):A.leftI i=((A.blocks i).filter fun c=>!decide (c∈A.here)).length:=by unfold PK.leftI; rw [if_pos h]
theorem A8 {A:PK} {i:Int} (h:aF A.had i=true):A.openB i=false:=by unfold PK.openB; rw [h]; rfl
theorem Ke {A:PK} {i:Int} (h:¬ 0<A.lv i):A.openB i=false:=by unfold PK.openB; rw [decide_eq_false h,Bool.and_false]
theorem Ie {A:PK} {i:Int} (h:aF A.had i=false) (h2:0<A.lv i):A.openB i=true:=by unfold PK.openB; rw [h,decide_eq_true h2]; rfl
theorem Iq {j:Nat} {A:PK} (h:bQ j A) (i:Int):A.leftI i≤8:=by
 unfold PK.leftI
 split
 · exact Nat.le_trans (List.length_filter_le _ _) (cZ h i).2
 · omega
def AA (A:PK) (k:Nat):Nat:=(((jo A.n).take k).map A.leftI).sum
theorem lq {A:PK} {k:Nat} (h:k<A.n):AA A (k+1)=AA A k+A.leftI k:=by
 unfold AA
 rw [aj (cK h),List.map_append,List.sum_append]; simp
theorem vD {j:Nat} {A:PK} (h:bQ j A):∀ k,k≤A.n→AA A k≤8 * k
 | 0,_=>Nat.zero_le _
 | k+1,hk=>by
   rw [lq (by omega)]
   have:=vD h k (by omega)
   have:=Iq h k
   omega
theorem A3 (A:PK):AA A A.n=A.leftN:=by
 unfold AA PK.leftN
 rw [List.take_of_length_le (by rw [je]; exact Nat.le_refl _)]
theorem OL (Z:ZP) (A:PK) (j:Nat) (hZ:fU Z A) (hI:bQ j A) (c:aV) (hc:0≤c.pc∧c.pc<(A.n:Int)) (hj:j≤100000)  (w:World) (HS:S w [(ZI Z A)]):Calls Tryz.prog 131 #[vP Z.g,.agg #[vI c.pc,vI c.bg,vI c.ln]] w fun e w'=>e=.returned (.bool (A.frB c))∧S w' ([(ZI Z A)]++[aB w (aT [(ZI Z A)])]):=by
 have H0:=HS.bu
 have h8:=hI.a8
 have hal9:=hI.al
 have hhl9:=hI.hl
 refine en Tryz.func131 ?_
 refine ah [0,1] ?_
 refine iF ?_
 refine l_of (fq H0 ?_)
 intro g1 h6 H3
 refine ae ?_
 refine g_seq ?_
 refine g_aS [] [] H3 (fun h5 H5=>?_)
 refine aU 0 H5 ?_
 refine aU 1 H5 ?_
 refine aU 2 H5 ?_
 refine eY 3 1 H5 ?_
 refine aU 4 H5 ?_
 refine eY 5 0 H5 ?_
 refine bT (v:=.pointer ((Z.hp).map fun q=>q.add (((c.pc).toNat) * 1))) 6 rfl H5 (fun _ _=>eZ ((c.pc).toNat) ((H5.rr 2).some (by omega))) ?_
 obtain ⟨x6,H7⟩:=(H5.rr 2).exL cP ((c.pc).toNat)
 have hhad9:=kF H7
 refine bT (v:=.bool x6) 7 rfl H5 (fun _ H=>nX ((c.pc).toNat) (H.rr 2) (cP.flAt1 H7 rfl)) ?_
 refine bT (v:=.bool (!x6)) 8 rfl H5 (fun _ _=>cj (b:=x6) rfl rfl) ?_
 refine aU 9 H5 ?_
 rcases ef (x6) with H4 | H4
 ·
  refine aZ 10 rfl (aa H4) H5 ?_
  refine aZ 11 rfl (aa H4) H5 ?_
  refine aZ 12 rfl (aa H4) H5 ?_
  refine aZ 13 rfl (aa H4) H5 ?_
  refine aZ 14 rfl (aa H4) H5 ?_
  refine bG (i:=15) ?_
  refine ku (aa H4) ?_
  refine bF H5 ?_
  refine aZ 16 rfl (aa H4) H5 ?_
  refine bT 17 rfl H5 (fun _ _=>pf (aa H4)) ?_
  refine aU 18 H5 ?_
  refine aZ 19 rfl rfl H5 ?_
  refine aZ 20 rfl rfl H5 ?_
  refine bG (i:=21) ?_
  refine ku rfl ?_
  refine bF H5 ?_
  refine aZ 22 rfl rfl H5 ?_
  refine aZ 23 rfl rfl H5 ?_
  refine bT 24 rfl H5 (fun _ _=>pf rfl) ?_
  refine bG (i:=25) ?_
  refine iW xa ?_
  refine bF H5 ?_
  refine fP ?_
  refine aR ?_
  refine ah [4] ?_
  refine aR ?_
  refine af ?_
  have hv9:A.frB c=false:=by rw [Cw (gv H7)]; simp [H4]
  rw [hv9]
  exact ⟨rfl,(H5.b7 [1,2,3,4,5,6,7,8])⟩
 refine da 10 rfl (aa H4) H5 (fun _ _=>xm) ?_
 refine da 11 rfl (aa H4) H5 (fun _ _=>xn) ?_
 refine da 12 rfl (aa H4) H5 (fun _ _=>xf 7) ?_
 refine da 13 rfl (aa H4) H5 (fun _ H=>xl H 1) ?_
 refine da 14 rfl (aa H4) H5 (fun _ H=>fS H 0) ?_
 refine bG (i:=15) ?_
 refine bZ H5 (cU rfl rfl rfl rfl (aa H4)) (aP rfl rfl DK) (zB A.here Z.ep A.here.length Z.ec c (by omega) _ (H5.rr 4)) rfl rfl ?_
 intro h4 H9
 refine bF H9 ?_
 refine da (v:=.bool (!((decide (c∈A.here))))) 16 rfl (aa H4) H9 (fun _ _=>cj (b:=(decide (c∈A.here))) rfl rfl) ?_
 refine bT 17 rfl H9 (fun _ _=>pt (aa H4)) ?_
 refine aU 18 H9 ?_
 rcases ef ((decide (c∈A.here))) with H2 | H2
 ·
  refine aZ 19 rfl (aa H2) H9 ?_
  refine aZ 20 rfl (aa H2) H9 ?_
  refine bG (i:=21) ?_
  refine ku (aa H2) ?_
  refine bF H9 ?_
  refine aZ 22 rfl (aa H2) H9 ?_
  refine aZ 23 rfl (aa H2) H9 ?_
  refine bT 24 rfl H9 (fun _ _=>pf (aa H2)) ?_
  refine bG (i:=25) ?_
  refine iW xa ?_
  refine bF H9 ?_
  refine fP ?_
  refine aR ?_
  refine ah [4] ?_
  refine aR ?_
  refine af ?_
  have hv9:A.frB c=false:=by rw [Cw (gv H7)]; simp [H4,H2]
  rw [hv9]
  exact ⟨rfl,(H9.b7 [1,2,3,4,5,6,7,8])⟩
 refine da 19 rfl (aa H2) H9 (fun _ _=>xm) ?_
 refine da 20 rfl (aa H2) H9 (fun _ H=>fS H 0) ?_
 refine bG (i:=21) ?_
 have h0:=H9.b7 [1,2,3,4,5,6,7,0,8]
 refine bR (cU rfl rfl rfl rfl (aa H2)) (aP rfl rfl QR) (MR Z A j hZ hI c (by omega) _ (h0.tk [0])) ?_
 rintro _ h1 ⟨h2,h3,rfl,H8⟩
 replace H8:=h0.aI2 [0] H8
 have holpo11:=kY A.asked c
 have hal9:=hI.al
 have H6:=H8.ub [1,0,2,3]
 refine bW ?_
 refine bF (H6.tk [8,0,1,2,3,4,5,6,9]) ?_
 refine da (v:=vI (((cn A.asked c).length:Int))) 22 rfl (aa H2) (H6.tk [8,0,1,2,3,4,5,6,9]) (fun _ _=>Aw) ?_
 refine da 23 rfl (aa H2) (H6.tk [8,0,1,2,3,4,5,6,9]) (fun _ _=>ai rfl rfl rfl f7) ?_
 refine bT 24 rfl (H6.tk [8,0,1,2,3,4,5,6,9]) (fun _ _=>pt (aa H2)) ?_
 refine bG (i:=25) ?_
 refine iW xa ?_
 refine bF (H6.tk [8,0,1,2,3,4,5,6,9]) ?_
 refine fP ?_
 refine aR ?_
 refine ah [4] ?_
 refine aR ?_
 refine af ?_
 have hv9:A.frB c=decide ((((cn A.asked c).length:Int):Int)=0):=by rw [Cw (gv H7)]; simp [H4,H2]
 rw [hv9]
 exact ⟨rfl,(H6.b7 [0,1,2,3,4,5,6,9])⟩
theorem Es (Z:ZP) (A:PK) (j:Nat) (hZ:fU Z A) (hI:bQ j A) (i:Int) (hj:j≤100000)  (w:World) (HS:S w [(ZI Z A)]):Calls Tryz.prog 93 #[vP Z.g,vI i] w fun e w'=>∃ p' c',e=.returned (.tuple #[.slice p' (A.freeV i).length c',vI (A.inE i)])∧S w' ([Rw 44 3 p' (A.freeV i).length c' (fl aO (A.freeV i)),(ZI Z A)]++[aB w (aT [(ZI Z A)])]):=by
 have H0:=HS.bu
 have h8:=hI.a8
 refine en Tryz.func93 ?_
 refine ah [0,1] ?_
 refine eG ?_
 by_cases H7:(i:Int)<0
 ·
  iterate 6 refine dh (dt H7) ?_
  refine w_v (pt (dt H7)) ?_
  refine cD ?_
  refine g_cond_t rfl rfl ?_
  refine aE ?_
  refine ah [4,5] ?_
  refine ae ?_
  refine af ?_
  have hE:A.inE i=7:=if_pos (show (i<0∨(A.n:Int)≤i) by omega)
  have hV:(A.freeV i)=[]:=by unfold PK.freeV; rw [hE]; exact if_neg (by decide)
  rw [hE,hV]
  exact ⟨none,0,rfl,(H0.b7 [0,1,2,3,4,5,6,7]).nilFl 44 3 aO⟩
 iterate 2 refine aN (df H7) xm ?_
 refine aN (df H7) xn ?_
 refine aN (df H7) (xf 0) ?_
 refine aN (df H7) (xl H0 0) ?_
 refine aN (df H7) (ai rfl rfl rfl nm) ?_
 refine w_v (pf (df H7)) ?_
 refine cD ?_
 by_cases h3:((A.n:Int):Int)≤i
 ·
  refine bm h3 ?_
  refine aE ?_
  refine ah [4,5] ?_
  refine ae ?_
  refine af ?_
  have hE:A.inE i=7:=if_pos (show (i<0∨(A.n:Int)≤i) by omega)
  have hV:(A.freeV i)=[]:=by unfold PK.freeV; rw [hE]; exact if_neg (by decide)
  rw [hE,hV]
  exact ⟨none,0,rfl,(H0.b7 [0,1,2,3,4,5,6,7]).nilFl 44 3 aO⟩
 refine br h3 ?_
 refine ae ?_
 refine ah [0,1] ?_
 refine iF ?_
 have H3:=H0.nilFl 44 3 aO
 refine a_ ?_
 have H6:=H3.b7 [1,2,3,4,5,6,7,0,8]
 refine l_of (aG (nz Z A j hZ hI i (by omega) _ (H6.tk [0])) ?_)
 rintro _ g7 ⟨pb4,cb5,rfl,H8⟩
 replace H8:=H6.aI2 [0] H8
 have hblpb4:=(cZ hI i).2
 have H9:=H8.ub [1,0,2,3]
 refine bW ?_
 refine aE ?_
 refine cQ (ι:=Nat × Option Addr × Nat × List aV) (fun (qi,pq,cq,oz)=>[(0,vP Z.g),(6,.slice pq oz.length cq),(21,.slice pb4 ((A.blocks i).length) cb5),(22,vI (((A.blocks i).length:Int))),(23,vI qi)]) (fun (qi,pq,cq,oz) wx=>(qi≤(A.blocks i).length)∧(oz=((A.blocks i).take qi).filter (fun c=>!aF A.had i && A.freeC c))∧(oz.length≤qi)∧S wx [Rw 44 3 pq oz.length cq (fl aO oz),Rw 44 3 pb4 ((A.blocks i).length) cb5 (fl aO (A.blocks i)),Z0 Z A,Z1 Z A,Z2 Z A,Z3 Z A,Z4 Z A,Z5 Z,bM gW Z.rs,aB w (aT [(ZI Z A)])]) (fun (qi,pq,cq,oz)=>((A.blocks i).length) - qi) (0,none,0,[]) ⟨Nat.zero_le _,rfl,(Nat.le_refl 0),(H9.tk [8,7,0,1,2,3,4,5,6,9])⟩ ?_
 rintro ⟨qi,pq,cq,oz⟩ g2 ⟨hqi,hoz,hol,h1⟩
 refine ah [0,6,21,22,23] ?_
 refine aC ?_
 refine g_seq ?_
 by_cases h0:((qi:Int):Int)<((A.blocks i).length:Int)
 ·
  refine bm h0 ?_
  refine aQ ?_
  refine w_v (iH qi (h1.rr 1)) ?_
  obtain ⟨H4,H5⟩:=(h1.rr 1).exL cN qi
  have hpx9:=eQ (vT H5)
  refine w_v (bc (vs:=aO H4) qi (h1.rr 1) (by omega) rfl rfl Tryz.underlying44 rfl dE (by rfl) (cN.flAt H5)) ?_
  refine l_of (cA h1 gX ?_)
  intro g9 g1 g6
  refine l_of (eu g6 0 ?_)
  intro g0 h5
  refine aC ?_
  refine w_v (fS h5 0) ?_
  refine l_of (fZ h5 [3,4,5,6,7,8,9,0,1,2,10] (OL Z A j hZ hI H4 (by omega) (by omega) _) ?_)
  intro h9 h2
  refine cD ?_
  rcases ef ((A.frB H4)) with H2 | H2
  ·
   refine g_cond_t rfl H2 ?_
   refine ae ?_
   refine w_v (fS h2 7) ?_
   refine l_of (fC gX #[vI H4.pc,vI H4.bg,vI H4.ln] h2 ?_)
   intro g8 h7 h4
   have hln31a:=(h4.rr 9).lenL cN
   have hln31:(oz++[H4]).length=oz.length+1:=by simp only [List.length_append,List.length_cons,List.length_nil] <;> omega
   refine l_of (fE kN [H4] cN h4 9 0 ?_)
   intro g3 g4 h6 g5
   refine aQ ?_
   refine gI qi ?_
   refine ae ?_
   refine bD (i:=(qi,pq,cq,oz)) ((qi+1),g3,g4,(oz++[H4])) ⟨by omega,(by rw [Bu H5,H2,← hoz]; simp),(by first | omega | (simp only [List.length_append,List.length_cons,List.length_nil]; omega)),(g5.tk [9,10,1,2,3,4,5,6,7,11])⟩
  refine g_cond_f rfl H2 ?_
  refine aE ?_
  refine gI qi ?_
  refine ae ?_
  refine bD (i:=(qi,pq,cq,oz)) ((qi+1),pq,cq,oz) ⟨by omega,(by rw [Bu H5,H2,← hoz]; simp),(by first | omega | (simp only [List.length_append,List.length_cons,List.length_nil]; omega)),(h2.tk [8,9,0,1,2,3,4,5,6,10])⟩
 refine br h0 ?_
 refine io ?_
 refine af ?_
 rw [List.take_of_length_le (by omega)] at hoz
 have hE:A.inE i=0:=if_neg (show ¬ (i<0∨(A.n:Int)≤i) by omega)
 have hV:(A.freeV i)=oz:=by unfold PK.freeV; rw [if_pos hE,hoz]; rfl
 rw [hE,hV]
 exact ⟨_,_,rfl,((S.big (L:=[_,_,_,_,_,_,_]) (h1.tk [2,3,4,5,6,7,8,0,9])).tk [1,0,2])⟩
theorem xw (Z:ZP) (A:PK) (j:Nat) (hZ:fU Z A) (hI:bQ j A) (i:Int) (hi:0≤i∧i<(A.n:Int)) (hj:j≤100000) (w:World) (HS:S w [(ZI Z A)]):Calls Tryz.prog 93 #[.pointer (some ⟨Z.g,0,none⟩),.int .i64 i] w fun e w'=>∃ p' c',e=.returned (.tuple #[.slice p' (A.freeL i).length c',.int .i64 0])∧S w' ([Rw 44 3 p' (A.freeL i).length c' (fl aO (A.freeL i)),(ZI Z A)]++[aB w (aT [(ZI Z A)])]):=by
 have h:=Es Z A j hZ hI i hj w HS
 have hE:A.inE i=0:=if_neg (show ¬ (i<0∨(A.n:Int)≤i) by omega)
 have hV:(A.freeV i)=A.freeL i:=if_pos hE
 rwa [hE,hV] at h
theorem NQ (Z:ZP) (A:PK) (j:Nat) (hZ:fU Z A) (hI:bQ j A) (i:Int) (hi:0≤i∧i<(A.n:Int)) (hj:j≤100000)  (w:World) (HS:S w [(ZI Z A)]):Calls Tryz.prog 176 #[vP Z.g,vI i] w fun e w'=>e=.returned (.bool (A.parR i))∧S w' ([(ZI Z A)]++[aB w (aT [(ZI Z A)])]):=by
 have H0:=HS.bu
 have h8:=hI.a8
 refine en Tryz.func176 ?_
 refine ah [0,1] ?_
 refine a_ ?_
 have H3:=H0.b7 [0,1,2,3,4,5,6,7]
 refine l_of (aG (xw Z A j hZ hI i (by omega) (by omega) _ (H3.tk [0])) ?_)
 rintro _ h1 ⟨pf1,cf2,rfl,H5⟩
 replace H5:=H3.aI2 [0] H5
 have hflpf1:=qW hI i
 have H6:=H5.ub [1,0,2]
 refine bW ?_
 refine jG ?_
 refine w_v (iH ((i).toNat) (H6.rr 1)) ?_
 obtain ⟨x7,H4⟩:=(H6.rr 1).exL cP ((i).toNat)
 have hhad9:=kF H4
 refine w_v (nX ((i).toNat) (H6.rr 1) (cP.flAt1 H4 rfl)) ?_
 refine w_v (cj (b:=x7) rfl rfl) ?_
 refine cJ ?_
 rcases ef (x7) with H2 | H2
 ·
  iterate 7 refine dh (aa H2) ?_
  refine w_v (pf (aa H2)) ?_
  refine ae ?_
  refine ah [4] ?_
  refine aR ?_
  refine af ?_
  have hv9:A.parR i=false:=by unfold PK.parR; rw [gv H4]; simp [H2]
  rw [hv9]
  exact ⟨rfl,(H6.b7 [0,1,2,3,4,5,6,8])⟩
 refine aN (aa H2) xm ?_
 refine aN (aa H2) Aw ?_
 iterate 2 refine aN (aa H2) xm ?_
 have H8:=H6.b7 [0,1,2,3,4,5,6,7,8]
 refine l_of (bR (cU rfl rfl rfl rfl (aa H2)) (aP rfl rfl QO) (nz Z A j hZ hI i (by omega) _ (H8.tk [0])) ?_)
 rintro _ H9 ⟨pb9,cb10,rfl,H7⟩
 replace H7:=H8.aI2 [0] H7
 have hblpb9:=(cZ hI i).2
 have h0:=H7.ub [1,0,2,3]
 refine bW ?_
 refine aN (aa H2) Aw ?_
 refine aN (aa H2) (ai rfl rfl rfl dG) ?_
 refine w_v (pt (aa H2)) ?_
 refine ae ?_
 refine ah [4] ?_
 refine aR ?_
 refine af ?_
 have hv9:A.parR i=decide ((((A.freeL i).length:Int):Int)<((A.blocks i).length:Int)):=by unfold PK.parR; rw [gv H4]; simp [H2]
 rw [hv9]
 exact ⟨rfl,(h0.b7 [0,1,2,3,4,5,6,9])⟩
theorem EC (Z:ZP) (A:PK) (j:Nat) (hZ:fU Z A) (hI:bQ j A) (i:Int)  (w:World) (HS:S w [(ZI Z A)]):Calls Tryz.prog 92 #[vP Z.g,vI i] w fun e w'=>e=.returned (.tuple #[vI (A.cntV i),vI (A.inE i)])∧S w' ([(ZI Z A)]++[aB w (aT [(ZI Z A)])]):=by
 have H0:=HS.bu
 have h8:=hI.a8
 have hrs9:Z.rs.length≤100:=by have h9:=hI.pl; rw [← hZ,List.length_map] at h9; exact h9
 refine en Tryz.func92 ?_
 refine ah [0,1] ?_
 refine eG ?_
 by_cases H3:(i:Int)<0
 ·
  iterate 6 refine dh (dt H3) ?_
  refine w_v (pt (dt H3)) ?_
  refine cD ?_
  refine g_cond_t rfl rfl ?_
  refine aE ?_
  refine ah [4,5] ?_
  refine ae ?_
  refine af ?_
  have hE:A.inE i=7:=if_pos (show (i<0∨(A.n:Int)≤i) by omega)
  have hV:A.cntV i=0:=by unfold PK.cntV; rw [hE]; exact if_neg (by decide)
  rw [hE,hV]
  exact ⟨rfl,(H0.b7 [0,1,2,3,4,5,6,7])⟩
 iterate 2 refine aN (df H3) xm ?_
 refine aN (df H3) xn ?_
 refine aN (df H3) (xf 0) ?_
 refine aN (df H3) (xl H0 0) ?_
 refine aN (df H3) (ai rfl rfl rfl nm) ?_
 refine w_v (pf (df H3)) ?_
 refine cD ?_
 by_cases h1:((A.n:Int):Int)≤i
 ·
  refine bm h1 ?_
  refine aE ?_
  refine ah [4,5] ?_
  refine ae ?_
  refine af ?_
  have hE:A.inE i=7:=if_pos (show (i<0∨(A.n:Int)≤i) by omega)
  have hV:A.cntV i=0:=by unfold PK.cntV; rw [hE]; exact if_neg (by decide)
  rw [hE,hV]
  exact ⟨rfl,(H0.b7 [0,1,2,3,4,5,6,7])⟩
 refine br h1 ?_
 refine ae ?_
 refine ah [0,1] ?_
 refine v_ ?_
 refine cQ (ι:=Nat × Nat) (fun (ii,s)=>[(1,vI i),(6,vI s),(22,.slice Z.pp Z.rs.length Z.pc),(23,vI Z.rs.length),(24,vI ii)]) (fun (ii,s) wx=>(ii≤Z.rs.length)∧(s=((A.peers.take ii).filter fun p=>aF p.fld i).length)∧(s≤ii)∧S wx [Z0 Z A,Z1 Z A,Z2 Z A,Z3 Z A,Z4 Z A,Z5 Z,bM gW Z.rs,aB w (aT [(ZI Z A)])]) (fun (ii,s)=>Z.rs.length - ii) (0,0) ⟨Nat.zero_le _,rfl,(Nat.le_refl 0),(H0.tk [0,1,2,3,4,5,6,7])⟩ ?_
 rintro ⟨ii,s⟩ h4 ⟨hii,hs,hsq,H4⟩
 refine ah [1,6,22,23,24] ?_
 refine aC ?_
 refine g_seq ?_
 by_cases h0:((ii:Int):Int)<(Z.rs.length:Int)
 ·
  refine bm h0 ?_
  refine aQ ?_
  refine w_v (iH ii (H4.rr 5)) ?_
  obtain ⟨x6,H5⟩:=(H4.rr 5).exL mR ii
  have hpx9:=fU.at hZ H5
  have hln9:x6.fld.length=A.n:=(hI.fl _ (List.mem_of_getElem? hpx9)).1
  refine w_v (bc (vs:=mQ x6) ii (H4.rr 5) (by omega) rfl rfl Tryz.underlying125 rfl rJ (by rfl) (mR.flAt H5)) ?_
  refine l_of (cA H4 na ?_)
  intro g7 h3 H9
  refine l_of (eu H9 0 ?_)
  intro h2 H7
  refine aQ ?_
  refine w_v (iH ((i).toNat) (H7.rdF (k:=7) rfl H5)) ?_
  obtain ⟨H8,H6⟩:=(H7.rdF (k:=7) rfl H5).exL cP ((i).toNat)
  have hbx9:aF x6.pe.fld i=H8:=gv H6
  refine w_v (nX ((i).toNat) (H7.rdF (k:=7) rfl H5) (cP.flAt1 H6 rfl)) ?_
  refine cD ?_
  rcases ef (H8) with H2 | H2
  ·
   refine g_cond_t rfl H2 ?_
   refine ae ?_
   refine gI s ?_
   refine aQ ?_
   refine gI ii ?_
   refine ae ?_
   refine bD (i:=(ii,s)) ((ii+1),(s+1)) ⟨by omega,(by rw [aj hpx9,List.filter_append,List.filter_cons,if_pos (by rw [hbx9]; simp [H2]),List.length_append,← hs]; rfl),(by omega),(H7.tk [1,2,3,4,5,6,7,8])⟩
  refine g_cond_f rfl H2 ?_
  refine aE ?_
  refine gI ii ?_
  refine ae ?_
  refine bD (i:=(ii,s)) ((ii+1),s) ⟨by omega,(by rw [aj hpx9,List.filter_append,List.filter_cons,if_neg (by rw [hbx9]; simp [H2]),List.length_append,← hs]; rfl),(by omega),(H7.tk [1,2,3,4,5,6,7,8])⟩
 refine br h0 ?_
 refine io ?_
 refine af ?_
 have hE:A.inE i=0:=if_neg (show ¬ (i<0∨(A.n:Int)≤i) by omega)
 rw [List.take_of_length_le (by rw [← hZ,List.length_map]; omega)] at hs
 have hV:A.cntV i=(s:Int):=by unfold PK.cntV; rw [if_pos hE,hs]; rfl
 rw [hE,hV]
 exact ⟨rfl,(H4.b7 [0,1,2,3,4,5,6,7])⟩
theorem F_ (Z:ZP) (A:PK) (j:Nat) (hZ:fU Z A) (hI:bQ j A) (i:Int) (hi:0≤i∧i<(A.n:Int)) (w:World) (HS:S w [(ZI Z A)]):Calls Tryz.prog 92 #[.pointer (some ⟨Z.g,0,none⟩),.int .i64 i] w fun e w'=>e=.returned (.tuple #[.int .i64 (A.countV i:Int),.int .i64 0])∧S w' ([(ZI Z A)]++[aB w (aT [(ZI Z A)])]):=by
 have h:=EC Z A j hZ hI i w HS
 have hE:A.inE i=0:=if_neg (show ¬ (i<0∨(A.n:Int)≤i) by omega)
 have hV:A.cntV i=(A.countV i:Int):=if_pos hE
 rwa [hE,hV] at h
theorem BB (Z:ZP) (A:PK) (j:Nat) (hZ:fU Z A) (hI:bQ j A) (hj:j≤100000)  (w:World) (HS:S w [(ZI Z A)]):Calls Tryz.prog 89 #[vP Z.g] w fun e w'=>e=.returned (.bool A.endB)∧S w' ([(ZI Z A)]++[aB w (aT [(ZI Z A)])]):=by
 have H0:=HS.bu
 have h8:=hI.a8
 refine en Tryz.func89 ?_
 refine ah [0] ?_
 refine jG ?_
 refine cQ (ι:=Nat) (fun ii=>[(0,vP Z.g),(9,vI A.n),(10,vI ii)]) (fun ii wx=>(ii≤A.n)∧(∀ y∈(jo A.n).take ii,A.endF y=true)∧S wx [Z0 Z A,Z1 Z A,Z2 Z A,Z3 Z A,Z4 Z A,Z5 Z,bM gW Z.rs,aB w (aT [(ZI Z A)])]) (fun ii=>A.n - ii) (0) ⟨(Nat.zero_le _),(fun y hy=>by simp at hy),(H0.tk [0,1,2,3,4,5,6,7])⟩ ?_
 rintro ii h3 ⟨hq,hno,H2⟩
 refine ah [0,9,10] ?_
 refine aC ?_
 refine g_seq ?_
 by_cases H9:((ii:Int):Int)<(A.n:Int)
 ·
  refine bm H9 ?_
  refine yM ?_
  refine w_v (iH ii (H2.rr 1)) ?_
  obtain ⟨x4,H7⟩:=(H2.rr 1).exL cP ii
  have hhad9:=kF H7
  have hhb9:aF A.had (ii:Int)=x4:=hhad9
  refine w_v (nX ii (H2.rr 1) (cP.flAt1 H7 rfl)) ?_
  refine cJ ?_
  rcases ef (x4) with H3 | H3
  ·
   iterate 9 refine dh H3 ?_
   refine w_v (dH rfl rfl H3 rfl) ?_
   refine cD ?_
   refine ah [0,3,9,10,30] ?_
   refine g_cond_t rfl rfl ?_
   refine aQ ?_
   refine gI ii ?_
   refine ae ?_
   refine bD (i:=(ii)) ((ii+1)) ⟨(by omega),(d6 hno (cK (by omega)) (IZ (hhb9.trans (by assumption)))),(H2.tk [0,1,2,3,4,5,6,7])⟩
  refine aN H3 xm ?_
  refine aN H3 xn ?_
  refine aN H3 (xf 6) ?_
  refine aN H3 (xl H2 0) ?_
  refine aN H3 xm ?_
  refine aN H3 (iH ii (H2.rr 2)) ?_
  refine aN (v:=.pointer ((Z.wp).map fun q=>q.add (ii * 2+0))) H3 (aH (bJ (m:=ii * 2) ((H2.rr 2).some (by omega)) rfl rfl sH) rfl) ?_
  obtain ⟨x6,H5⟩:=(H2.rr 2).exL lA ii
  have hlv9:=vi H5
  have hdu9:=wj H5
  have hwr9:=hI.wishr x6 (List.mem_of_getElem? H5)
  have hlb9:A.lv (ii:Int)=x6.lv:=hlv9
  refine aN H3 (eX (i:=0) (j:=ii) lA (H2.rr 2) H5 rfl rfl Tryz.underlying3 rfl rfl) ?_
  refine aN H3 (ai rfl rfl rfl f7) ?_
  refine w_v (cH rfl rfl H3 rfl) ?_
  refine cD ?_
  refine ah [0,3,9,10,30] ?_
  by_cases H8:(x6.lv:Int)=0
  ·
   refine bm H8 ?_
   refine aQ ?_
   refine gI ii ?_
   refine ae ?_
   refine bD (i:=(ii)) ((ii+1)) ⟨(by omega),(d6 hno (cK (by omega)) (K3 (by rw [hlb9]; omega))),(H2.tk [0,1,2,3,4,5,6,7])⟩
  refine br H8 ?_
  refine aQ ?_
  have h1:=H2.b7 [0,1,2,3,4,5,6,7]
  refine l_of (aG (xw Z A j hZ hI (ii:Int) (by omega) (by omega) _ (h1.tk [0])) ?_)
  rintro _ h2 ⟨pf8,cf9,rfl,H6⟩
  replace H6:=h1.aI2 [0] H6
  have hflpf8:=qW hI (ii:Int)
  have h0:=H6.ub [1,0,2]
  refine bW ?_
  refine io ?_
  refine ah [0,9,10,39] ?_
  by_cases H4:(0:Int)<((A.freeL (ii:Int)).length:Int)
  ·
   refine bm H4 ?_
   refine eG ?_
   refine af ?_
   have hE:A.endB=false:=by rw [vO,List.all_eq_false]; exact ⟨(ii:Int),List.mem_of_getElem? (cK (by omega)),by rw [K0 (hhb9.trans (by assumption)) (by rw [hlb9]; omega) (by omega)]; decide⟩
   rw [hE]
   exact ⟨rfl,(h0.b7 [0,1,2,3,4,5,6,8])⟩
  refine br H4 ?_
  refine aE ?_
  refine gI ii ?_
  refine ae ?_
  refine bD (i:=(ii)) ((ii+1)) ⟨(by omega),(d6 hno (cK (by omega)) (F4 (hhb9.trans (by assumption)) (by omega))),(h0.tk [0,1,2,3,4,5,6,8])⟩
 refine br H9 ?_
 refine eG ?_
 refine af ?_
 rw [List.take_of_length_le (by rw [je]; omega)] at hno
 have hE:A.endB=true:=by rw [vO,List.all_eq_true]; exact hno
 rw [hE]
 exact ⟨rfl,(H2.b7 [0,1,2,3,4,5,6,7])⟩
theorem Og (Z:ZP) (A:PK) (j:Nat) (hZ:fU Z A) (hI:bQ j A) (hj:j≤100000)  (w:World) (HS:S w [(ZI Z A)]):Calls Tryz.prog 90 #[vP Z.g] w fun e w'=>e=.returned (vI (A.leftN:Int))∧S w' ([(ZI Z A)]++[aB w (aT [(ZI Z A)])]):=by
 have H0:=HS.bu
 have h8:=hI.a8
 have hhl9:=hI.hl
 refine en Tryz.func90 ?_
 refine ah [0] ?_
 refine yM ?_
 refine cQ (ι:=Nat × Nat) (fun (ii,s)=>[(0,vP Z.g),(3,vI s),(10,vI A.n),(11,vI ii)]) (fun (ii,s) wx=>(ii≤A.n)∧(s=AA A ii)∧S wx [Z0 Z A,Z1 Z A,Z2 Z A,Z3 Z A,Z4 Z A,Z5 Z,bM gW Z.rs,aB w (aT [(ZI Z A)])]) (fun (ii,s)=>A.n - ii) (0,0) ⟨(Nat.zero_le _),rfl,(H0.tk [0,1,2,3,4,5,6,7])⟩ ?_
 rintro ⟨ii,s⟩ g9 ⟨hq,hs,H2⟩
 refine ah [0,3,10,11] ?_
 have hsl9:=vD hI ii hq
 rw [← hs] at hsl9
 refine aC ?_
 refine g_seq ?_
 by_cases h6:((ii:Int):Int)<(A.n:Int)
 ·
  refine bm h6 ?_
  refine yM ?_
  refine w_v (iH ii (H2.rr 1)) ?_
  obtain ⟨x4,h4⟩:=(H2.rr 1).exL cP ii
  have hhad9:=kF h4
  have hhb9:aF A.had (ii:Int)=x4:=hhad9
  refine w_v (nX ii (H2.rr 1) (cP.flAt1 h4 rfl)) ?_
  refine cJ ?_
  rcases ef (x4) with H3 | H3
  ·
   iterate 9 refine dh H3 ?_
   refine w_v (dH rfl rfl H3 rfl) ?_
   refine cD ?_
   refine ah [0,3,4,10,11,31] ?_
   refine g_cond_t rfl rfl ?_
   refine aQ ?_
   refine gI ii ?_
   refine ae ?_
   refine bD (i:=(ii,s)) ((ii+1),s) ⟨(by omega),(by rw [lq (by omega),uX (A8 (hhb9.trans (by assumption)))]; exact hs),(H2.tk [0,1,2,3,4,5,6,7])⟩
  refine aN H3 xm ?_
  refine aN H3 xn ?_
  refine aN H3 (xf 6) ?_
  refine aN H3 (xl H2 0) ?_
  refine aN H3 xm ?_
  refine aN H3 (iH ii (H2.rr 2)) ?_
  refine aN (v:=.pointer ((Z.wp).map fun q=>q.add (ii * 2+0))) H3 (aH (bJ (m:=ii * 2) ((H2.rr 2).some (by omega)) rfl rfl sH) rfl) ?_
  obtain ⟨x6,h0⟩:=(H2.rr 2).exL lA ii
  have hlv9:=vi h0
  have hdu9:=wj h0
  have hwr9:=hI.wishr x6 (List.mem_of_getElem? h0)
  have hlb9:A.lv (ii:Int)=x6.lv:=hlv9
  refine aN H3 (eX (i:=0) (j:=ii) lA (H2.rr 2) h0 rfl rfl Tryz.underlying3 rfl rfl) ?_
  refine aN H3 (ai rfl rfl rfl f7) ?_
  refine w_v (cH rfl rfl H3 rfl) ?_
  refine cD ?_
  refine ah [0,3,4,10,11,31] ?_
  by_cases h5:(x6.lv:Int)=0
  ·
   refine bm h5 ?_
   refine aQ ?_
   refine gI ii ?_
   refine ae ?_
   refine bD (i:=(ii,s)) ((ii+1),s) ⟨(by omega),(by rw [lq (by omega),uX (Ke (by rw [hlb9]; omega))]; exact hs),(H2.tk [0,1,2,3,4,5,6,7])⟩
  refine br h5 ?_
  refine aQ ?_
  have h9:=H2.b7 [0,1,2,3,4,5,6,7]
  refine l_of (aG (nz Z A j hZ hI (ii:Int) (by omega) _ (h9.tk [0])) ?_)
  rintro _ g5 ⟨pb8,cb9,rfl,h3⟩
  replace h3:=h9.aI2 [0] h3
  have hblpb8:=(cZ hI (ii:Int)).2
  have g8:=h3.ub [1,0,2]
  refine bW ?_
  refine aE ?_
  refine cQ (ι:=Nat × Nat) (fun (b,t)=>[(0,vP Z.g),(3,vI t),(10,vI A.n),(11,vI ii),(34,.slice pb8 ((A.blocks (ii:Int)).length) cb9),(35,vI (((A.blocks (ii:Int)).length:Int))),(36,vI b)]) (fun (b,t) wx=>(b≤(A.blocks (ii:Int)).length)∧(t=s+(((A.blocks (ii:Int)).take b).filter fun c=>!decide (c∈A.here)).length)∧(t≤s+b)∧S wx [Rw 44 3 pb8 ((A.blocks (ii:Int)).length) cb9 (fl aO (A.blocks (ii:Int))),Z0 Z A,Z1 Z A,Z2 Z A,Z3 Z A,Z4 Z A,Z5 Z,bM gW Z.rs,aB w (aT [(ZI Z A)])]) (fun (b,t)=>((A.blocks (ii:Int)).length) - b) (0,s) ⟨Nat.zero_le _,rfl,(Nat.le_refl _),(g8.tk [7,0,1,2,3,4,5,6,8])⟩ ?_
  rintro ⟨b,t⟩ g4 ⟨hb,ht,htl,H9⟩
  refine ah [0,3,10,11,34,35,36] ?_
  refine aC ?_
  refine g_seq ?_
  by_cases H7:((b:Int):Int)<((A.blocks (ii:Int)).length:Int)
  ·
   refine bm H7 ?_
   refine aQ ?_
   refine w_v (iH b (H9.rr 0)) ?_
   obtain ⟨H6,H5⟩:=(H9.rr 0).exL cN b
   refine w_v (bc (vs:=aO H6) b (H9.rr 0) (by omega) rfl rfl Tryz.underlying44 rfl dE (by rfl) (cN.flAt H5)) ?_
   refine l_of (cA H9 gX ?_)
   intro x0 g3 g7
   refine l_of (eu g7 0 ?_)
   intro g2 g6
   refine cD ?_
   refine g_seq ?_
   refine g_aM [] [0,2] [] g6 (fun g1 h2=>?_)
   have H8:=h2.tk [0,2]
   refine aU 0 H8 ?_
   refine aU 1 H8 ?_
   refine aU 2 H8 ?_
   refine eY 3 1 H8 ?_
   refine bT 4 rfl H8 (fun _ H=>fS H 0) ?_
   refine bG (i:=5) ?_
   refine cz h2 (zB A.here Z.ep A.here.length Z.ec H6 (by omega) _ (h2.rr 5)) ?_
   intro g0 h1
   have h7:=h1.tk [0,2]
   refine bF h7 ?_
   refine bT (v:=.bool (!((decide (H6∈A.here))))) 6 rfl h7 (fun _ _=>cj (b:=(decide (H6∈A.here))) rfl rfl) ?_
   refine fP ?_
   refine aR ?_
   rcases ef ((decide (H6∈A.here))) with H4 | H4
   ·
    refine g_cond_f rfl (aa H4) ?_
    refine aE ?_
    refine gI b ?_
    refine ae ?_
    refine bD (i:=(b,t)) ((b+1),t) ⟨by omega,(by rw [aj H5,List.filter_append,List.filter_cons,if_neg (by rw [H4]; decide),List.length_append,ht]; rfl),(by omega),(h1.tk [1,2,3,4,5,6,7,8,9])⟩
   refine g_cond_t rfl (aa H4) ?_
   refine ae ?_
   refine gI t ?_
   refine aE ?_
   refine ah [0,3,10,11,34,35,36] ?_
   refine aR ?_
   refine gI b ?_
   refine ae ?_
   refine bD (i:=(b,t)) ((b+1),(t+1)) ⟨by omega,(by rw [aj H5,List.filter_append,List.filter_cons,if_pos (by rw [H4]; decide),List.length_append,ht]; rfl),(by omega),(h1.tk [1,2,3,4,5,6,7,8,9])⟩
  refine br H7 ?_
  refine aR ?_
  rw [List.take_of_length_le (by omega)] at ht
  refine a_ ?_
  refine gI ii ?_
  refine ae ?_
  refine bD (i:=(ii,s)) ((ii+1),t) ⟨(by omega),(by rw [lq (by omega),El (Ie (hhb9.trans (by assumption)) (by rw [hlb9]; omega)),← hs,ht]),(H9.tk [1,2,3,4,5,6,7,8])⟩
 refine br h6 ?_
 refine cS ?_
 refine af ?_
 have hqe:ii=A.n:=by omega
 rw [hqe,A3] at hs
 rw [← hs]
 exact ⟨rfl,(H2.b7 [0,1,2,3,4,5,6,7])⟩
theorem Kc (Z:ZP) (A:PK) (j:Nat) (hZ:fU Z A) (hI:bQ j A)  (w:World) (HS:S w [(ZI Z A)]):Calls Tryz.prog 26 #[vP Z.g] w fun e w'=>∃ p' c',e=.returned (.slice p' (A.peers.map fV.k).length c')∧S w' ([Rw 3 1 p' (A.peers.map fV.k).length c' (fl cg (A.peers.map fV.k)),(ZI Z A)]++[aB w (aT [(ZI Z A)])]):=by
 have H0:=HS.bu
 have h8:=hI.a8
 have hrs9:Z.rs.length≤100:=by have h9:=hI.pl; rw [← hZ,List.length_map] at h9; exact h9
 refine en Tryz.func26 ?_
 refine ah [0] ?_
 refine aE ?_
 have H1:=H0.nilFl 3 1 cg
 refine jG ?_
 refine cQ (ι:=Nat × Option Addr × Nat × List Int) (fun (i,pq,cq,oz)=>[(3,.slice pq oz.length cq),(9,.slice Z.pp Z.rs.length Z.pc),(10,vI Z.rs.length),(11,vI i)]) (fun (i,pq,cq,oz) wx=>(i≤Z.rs.length)∧(oz=(Z.rs.take i).map Rp.k)∧(oz.length≤i)∧S wx [Rw 3 1 pq oz.length cq (fl cg oz),Z0 Z A,Z1 Z A,Z2 Z A,Z3 Z A,Z4 Z A,Z5 Z,bM gW Z.rs,aB w (aT [(ZI Z A)])]) (fun (i,pq,cq,oz)=>Z.rs.length - i) (0,none,0,[]) ⟨Nat.zero_le _,rfl,(Nat.le_refl 0),(H1.tk [0,1,2,3,4,5,6,7,8])⟩ ?_
 rintro ⟨i,pq,cq,oz⟩ h5 ⟨hi,hoz,hol,H3⟩
 refine ah [3,9,10,11] ?_
 refine aC ?_
 refine g_seq ?_
 by_cases H4:((i:Int):Int)<(Z.rs.length:Int)
 ·
  refine bm H4 ?_
  refine aQ ?_
  refine w_v (iH i (H3.rr 6)) ?_
  obtain ⟨x5,H2⟩:=(H3.rr 6).exL mR i
  refine w_v (bc (vs:=mQ x5) i (H3.rr 6) (by omega) rfl rfl Tryz.underlying125 rfl rJ (by rfl) (mR.flAt H2)) ?_
  refine l_of (cA H3 na ?_)
  intro g6 h4 H8
  refine l_of (eu H8 0 ?_)
  intro h3 h2
  refine aQ ?_
  refine l_of (fC Av #[vI x5.k] h2 ?_)
  intro h6 H7 H5
  have hln18a:=(H5.rr 2).lenL bE
  have hln18:(oz++[x5.k]).length=oz.length+1:=by simp only [List.length_append,List.length_cons,List.length_nil] <;> omega
  refine l_of (fE oe [x5.k] bE H5 2 0 ?_)
  intro H9 h0 H6 h1
  refine aQ ?_
  refine gI i ?_
  refine ae ?_
  refine bD (i:=(i,pq,cq,oz)) ((i+1),H9,h0,(oz++[x5.k])) ⟨by omega,(by rw [aj H2,List.map_append,← hoz]; rfl),(by first | omega | (simp only [List.length_append,List.length_cons,List.length_nil]; omega)),(h1.tk [2,3,4,5,6,7,8,9,10])⟩
 refine br H4 ?_
 refine cS ?_
 refine af ?_
 rw [List.take_of_length_le (by omega)] at hoz
 have hV:(A.peers.map fV.k)=oz:=by rw [hoz,← hZ,List.map_map]; rfl
 rw [hV]
 exact ⟨_,_,rfl,((S.big (L:=[_,_,_,_,_,_,_]) (H3.tk [1,2,3,4,5,6,7,0,8])).tk [1,0,2])⟩
theorem KC (Z:ZP) (A:PK) (j:Nat) (hZ:fU Z A) (hI:bQ j A) (k:Int)  (w:World) (HS:S w [(ZI Z A)]):Calls Tryz.prog 95 #[vP Z.g,vI k] w fun e w'=>e=.returned (.tuple #[.bool (A.intB k),vI (A.peE k)])∧S w' ([(ZI Z A)]++[aB w (aT [(ZI Z A)])]):=by
 have H0:=HS.bu
 have h8:=hI.a8
 have hrs9:Z.rs.length≤100:=by have h9:=hI.pl; rw [← hZ,List.length_map] at h9; exact h9
 refine en Tryz.func95 ?_
 refine ah [0,1] ?_
 refine dz ?_
 refine l_of (fZ H0 [0,1,2,3,4,5,6,7] (oQ Z A j hZ hI k _) ?_)
 intro b8 H4
 refine aE ?_
 refine bP (v:=.bool (!decide (((A.peE k):Int)=0))) (hb:=eh) ?_
 refine cD ?_
 by_cases h0:((A.peE k):Int)=0
 ·
  refine kw h0 ?_
  refine ae ?_
  refine g_seq ?_
  refine g_aS [] [] H4 (fun b6 H7=>?_)
  refine aU 0 H7 ?_
  refine aU 1 H7 ?_
  refine aU 2 H7 ?_
  refine eY 3 0 H7 ?_
  refine aU 4 H7 ?_
  refine aU 5 H7 ?_
  refine lH (i:=6) (j:=9) (by kernel_rfl) rfl rfl ?_ ?_
  ·
   have c6:=H7.b7 [0,1,2,3,4,5,6,7]
   refine aG (jL Z A j hZ hI k _ (c6.tk [0])) ?_
   rintro _ b2 ⟨fi8,rfl,hfi9,x0⟩
   replace x0:=c6.aI1 [0] x0
   obtain ⟨fi,fx,rfl,hfx,hfk⟩:=iC.is hZ h0 hfi9
   have hfl:=fU.at hZ hfx
   have hln:fx.fld.length=A.n∧fx.alw.length=A.n∧fx.sug.length=A.n:=hI.fl _ (List.mem_of_getElem? hfl)
   have hfi9:=(List.getElem?_eq_some_iff.1 hfx).1
   have g4:=x0.ub [0,1]
   refine bW ?_
   refine bF (g4.tk [0,1,2,3,4,5,6,7]) ?_
   refine bT (v:=.pointer ((Z.pp).map fun q=>q.add (fi * 6))) 7 rfl (g4.tk [0,1,2,3,4,5,6,7]) (fun _ _=>eZ fi ((g4.rr 5).some (by omega))) ?_
   refine bT (v:=.agg #[vI fx.k,.slice fx.fp fx.fld.length fx.fc,.slice fx.ap fx.alw.length fx.ac,.slice fx.sp fx.sug.length fx.sc,.bool fx.un,.bool fx.sn]) 8 rfl (g4.tk [0,1,2,3,4,5,6,7]) (fun _ H=>bc (vs:=mQ fx) fi (H.rr 5) (by omega) rfl rfl Tryz.underlying125 rfl rJ (by rfl) (mR.flAt hfx)) ?_
   refine bG (i:=9) ?_
   refine cA g4 na ?_
   intro x4 b1 x9
   refine bF (x9.tk [1,2,3,4,5,6,7,8]) ?_
   refine bG (i:=10) ?_
   refine eu x9 0 ?_
   intro b0 x8
   refine bF (x8.tk [1,2,3,4,5,6,7,8]) ?_
   refine fP ?_
   refine aR ?_
   refine ah [0,7] ?_
   refine eG ?_
   refine cQ (ι:=Nat) (fun ii=>[(0,vP Z.g),(7,vP x4),(27,vI A.n),(28,vI ii)]) (fun ii wx=>(ii≤A.n)∧(∀ y∈(jo A.n).take ii,(A.openB y && aF fx.fld y)=false)∧S wx [Z0 Z A,Z1 Z A,Z2 Z A,Z3 Z A,Z4 Z A,Z5 Z,bM gW Z.rs,Ob x4 (.cells #[vI fx.k,.slice fx.fp fx.fld.length fx.fc,.slice fx.ap fx.alw.length fx.ac,.slice fx.sp fx.sug.length fx.sc,.bool fx.un,.bool fx.sn] 125 (0,0)),aB w (aT [(ZI Z A)])]) (fun ii=>A.n - ii) (0) ⟨(Nat.zero_le _),(fun y hy=>by simp at hy),(x8.tk [1,2,3,4,5,6,7,0,8])⟩ ?_
   rintro ii w9 ⟨hq,hno,H9⟩
   refine ah [0,7,27,28] ?_
   refine aC ?_
   refine g_seq ?_
   by_cases g2:((ii:Int):Int)<(A.n:Int)
   ·
    refine bm g2 ?_
    refine jG ?_
    refine w_v (iH ii (H9.rdF (k:=6) rfl hfx)) ?_
    obtain ⟨x2,h6⟩:=(H9.rdF (k:=6) rfl hfx).exL cP ii
    have hfb9:aF fx.fld (ii:Int)=x2:=kF h6
    refine w_v (nX ii (H9.rdF (k:=6) rfl hfx) (cP.flAt1 h6 rfl)) ?_
    refine cJ ?_
    rcases ef (x2) with H6 | H6
    ·
     refine aN H6 xm ?_
     refine aN H6 xn ?_
     refine aN H6 (xf 5) ?_
     refine aN H6 (xl H9 0) ?_
     refine aN H6 xm ?_
     refine aN H6 (iH ii (H9.rr 1)) ?_
     obtain ⟨g8,h5⟩:=(H9.rr 1).exL cP ii
     have hhad9:=kF h5
     have hhb9:aF A.had (ii:Int)=g8:=hhad9
     refine aN H6 (nX ii (H9.rr 1) (cP.flAt1 h5 rfl)) ?_
     refine aN H6 (cj (b:=g8) rfl rfl) ?_
     refine w_v (dH rfl rfl H6 rfl) ?_
     refine cJ ?_
     rcases ef (g8) with H3 | H3
     ·
      iterate 9 refine dh (aa H3) ?_
      refine w_v (pf (aa H3)) ?_
      refine cD ?_
      refine ah [0,7,27,28,56] ?_
      refine g_cond_f rfl rfl ?_
      refine aE ?_
      refine gI ii ?_
      refine ae ?_
      refine bD (i:=(ii)) ((ii+1)) ⟨(by omega),(d6 hno (cK (by omega)) (by unfold PK.openB; rw [hfb9]; simp_all)),(H9.tk [0,1,2,3,4,5,6,7,8])⟩
     refine aN (aa H3) xm ?_
     refine aN (aa H3) xn ?_
     refine aN (aa H3) (xf 6) ?_
     refine aN (aa H3) (xl H9 0) ?_
     refine aN (aa H3) xm ?_
     refine aN (aa H3) (iH ii (H9.rr 2)) ?_
     refine aN (v:=.pointer ((Z.wp).map fun q=>q.add (ii * 2+0))) (aa H3) (aH (bJ (m:=ii * 2) ((H9.rr 2).some (by omega)) rfl rfl sH) rfl) ?_
     obtain ⟨g7,h2⟩:=(H9.rr 2).exL lA ii
     have hlv9:=vi h2
     have hdu9:=wj h2
     have hwr9:=hI.wishr g7 (List.mem_of_getElem? h2)
     have hlb9:A.lv (ii:Int)=g7.lv:=hlv9
     refine aN (aa H3) (eX (i:=0) (j:=ii) lA (H9.rr 2) h2 rfl rfl Tryz.underlying3 rfl rfl) ?_
     refine aN (aa H3) (ai rfl rfl rfl fK) ?_
     refine w_v (pt (aa H3)) ?_
     refine cD ?_
     refine ah [0,7,27,28,56] ?_
     by_cases g1:(0:Int)<g7.lv
     ·
      refine bm g1 ?_
      refine cS ?_
      refine af ?_
      have hf9:fD A.peers k=some fx.pe:=by rw [← hfk]; exact jh hI.nd hfl
      have hV0:(A.intB k)=(jo A.n).any fun i=>A.openB i && aF fx.fld i:=by unfold PK.intB; rw [if_pos h0,hf9]; rfl
      have hV:(A.intB k)=true:=by rw [hV0,List.any_eq_true]; exact ⟨(ii:Int),List.mem_of_getElem? (cK (by omega)),by unfold PK.openB; rw [hfb9,hhb9,hlb9]; simp_all⟩
      rw [hV,h0]
      exact ⟨rfl,(H9.b7 [0,1,2,3,4,5,6,8])⟩
     refine br g1 ?_
     refine aE ?_
     refine gI ii ?_
     refine ae ?_
     refine bD (i:=(ii)) ((ii+1)) ⟨(by omega),(d6 hno (cK (by omega)) (by unfold PK.openB; rw [hfb9]; simp_all)),(H9.tk [0,1,2,3,4,5,6,7,8])⟩
    iterate 8 refine dh H6 ?_
    refine w_v (cH rfl rfl H6 rfl) ?_
    refine cJ ?_
    iterate 9 refine dh rfl ?_
    refine w_v (pf rfl) ?_
    refine cD ?_
    refine ah [0,7,27,28,56] ?_
    refine g_cond_f rfl rfl ?_
    refine aE ?_
    refine gI ii ?_
    refine ae ?_
    refine bD (i:=(ii)) ((ii+1)) ⟨(by omega),(d6 hno (cK (by omega)) (by unfold PK.openB; rw [hfb9]; simp_all)),(H9.tk [0,1,2,3,4,5,6,7,8])⟩
   refine br g2 ?_
   refine cS ?_
   refine af ?_
   have hf9:fD A.peers k=some fx.pe:=by rw [← hfk]; exact jh hI.nd hfl
   have hV0:(A.intB k)=(jo A.n).any fun i=>A.openB i && aF fx.fld i:=by unfold PK.intB; rw [if_pos h0,hf9]; rfl
   rw [List.take_of_length_le (by rw [je]; omega)] at hno
   have hV:(A.intB k)=false:=by rw [hV0,List.any_eq_false]; exact fun y hy=>by rw [hno y hy]; decide
   rw [hV,h0]
   exact ⟨rfl,(H9.b7 [0,1,2,3,4,5,6,8])⟩
  refine cA H7 na ?_
  intro x3 w8 x7
  refine bF (x7.tk [1,2,3,4,5,6,7,8]) ?_
  refine bG (i:=6) ?_
  have x6:=x7.b7 [1,2,3,4,5,6,7,0,8]
  refine aG (jL Z A j hZ hI k _ (x6.tk [0])) ?_
  rintro _ c9 ⟨fi31,rfl,hfi32,g9⟩
  replace g9:=x6.aI1 [0] g9
  obtain ⟨fi,fx,rfl,hfx,hfk⟩:=iC.is hZ h0 hfi32
  have hfl:=fU.at hZ hfx
  have hln:fx.fld.length=A.n∧fx.alw.length=A.n∧fx.sug.length=A.n:=hI.fl _ (List.mem_of_getElem? hfl)
  have hfi9:=(List.getElem?_eq_some_iff.1 hfx).1
  have g3:=g9.ub [0,1,2]
  refine bW ?_
  refine bF (g3.tk [0,1,2,3,4,5,6,8]) ?_
  refine bT (v:=.pointer ((Z.pp).map fun q=>q.add (fi * 6))) 7 rfl (g3.tk [0,1,2,3,4,5,6,8]) (fun _ _=>eZ fi ((g3.rr 5).some (by omega))) ?_
  refine bT (v:=.agg #[vI fx.k,.slice fx.fp fx.fld.length fx.fc,.slice fx.ap fx.alw.length fx.ac,.slice fx.sp fx.sug.length fx.sc,.bool fx.un,.bool fx.sn]) 8 rfl (g3.tk [0,1,2,3,4,5,6,8]) (fun _ H=>bc (vs:=mQ fx) fi (H.rr 5) (by omega) rfl rfl Tryz.underlying125 rfl rJ (by rfl) (mR.flAt hfx)) ?_
  refine bG (i:=10) ?_
  refine eu g3 7 ?_
  intro c8 x5
  refine bF (x5.tk [0,1,2,3,4,5,6,8]) ?_
  refine fP ?_
  refine aR ?_
  refine ah [0,7] ?_
  refine eG ?_
  refine cQ (ι:=Nat) (fun ii=>[(0,vP Z.g),(7,vP x3),(27,vI A.n),(28,vI ii)]) (fun ii wx=>(ii≤A.n)∧(∀ y∈(jo A.n).take ii,(A.openB y && aF fx.fld y)=false)∧S wx [Z0 Z A,Z1 Z A,Z2 Z A,Z3 Z A,Z4 Z A,Z5 Z,bM gW Z.rs,Ob x3 (.cells #[vI fx.k,.slice fx.fp fx.fld.length fx.fc,.slice fx.ap fx.alw.length fx.ac,.slice fx.sp fx.sug.length fx.sc,.bool fx.un,.bool fx.sn] 125 (0,0)),aB w (aT [(ZI Z A)])]) (fun ii=>A.n - ii) (0) ⟨(Nat.zero_le _),(fun y hy=>by simp at hy),(x5.tk [0,1,2,3,4,5,6,7,8])⟩ ?_
  rintro ii c7 ⟨hq,hno,H8⟩
  refine ah [0,7,27,28] ?_
  refine aC ?_
  refine g_seq ?_
  by_cases g0:((ii:Int):Int)<(A.n:Int)
  ·
   refine bm g0 ?_
   refine jG ?_
   refine w_v (iH ii (H8.rdF (k:=6) rfl hfx)) ?_
   obtain ⟨x1,h4⟩:=(H8.rdF (k:=6) rfl hfx).exL cP ii
   have hfb9:aF fx.fld (ii:Int)=x1:=kF h4
   refine w_v (nX ii (H8.rdF (k:=6) rfl hfx) (cP.flAt1 h4 rfl)) ?_
   refine cJ ?_
   rcases ef (x1) with H5 | H5
   ·
    refine aN H5 xm ?_
    refine aN H5 xn ?_
    refine aN H5 (xf 5) ?_
    refine aN H5 (xl H8 0) ?_
    refine aN H5 xm ?_
    refine aN H5 (iH ii (H8.rr 1)) ?_
    obtain ⟨g6,h3⟩:=(H8.rr 1).exL cP ii
    have hhad9:=kF h3
    have hhb9:aF A.had (ii:Int)=g6:=hhad9
    refine aN H5 (nX ii (H8.rr 1) (cP.flAt1 h3 rfl)) ?_
    refine aN H5 (cj (b:=g6) rfl rfl) ?_
    refine w_v (dH rfl rfl H5 rfl) ?_
    refine cJ ?_
    rcases ef (g6) with H2 | H2
    ·
     iterate 9 refine dh (aa H2) ?_
     refine w_v (pf (aa H2)) ?_
     refine cD ?_
     refine ah [0,7,27,28,56] ?_
     refine g_cond_f rfl rfl ?_
     refine aE ?_
     refine gI ii ?_
     refine ae ?_
     refine bD (i:=(ii)) ((ii+1)) ⟨(by omega),(d6 hno (cK (by omega)) (by unfold PK.openB; rw [hfb9]; simp_all)),(H8.tk [0,1,2,3,4,5,6,7,8])⟩
    refine aN (aa H2) xm ?_
    refine aN (aa H2) xn ?_
    refine aN (aa H2) (xf 6) ?_
    refine aN (aa H2) (xl H8 0) ?_
    refine aN (aa H2) xm ?_
    refine aN (aa H2) (iH ii (H8.rr 2)) ?_
    refine aN (v:=.pointer ((Z.wp).map fun q=>q.add (ii * 2+0))) (aa H2) (aH (bJ (m:=ii * 2) ((H8.rr 2).some (by omega)) rfl rfl sH) rfl) ?_
    obtain ⟨g5,h1⟩:=(H8.rr 2).exL lA ii
    have hlv9:=vi h1
    have hdu9:=wj h1
    have hwr9:=hI.wishr g5 (List.mem_of_getElem? h1)
    have hlb9:A.lv (ii:Int)=g5.lv:=hlv9
    refine aN (aa H2) (eX (i:=0) (j:=ii) lA (H8.rr 2) h1 rfl rfl Tryz.underlying3 rfl rfl) ?_
    refine aN (aa H2) (ai rfl rfl rfl fK) ?_
    refine w_v (pt (aa H2)) ?_
    refine cD ?_
    refine ah [0,7,27,28,56] ?_
    by_cases h7:(0:Int)<g5.lv
    ·
     refine bm h7 ?_
     refine cS ?_
     refine af ?_
     have hf9:fD A.peers k=some fx.pe:=by rw [← hfk]; exact jh hI.nd hfl
     have hV0:(A.intB k)=(jo A.n).any fun i=>A.openB i && aF fx.fld i:=by unfold PK.intB; rw [if_pos h0,hf9]; rfl
     have hV:(A.intB k)=true:=by rw [hV0,List.any_eq_true]; exact ⟨(ii:Int),List.mem_of_getElem? (cK (by omega)),by unfold PK.openB; rw [hfb9,hhb9,hlb9]; simp_all⟩
     rw [hV,h0]
     exact ⟨rfl,(H8.b7 [0,1,2,3,4,5,6,8])⟩
    refine br h7 ?_
    refine aE ?_
    refine gI ii ?_
    refine ae ?_
    refine bD (i:=(ii)) ((ii+1)) ⟨(by omega),(d6 hno (cK (by omega)) (by unfold PK.openB; rw [hfb9]; simp_all)),(H8.tk [0,1,2,3,4,5,6,7,8])⟩
   iterate 8 refine dh H5 ?_
   refine w_v (cH rfl rfl H5 rfl) ?_
   refine cJ ?_
   iterate 9 refine dh rfl ?_
   refine w_v (pf rfl) ?_
   refine cD ?_
   refine ah [0,7,27,28,56] ?_
   refine g_cond_f rfl rfl ?_
   refine aE ?_
   refine gI ii ?_
   refine ae ?_
   refine bD (i:=(ii)) ((ii+1)) ⟨(by omega),(d6 hno (cK (by omega)) (by unfold PK.openB; rw [hfb9]; simp_all)),(H8.tk [0,1,2,3,4,5,6,7,8])⟩
  refine br g0 ?_
  refine cS ?_
  refine af ?_
  have hf9:fD A.peers k=some fx.pe:=by rw [← hfk]; exact jh hI.nd hfl
  have hV0:(A.intB k)=(jo A.n).any fun i=>A.openB i && aF fx.fld i:=by unfold PK.intB; rw [if_pos h0,hf9]; rfl
  rw [List.take_of_length_le (by rw [je]; omega)] at hno
  have hV:(A.intB k)=false:=by rw [hV0,List.any_eq_false]; exact fun y hy=>by rw [hno y hy]; decide
  rw [hV,h0]
  exact ⟨rfl,(H8.b7 [0,1,2,3,4,5,6,8])⟩
 refine mX h0 ?_
 refine cp ?_
 refine af ?_
 have hV:(A.intB k)=false:=if_neg h0
 rw [hV]
 exact ⟨rfl,(H4.b7 [0,1,2,3,4,5,6,7])⟩
end Go.Proofs.YthmmfhdpkddniaaGreatDoor
