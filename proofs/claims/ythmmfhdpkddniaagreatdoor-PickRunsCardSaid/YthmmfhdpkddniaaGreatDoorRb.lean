import Derived.Test.YthmmfhdpkddniaaGreatDoorRa
set_option maxRecDepth 20000
set_option maxHeartbeats 4000000
set_option linter.all false
namespace Go.Proofs.YthmmfhdpkddniaaGreatDoor
open Go.RowKit
theorem zW:kf Tryz.prog 150=some (some (.agg #[.int .i64 0,.int .i64 0,.int .i64 0,.int .i64 0]),4,32):=by kernel_rfl
theorem Cd:jW Tryz.prog 35=some 1:=by kernel_rfl
theorem S.rpPut {w:World} {L:List aD} {rs:List Rp} {i:Nat} {x x':Rp} (h:S w (bM gW rs :: L)) (hx:rs[i]?=some x) (he:gW x'=gW x):S w (bM gW (rs.set i x') :: L):=by
 have h1:=S.lstOut h hx
 rw [← he] at h1
 exact S.lstIn h1 (List.getElem?_eq_some_iff.1 hx).1
theorem tc {α:Type} {enc:α→List Value} {l:List α} {i:Nat} {x y:α} (hx:l[i]?=some x) (he:enc y=enc x):fl enc (l.set i y)=fl enc l:=by
 obtain ⟨hi,e⟩:=List.getElem?_eq_some_iff.1 hx
 rw [Bd hx]
 conv=>rhs; rw [← List.take_append_drop i l,List.drop_eq_getElem_cons hi,e]
 rw [sJ,sJ]
 show _++(enc y++_)=_++(enc x++_)
 rw [he]
theorem Ft {w:World} {L:List aD} {rs:List Rp} {i n c:Nat} {p:Option Addr} {x:Rp} (j:Nat) (b:Bool) (hx:rs[i]?=some x) (h:S w (Rw 4 1 x.fp x.fld.length x.fc (fl cG (x.fld.set j b)) :: Rw 4 1 x.ap x.alw.length x.ac (fl cG x.alw) :: Rw 4 1 x.sp x.sug.length x.sc (fl cG x.sug) :: bM gW (rs.eraseIdx i) :: Rw 125 6 p n c (fl mQ rs) :: L)):S w (bM gW (rs.set i ({ x with fld:=x.fld.set j b }:Rp)) :: Rw 125 6 p n c (fl mQ (rs.set i ({ x with fld:=x.fld.set j b }:Rp))) :: L):=by
 have e1:fl mQ (rs.set i ({ x with fld:=x.fld.set j b }:Rp))=fl mQ rs:=tc hx (by unfold mQ; simp only [List.length_set])
 rw [e1]
 refine S.lstIn (F:=gW) (x:=({ x with fld:=x.fld.set j b }:Rp)) ?_ (List.getElem?_eq_some_iff.1 hx).1
 have h2:=S.big (L:=[_,_,_]) h
 have e2:gW ({ x with fld:=x.fld.set j b }:Rp)=fN [Rw 4 1 x.fp x.fld.length x.fc (fl cG (x.fld.set j b)),Rw 4 1 x.ap x.alw.length x.ac (fl cG x.alw),Rw 4 1 x.sp x.sug.length x.sc (fl cG x.sug)]:=by unfold gW; simp only [List.length_set]
 rw [e2]; exact h2
theorem Fu {w:World} {L:List aD} {rs:List Rp} {i n c:Nat} {p:Option Addr} {x:Rp} (j:Nat) (b:Bool) (hx:rs[i]?=some x) (h:S w (Rw 4 1 x.fp x.fld.length x.fc (fl cG x.fld) :: Rw 4 1 x.ap x.alw.length x.ac (fl cG (x.alw.set j b)) :: Rw 4 1 x.sp x.sug.length x.sc (fl cG x.sug) :: bM gW (rs.eraseIdx i) :: Rw 125 6 p n c (fl mQ rs) :: L)):S w (bM gW (rs.set i ({ x with alw:=x.alw.set j b }:Rp)) :: Rw 125 6 p n c (fl mQ (rs.set i ({ x with alw:=x.alw.set j b }:Rp))) :: L):=by
 have e1:fl mQ (rs.set i ({ x with alw:=x.alw.set j b }:Rp))=fl mQ rs:=tc hx (by unfold mQ; simp only [List.length_set])
 rw [e1]
 refine S.lstIn (F:=gW) (x:=({ x with alw:=x.alw.set j b }:Rp)) ?_ (List.getElem?_eq_some_iff.1 hx).1
 have h2:=S.big (L:=[_,_,_]) h
 have e2:gW ({ x with alw:=x.alw.set j b }:Rp)=fN [Rw 4 1 x.fp x.fld.length x.fc (fl cG x.fld),Rw 4 1 x.ap x.alw.length x.ac (fl cG (x.alw.set j b)),Rw 4 1 x.sp x.sug.length x.sc (fl cG x.sug)]:=by unfold gW; simp only [List.length_set]
 rw [e2]; exact h2
theorem Fq {w:World} {L:List aD} {rs:List Rp} {i n c:Nat} {p:Option Addr} {x:Rp} (j:Nat) (b:Bool) (hx:rs[i]?=some x) (h:S w (Rw 4 1 x.fp x.fld.length x.fc (fl cG x.fld) :: Rw 4 1 x.ap x.alw.length x.ac (fl cG x.alw) :: Rw 4 1 x.sp x.sug.length x.sc (fl cG (x.sug.set j b)) :: bM gW (rs.eraseIdx i) :: Rw 125 6 p n c (fl mQ rs) :: L)):S w (bM gW (rs.set i ({ x with sug:=x.sug.set j b }:Rp)) :: Rw 125 6 p n c (fl mQ (rs.set i ({ x with sug:=x.sug.set j b }:Rp))) :: L):=by
 have e1:fl mQ (rs.set i ({ x with sug:=x.sug.set j b }:Rp))=fl mQ rs:=tc hx (by unfold mQ; simp only [List.length_set])
 rw [e1]
 refine S.lstIn (F:=gW) (x:=({ x with sug:=x.sug.set j b }:Rp)) ?_ (List.getElem?_eq_some_iff.1 hx).1
 have h2:=S.big (L:=[_,_,_]) h
 have e2:gW ({ x with sug:=x.sug.set j b }:Rp)=fN [Rw 4 1 x.fp x.fld.length x.fc (fl cG x.fld),Rw 4 1 x.ap x.alw.length x.ac (fl cG x.alw),Rw 4 1 x.sp x.sug.length x.sc (fl cG (x.sug.set j b))]:=by unfold gW; simp only [List.length_set]
 rw [e2]; exact h2
theorem u3 {al:AL} {i:Nat} {a:Int × aV} (h:al[i]?=some a) {k:Int} {l:List aV}:cx (al.take (i+1)) k (fun x=>decide (x∈l))=if ¬ (a.1=k∧a.2∈l) then cx (al.take i) k (fun x=>decide (x∈l))++[a] else cx (al.take i) k (fun x=>decide (x∈l)):=by
 rw [aj h]
 unfold cx
 rw [List.filter_append]
 by_cases h1:a.1=k <;> by_cases h2:a.2∈l <;> simp [h1,h2]
theorem wM (Z:ZP) (A:PK) (j:Nat) (hZ:fU Z A) (hI:bQ j A) (k:Int) (l:List aV) (lp:Option Addr) (ln lc:Nat) (hl9:ln≤1099511627776) (hj:j≤100000)  (w:World) (HS:S w [(ZI Z A),Rw 44 3 lp ln lc (fl aO l)]):Calls Tryz.prog 118 #[vP Z.g,vI k,.slice lp ln lc] w fun e w'=>∃ ap' ac',e=.returned (.tuple #[])∧S w' ([(ZI ({ Z with ap:=ap',ac:=ac' }:ZP) ({ A with asked:=(cx A.asked k fun x=>decide (x∈l)) }:PK)),Rw 44 3 lp ln lc (fl aO l)]++[aB w (aT [(ZI Z A),Rw 44 3 lp ln lc (fl aO l)])]):=by
 have H0:=HS.beginI
 have h8:=hI.a8
 replace H0:=H0.ub [0,1,2]
 have hal9:=hI.al
 have hln9:=(H0.rr 7).lenL cN
 refine en Tryz.func118 ?_
 refine ah [0,1,2] ?_
 refine iF ?_
 have H1:=H0.nilFl 150 4 askL
 refine jG ?_
 refine cQ (ι:=Nat × Option Addr × Nat × AL) (fun (i,pq,cq,oz)=>[(0,vP Z.g),(1,vI k),(2,.slice lp ln lc),(6,.slice pq oz.length cq),(12,.slice Z.ap A.asked.length Z.ac),(13,vI A.asked.length),(14,vI i)]) (fun (i,pq,cq,oz) wx=>(i≤A.asked.length)∧(oz=cx (A.asked.take i) k fun x=>decide (x∈l))∧(oz.length≤i)∧S wx [Rw 150 4 pq oz.length cq (fl askL oz),Z0 Z A,Z1 Z A,Z2 Z A,Z3 Z A,Z4 Z A,Z5 Z,bM gW Z.rs,Rw 44 3 lp ln lc (fl aO l),aB w (aT [(ZI Z A),Rw 44 3 lp ln lc (fl aO l)])]) (fun (i,pq,cq,oz)=>A.asked.length - i) (0,none,0,[]) ⟨Nat.zero_le _,rfl,(Nat.le_refl 0),(H1.tk [0,1,2,3,4,5,6,7,8,9])⟩ ?_
 rintro ⟨i,pq,cq,oz⟩ x0 ⟨hi,hoz,hol,H3⟩
 refine MU [(0,_),(1,_),(2,_),(6,_),(12,_),(13,_),(14,_)] ?_
 refine iF ?_
 refine ae ?_
 refine g_seq ?_
 by_cases H9:((i:Int):Int)<(A.asked.length:Int)
 ·
  refine bm H9 ?_
  refine aQ ?_
  refine w_v (iH i (H3.rr 5)) ?_
  obtain ⟨x5,H6⟩:=(H3.rr 5).exL lC i
  refine w_v (bc (vs:=askL x5) i (H3.rr 5) (by omega) rfl rfl Tryz.underlying150 rfl DD (by rfl) (lC.flAt H6)) ?_
  refine l_of (cA H3 vc ?_)
  intro g6 g9 H8
  refine l_of (eu H8 0 ?_)
  intro g8 H5
  refine aQ ?_
  refine bP (v:=.bool (!decide ((x5.1:Int)=k))) (hb:=eh) ?_
  refine cJ ?_
  by_cases H2:(x5.1:Int)=k
  ·
   refine aN (nf H2) xm ?_
   refine aN (nf H2) (xf 1) ?_
   refine aN (v:=.agg #[.int .i64 (x5.2.pc),.int .i64 (x5.2.bg),.int .i64 (x5.2.ln)]) (nf H2) (iN H5 0 rfl rfl Tryz.underlying44 rfl dE rfl rfl rfl) ?_
   refine l_of (bZ H5 (cU rfl rfl rfl rfl (nf H2)) (aP rfl rfl DK) (zB l lp ln lc x5.2 (by omega) _ (H5.rwReads (k:=9) rfl)) rfl rfl ?_)
   intro h7 H7
   refine aN (nf H2) (cj (b:=(decide (x5.2∈l))) rfl rfl) ?_
   refine w_v (pf (nf H2)) ?_
   refine cD ?_
   refine ah [0,1,2,6,8,12,13,14,28] ?_
   rcases ef ((decide (x5.2∈l))) with H4 | H4
   ·
    refine g_cond_f rfl (aa H4) ?_
    refine aE ?_
    refine gI i ?_
    refine ae ?_
    refine bD (i:=(i,pq,cq,oz)) ((i+1),pq,cq,oz) ⟨by omega,(by rw [u3 H6,if_neg (fun h9=>h9 ⟨H2,of_decide_eq_true H4⟩)]; exact hoz),(by first | omega | (simp only [List.length_append,List.length_cons,List.length_nil]; omega)),(H7.tk [1,2,3,4,5,6,7,8,9,10])⟩
   refine g_cond_t rfl (aa H4) ?_
   refine ae ?_
   refine w_v (fS H7 0) ?_
   refine l_of (fC vc #[vI x5.1,vI x5.2.pc,vI x5.2.bg,vI x5.2.ln] H7 ?_)
   intro x2 h6 h1
   have hln22a:=(h1.rr 2).lenL lC
   have hln22:(oz++[x5]).length=oz.length+1:=by simp only [List.length_append,List.length_cons,List.length_nil] <;> omega
   refine l_of (fE zW [x5] lC h1 2 0 ?_)
   intro g1 g3 h5 g7
   refine aQ ?_
   refine gI i ?_
   refine ae ?_
   refine bD (i:=(i,pq,cq,oz)) ((i+1),g1,g3,(oz++[x5])) ⟨by omega,(by rw [u3 H6,if_pos (fun h9=>(of_decide_eq_false H4) h9.2),← hoz]),(by first | omega | (simp only [List.length_append,List.length_cons,List.length_nil]; omega)),(g7.tk [2,3,4,5,6,7,8,9,10,11])⟩
  iterate 5 refine dh (nt H2) ?_
  refine w_v (pt (nt H2)) ?_
  refine cD ?_
  refine ah [0,1,2,6,8,12,13,14,28] ?_
  refine g_cond_t rfl rfl ?_
  refine ae ?_
  refine w_v (fS H5 0) ?_
  refine l_of (fC vc #[vI x5.1,vI x5.2.pc,vI x5.2.bg,vI x5.2.ln] H5 ?_)
  intro x1 h4 h0
  have hln30a:=(h0.rr 2).lenL lC
  have hln30:(oz++[x5]).length=oz.length+1:=by simp only [List.length_append,List.length_cons,List.length_nil] <;> omega
  refine l_of (fE zW [x5] lC h0 2 0 ?_)
  intro g0 g2 h3 g5
  refine aQ ?_
  refine gI i ?_
  refine ae ?_
  refine bD (i:=(i,pq,cq,oz)) ((i+1),g0,g2,(oz++[x5])) ⟨by omega,(by rw [u3 H6,if_pos (fun h9=>H2 h9.1),← hoz]),(by first | omega | (simp only [List.length_append,List.length_cons,List.length_nil]; omega)),(g5.tk [2,3,4,5,6,7,8,9,10,11])⟩
 refine br H9 ?_
 refine cS ?_
 refine l_of (eu H3 1 ?_)
 intro h2 g4
 refine aR ?_
 refine dO [] [] rfl trivial ?_
 rw [List.take_of_length_le (by omega)] at hoz
 rw [← hoz]
 exact ⟨pq,cq,rfl,(g4.b7 [1,2,3,4,0,6,7,8,9])⟩
theorem DU (Z:ZP) (A:PK) (j:Nat) (hZ:fU Z A) (hI:bQ j A) (i:Int) (hi:0≤i∧i<(A.n:Int)) (hj:j≤100000)  (w:World) (HS:S w [(ZI Z A)]):Calls Tryz.prog 126 #[vP Z.g,vI i] w fun e w'=>e=.returned (.bool (A.wholeB i))∧S w' ([(ZI Z A)]++[aB w (aT [(ZI Z A)])]):=by
 have H0:=HS.bu
 have h8:=hI.a8
 have hhl9:=hI.hl
 refine en Tryz.func126 ?_
 refine ah [0,1] ?_
 refine cp ?_
 have H3:=H0.b7 [0,1,2,3,4,5,6,7]
 refine l_of (aG (nz Z A j hZ hI i (by omega) _ (H3.tk [0])) ?_)
 rintro _ g2 ⟨pb1,cb2,rfl,H5⟩
 replace H5:=H3.aI2 [0] H5
 have hblpb1:=(cZ hI i).2
 have H6:=H5.ub [1,0,2]
 refine bW ?_
 refine aE ?_
 refine cQ (ι:=Nat) (fun qi=>[(0,vP Z.g),(9,.slice pb1 ((A.blocks i).length) cb2),(10,vI (((A.blocks i).length:Int))),(11,vI qi)]) (fun qi wx=>(qi≤(A.blocks i).length)∧(∀ y∈(A.blocks i).take qi,y∈A.here)∧S wx [Rw 44 3 pb1 ((A.blocks i).length) cb2 (fl aO (A.blocks i)),Z0 Z A,Z1 Z A,Z2 Z A,Z3 Z A,Z4 Z A,Z5 Z,bM gW Z.rs,aB w (aT [(ZI Z A)])]) (fun qi=>((A.blocks i).length) - qi) (0) ⟨Nat.zero_le _,(fun y hy=>by simp at hy),(H6.tk [7,0,1,2,3,4,5,6,8])⟩ ?_
 rintro qi g1 ⟨hqi,hno,H8⟩
 refine ah [0,9,10,11] ?_
 refine aC ?_
 refine g_seq ?_
 by_cases h2:((qi:Int):Int)<((A.blocks i).length:Int)
 ·
  refine bm h2 ?_
  refine aQ ?_
  refine w_v (iH qi (H8.rr 0)) ?_
  obtain ⟨H7,H4⟩:=(H8.rr 0).exL cN qi
  refine w_v (bc (vs:=aO H7) qi (H8.rr 0) (by omega) rfl rfl Tryz.underlying44 rfl dE (by rfl) (cN.flAt H4)) ?_
  refine l_of (cA H8 gX ?_)
  intro g3 h7 g0
  refine l_of (eu g0 0 ?_)
  intro h6 h9
  refine cD ?_
  refine g_seq ?_
  refine g_aM [] [0,2] [] h9 (fun h5 h1=>?_)
  have H9:=h1.tk [0,2]
  refine aU 0 H9 ?_
  refine aU 1 H9 ?_
  refine aU 2 H9 ?_
  refine eY 3 1 H9 ?_
  refine bT 4 rfl H9 (fun _ H=>fS H 0) ?_
  refine bG (i:=5) ?_
  refine cz h1 (zB A.here Z.ep A.here.length Z.ec H7 (by omega) _ (h1.rr 5)) ?_
  intro h4 h0
  have h3:=h0.tk [0,2]
  refine bF h3 ?_
  refine bT (v:=.bool (!((decide (H7∈A.here))))) 6 rfl h3 (fun _ _=>cj (b:=(decide (H7∈A.here))) rfl rfl) ?_
  refine fP ?_
  refine aR ?_
  rcases ef ((decide (H7∈A.here))) with H2 | H2
  ·
   refine g_cond_f rfl (aa H2) ?_
   refine aE ?_
   refine gI qi ?_
   refine ae ?_
   refine bD (i:=(qi)) ((qi+1)) ⟨by omega,(d6 hno H4 (of_decide_eq_true H2)),(h0.tk [1,2,3,4,5,6,7,8,9])⟩
  refine g_cond_t rfl (aa H2) ?_
  refine aC ?_
  refine ah [4] ?_
  refine a_ ?_
  refine af ?_
  have he9:A.wholeB i=false:=by unfold PK.wholeB; rw [List.all_eq_false]; exact ⟨H7,vT H4,by rw [H2]; decide⟩
  rw [he9]
  exact ⟨rfl,(h0.b7 [2,3,4,5,6,7,8,9])⟩
 refine br h2 ?_
 refine eG ?_
 refine af ?_
 rw [List.take_of_length_le (by omega)] at hno
 have he9:A.wholeB i=true:=by unfold PK.wholeB; rw [List.all_eq_true]; exact fun y hy=>dt (hno y hy)
 rw [he9]
 exact ⟨rfl,(H8.b7 [1,2,3,4,5,6,7,8])⟩
theorem Bv (Z:ZP) (A:PK) (j:Nat) (hZ:fU Z A) (hI:bQ j A) (i:Int) (hj:j≤100000)  (w:World) (HS:S w [(ZI Z A)]):Calls Tryz.prog 128 #[vP Z.g,vI i] w fun e w'=>∃ ep' ec' ap' ac',e=.returned (.tuple #[])∧S w' ([(ZI ({ Z with ep:=ep',ec:=ec',ap:=ap',ac:=ac' }:ZP) ({ A with here:=(A.forget i).here,asked:=(A.forget i).asked }:PK))]++[aB w (aT [(ZI Z A)])]):=by
 have H0:=HS.bu
 have h8:=hI.a8
 have hhl9:=hI.hl
 have hal9:=hI.al
 refine en Tryz.func128 ?_
 refine ah [0,1] ?_
 refine iF ?_
 have H1:=H0.nilFl 44 3 aO
 refine jG ?_
 refine cQ (ι:=Nat × Option Addr × Nat × List aV) (fun (i2,pq,cq,oz)=>[(0,vP Z.g),(1,vI i),(4,.slice pq oz.length cq),(13,.slice Z.ep A.here.length Z.ec),(14,vI A.here.length),(15,vI i2)]) (fun (i2,pq,cq,oz) wx=>(i2≤A.here.length)∧(oz=(A.here.take i2).filter fun c=>decide (c.pc ≠ i))∧(oz.length≤i2)∧S wx [Rw 44 3 pq oz.length cq (fl aO oz),Z0 Z A,Z1 Z A,Z2 Z A,Z3 Z A,Z4 Z A,Z5 Z,bM gW Z.rs,aB w (aT [(ZI Z A)])]) (fun (i2,pq,cq,oz)=>A.here.length - i2) (0,none,0,[]) ⟨Nat.zero_le _,rfl,(Nat.le_refl 0),(H1.tk [0,1,2,3,4,5,6,7,8])⟩ ?_
 rintro ⟨i2,pq,cq,oz⟩ c6 ⟨hi2,hoz,hol,H3⟩
 refine ah [0,1,4,13,14,15] ?_
 refine aC ?_
 refine g_seq ?_
 by_cases h3:((i2:Int):Int)<(A.here.length:Int)
 ·
  refine bm h3 ?_
  refine aQ ?_
  refine w_v (iH i2 (H3.rr 4)) ?_
  obtain ⟨x5,h0⟩:=(H3.rr 4).exL cN i2
  refine w_v (bc (vs:=aO x5) i2 (H3.rr 4) (by omega) rfl rfl Tryz.underlying44 rfl dE (by rfl) (cN.flAt h0)) ?_
  refine l_of (cA H3 gX ?_)
  intro g6 x9 H8
  refine l_of (eu H8 0 ?_)
  intro x8 h2
  refine aQ ?_
  refine bP (v:=.bool (!decide ((x5.pc:Int)=i))) (hb:=eh) ?_
  refine cD ?_
  by_cases H5:(x5.pc:Int)=i
  ·
   refine kw H5 ?_
   refine aE ?_
   refine gI i2 ?_
   refine ae ?_
   refine bD (i:=(i2,pq,cq,oz)) ((i2+1),pq,cq,oz) ⟨by omega,(by rw [aj h0,List.filter_append,List.filter_cons,if_neg (by simp [H5]),List.filter_nil,List.append_nil]; exact hoz),(by first | omega | (simp only [List.length_append,List.length_cons,List.length_nil]; omega)),(h2.tk [1,2,3,4,5,6,7,8,9])⟩
  refine mX H5 ?_
  refine ae ?_
  refine w_v (fS h2 0) ?_
  refine l_of (fC gX #[vI x5.pc,vI x5.bg,vI x5.ln] h2 ?_)
  intro c9 g5 h5
  have hln19a:=(h5.rr 2).lenL cN
  have hln19:(oz++[x5]).length=oz.length+1:=by simp only [List.length_append,List.length_cons,List.length_nil] <;> omega
  refine l_of (fE kN [x5] cN h5 2 0 ?_)
  intro g8 x0 g4 x7
  refine aE ?_
  refine ah [0,1,4,13,14,15] ?_
  refine aR ?_
  refine gI i2 ?_
  refine ae ?_
  refine bD (i:=(i2,pq,cq,oz)) ((i2+1),g8,x0,(oz++[x5])) ⟨by omega,(by rw [aj h0,List.filter_append,List.filter_cons,if_pos (by simp [H5]),← hoz]; rfl),(by first | omega | (simp only [List.length_append,List.length_cons,List.length_nil]; omega)),(x7.tk [2,3,4,5,6,7,8,9,10])⟩
 refine br h3 ?_
 refine aR ?_
 rw [List.take_of_length_le (by omega)] at hoz
 have hhe:oz=(A.forget i).here:=hoz
 clear hoz
 subst hhe
 refine eG ?_
 refine l_of (eu H3 1 ?_)
 intro g3 x6
 refine ae ?_
 have x4:=x6.nilFl 150 4 askL
 refine io ?_
 refine ah [0,1,7,35,36,37] ?_
 refine aR ?_
 refine cQ (ι:=Nat × Option Addr × Nat × List (Int × aV)) (fun (i2,pv,cv,oz)=>[(0,vP Z.g),(1,vI i),(7,.slice pv oz.length cv),(35,.slice Z.ap A.asked.length Z.ac),(36,vI A.asked.length),(37,vI i2)]) (fun (i2,pv,cv,oz) wx=>(i2≤A.asked.length)∧(oz=(A.asked.take i2).filter fun a=>decide (a.2.pc ≠ i))∧(oz.length≤i2)∧S wx [Rw 150 4 pv oz.length cv (fl askL oz),Ob Z.g (.cells #[vI A.n,vI A.pz,vI A.la,.string (A.seed),.bool A.ino,.slice Z.hp A.had.length Z.hc,.slice Z.wp A.wish.length Z.wc,.slice pq (((A.forget i).here).length) cq,.slice Z.ap A.asked.length Z.ac,.slice Z.pp Z.rs.length Z.pc] 97 (0,0)),Z1 Z A,Z2 Z A,Rw 44 3 pq (((A.forget i).here).length) cq (fl aO ((A.forget i).here)),Z4 Z A,Z5 Z,bM gW Z.rs,aB w (aT [(ZI Z A)])]) (fun (i2,pv,cv,oz)=>A.asked.length - i2) (0,none,0,[]) ⟨Nat.zero_le _,rfl,(Nat.le_refl 0),(x4.tk [0,2,3,4,1,6,7,8,9])⟩ ?_
 rintro ⟨i2,pv,cv,oz⟩ g2 ⟨hi2,hoz,hol,H9⟩
 refine ah [0,1,7,35,36,37] ?_
 refine aC ?_
 refine g_seq ?_
 by_cases H7:((i2:Int):Int)<(A.asked.length:Int)
 ·
  refine bm H7 ?_
  refine aQ ?_
  refine w_v (iH i2 (H9.rr 5)) ?_
  obtain ⟨H2,H6⟩:=(H9.rr 5).exL lC i2
  refine w_v (bc (vs:=askL H2) i2 (H9.rr 5) (by omega) rfl rfl Tryz.underlying150 rfl DD (by rfl) (lC.flAt H6)) ?_
  refine l_of (cA H9 vc ?_)
  intro c8 g1 x3
  refine l_of (eu x3 0 ?_)
  intro g0 h1
  refine a_ ?_
  refine bP (v:=.bool (!decide ((H2.2.pc:Int)=i))) (hb:=eh) ?_
  refine cD ?_
  by_cases H4:(H2.2.pc:Int)=i
  ·
   refine kw H4 ?_
   refine aE ?_
   refine gI i2 ?_
   refine ae ?_
   refine bD (i:=(i2,pv,cv,oz)) ((i2+1),pv,cv,oz) ⟨by omega,(by rw [aj H6,List.filter_append,List.filter_cons,if_neg (by simp [H4]),List.filter_nil,List.append_nil]; exact hoz),(by first | omega | (simp only [List.length_append,List.length_cons,List.length_nil]; omega)),(h1.tk [1,2,3,4,5,6,7,8,9])⟩
  refine mX H4 ?_
  refine ae ?_
  refine w_v (fS h1 0) ?_
  refine l_of (fC vc #[vI H2.1,vI H2.2.pc,vI H2.2.bg,vI H2.2.ln] h1 ?_)
  intro c7 h9 h4
  have hln40a:=(h4.rr 2).lenL lC
  have hln40:(oz++[H2]).length=oz.length+1:=by simp only [List.length_append,List.length_cons,List.length_nil] <;> omega
  refine l_of (fE zW [H2] lC h4 2 0 ?_)
  intro g7 g9 h7 x2
  refine aE ?_
  refine ah [0,1,7,35,36,37] ?_
  refine aR ?_
  refine gI i2 ?_
  refine ae ?_
  refine bD (i:=(i2,pv,cv,oz)) ((i2+1),g7,g9,(oz++[H2])) ⟨by omega,(by rw [aj H6,List.filter_append,List.filter_cons,if_pos (by simp [H4]),← hoz]; rfl),(by first | omega | (simp only [List.length_append,List.length_cons,List.length_nil]; omega)),(x2.tk [2,3,4,5,6,7,8,9,10])⟩
 refine br H7 ?_
 refine cS ?_
 refine l_of (eu H9 1 ?_)
 intro h6 x1
 refine aR ?_
 refine dO [] [] rfl trivial ?_
 rw [List.take_of_length_le (by omega)] at hoz
 have hoz:oz=(A.forget i).asked:=hoz
 rw [← hoz]
 exact ⟨pq,cq,pv,cv,rfl,(x1.b7 [1,2,3,4,0,6,7,8])⟩
end Go.Proofs.YthmmfhdpkddniaaGreatDoor
