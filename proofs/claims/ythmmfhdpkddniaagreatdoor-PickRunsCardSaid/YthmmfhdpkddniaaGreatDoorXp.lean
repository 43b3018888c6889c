import Derived.Test.YthmmfhdpkddniaaGreatDoorXo
set_option maxRecDepth 20000
set_option maxHeartbeats 4000000
set_option linter.all false
namespace Go.Proofs.YthmmfhdpkddniaaGreatDoor
open Go.RowKit
theorem P5:aI Tryz.prog 51=true:=by kernel_rfl
theorem IF {A:PK} {bs:List Bk} {i:Nat} {r:Bk} {c:aV} (h:pV A bs) (hc:A.isB c) (hx:bs[i]?=some r) (hp:r.pl=c.at):pV { A with here:=A.here++[c] } (bs.set i { r with here:=true }):=by
 refine h.set1 hx hp rfl (fun p hp=>vN (A:=A) (A':={ A with here:=A.here++[c] }) rfl rfl rfl (fun d hd=>⟨by
   show d∈A.here++[c] ↔ _
   rw [List.mem_append,List.mem_singleton]; exact ⟨fun h=>h.resolve_right hd,.inl⟩,rfl⟩) hp) ?_
 have hin:c∈({ A with here:=A.here++[c] }:PK).here:=List.mem_append_right _ (List.mem_singleton.2 rfl)
 rw [mj (A:={ A with here:=A.here++[c] }) hc,Dj hin,if_neg (by decide),dt hin]
 show some (true,cn A.asked c)=some (true,r.asked)
 rw [(h.ent hc hx hp).2]
theorem di.put {X:XP} {A:PK} {bs:List Bk} {H:List aV} (hX:di X A) (hb:pV { A with here:=H } bs):di { X with bs:=bs } { A with here:=H }:=⟨hX.ms,hX.ask,hb.bn,hb.bf⟩
theorem KF {A:PK} {k:Int} {c:aV} (h:¬ A.boE k c.pc=0):A.hereE k c=A.boE k c.pc:=by
 unfold PK.hereE
 by_cases hn:c.pc<0
 · rw [if_pos hn]; exact (if_pos (.inr (.inl hn))).symm
 · rw [if_neg hn,if_pos h]
theorem BI {al:AL} {k:Int} {c:aV}:cx al k (fun y=>decide (y∈[c]))=cx al k (fun y=>decide (y=c)):=o0 fun _ _=>by simp
theorem yi {X:XP} {A:PK} {j:Nat} {ms:List Mt} (hX:di X A) (hI:bQ j A) (hmm:gV ms=gV X.ms) {x:Int} {c:aV} (h:(x,c)∈A.asked):(gV ms x).isSome=true∧1≤x∧x≤1000:=by
 obtain ⟨⟨p,hp,hk⟩,_⟩:=hI.ak _ h
 have hk:p.k=x:=hk
 have h1:=hI.kr p hp
 refine ⟨?_,by omega,by omega⟩
 rw [hmm,hX.mtN]
 cases hf:fD A.peers x with
 | none=>exact absurd hk (lu hf p hp)
 | some q=>rfl
theorem Ow (X:XP) (A:PK) (j:Nat) (hX:di X A) (hI:bQ j A) (k:Int) (c:aV) (hj:j<100000)  (w:World) (HS:S w [(XI X A)]):Calls Tryz.prog 18 #[vP X.g,vI k,.agg #[vI c.pc,vI c.bg,vI c.ln]] w fun e w'=>∃ (Y:XP),Y.g=X.g∧di Y (A.hereA k c)∧∃ p' c',e=.returned (.tuple #[.slice p' (A.hereL k c).length c',.bool (A.hereW k c),vI (A.hereE k c)])∧S w' ([Rw 110 4 p' (A.hereL k c).length c' (fl askL (A.hereL k c)),(XI Y (A.hereA k c))]++[aB w (aT [(XI X A)])]):=by
 have H0:=HS.bu
 have h8:=hI.a8
 refine mG Tryz.func18 ?_
 refine ah [0,1,2] ?_
 refine iF ?_
 refine l_of (fq H0 ?_)
 intro g1 y3 H3
 refine ru ?_
 refine l_of (cA H3 l_ ?_)
 intro g4 y2 H6
 refine ae ?_
 refine l_of (eM (bh rfl) rfl (dc rfl rfl rfl) ?_)
 refine a_ ?_
 by_cases H7:(A.boE k c.pc)=0
 ·
  have m1:=H6.b7 [2,3,4,5,6,7,8,0,1,9]
  refine l_of (aG (wH X A j hX hI k c.pc H7 _ (m1.tk [0])) ?_)
  rintro _ r4 ⟨y4,m9,u9,v0,rfl,y1⟩
  have k0:=m1.au y1
  refine bW ?_
  refine aC ?_
  refine w_v (fS k0 8) ?_
  by_cases H2:A.isB c
  ·
   have hir9:0≤c.pc∧c.pc<(A.n:Int):=⟨H2.1,H2.2.1⟩
   refine l_of (fZ k0 [0,1,2,3,4,5,6,7,8,9] (PW X A j hX hI c (fQ (by assumption)).2 H2 _) ?_)
   intro r3 y0
   refine cD ?_
   refine g_seq ?_
   refine g_any [(0,vP X.g),(1,vI k),(2,.agg #[vI c.pc,vI c.bg,vI c.ln]),(5,vP g1),(6,.slice none 0 0),(7,.bool false),(8,vP g4),(12,vP X.g),(13,vI k),(14,vP g1),(15,vI c.pc),(16,vP m9.b),(17,vP X.g),(18,.agg #[vI c.pc,vI c.bg,vI c.ln]),(19,.tuple #[])] (fun wx=>S wx [X0 X A,X1 X A,X2 X A,X3 X,bM fA X.ms,X5 X,bM g_ X.bs,Ob g4 (.cells #[vI 0] 30 (0,0)),Ob g1 (.cells #[vI c.pc,vI c.bg,vI c.ln] 44 (0,0)),aB w (aT [(XI X A)])]) [] (by kernel_rfl) y0 (fun r2 g7=>?_)
   refine aU 0 g7 ?_
   refine aU 1 g7 ?_
   refine aU 2 g7 ?_
   refine eY 3 0 g7 ?_
   refine bT 4 rfl g7 (fun _ H=>fS H 8) ?_
   refine bG (i:=5) ?_
   refine cz g7 (sr c _) ?_
   intro r1 w9
   refine bF w9 ?_
   refine bT (v:=(pJ ((gZ X.bs) c.at))) 6 rfl w9 (fun _ H=>aH (bU (x:=c.at) jp H 5 rfl rfl rfl rfl ((wy hI H2)) vw) (rfl)) ?_
   refine bG (i:=7) ?_
   refine iW xa ?_
   refine bF w9 ?_
   refine fP ?_
   refine aR ?_
   refine ah [0,1,5,6,7,8,9] ?_
   refine g_seq ?_
   refine g_anyY [(0,vP X.g),(1,vI k),(5,vP g1),(6,.slice none 0 0),(7,.bool false),(8,vP g4),(9,(pJ ((gZ X.bs) c.at)))] (fun wx=>S wx [X0 X A,X1 X A,X2 X A,X3 X,bM fA X.ms,X5 X,bM g_ X.bs,Ob g4 (.cells #[vI 0] 30 (0,0)),Ob g1 (.cells #[vI c.pc,vI c.bg,vI c.ln] 44 (0,0)),aB w (aT [(XI X A)])]) (fun wx=>S wx [X0 X A,X1 X A,X2 X A,X3 X,bM fA X.ms,X5 X,bM g_ X.bs,Ob g4 (.cells #[vI 0] 30 (0,0)),Ob g1 (.cells #[vI c.pc,vI c.bg,vI c.ln] 44 (0,0)),aB w (aT [(XI X A)])]) [] (by kernel_rfl) w9 (fun r0 h5=>?_)
   refine fu 0 ?_
   refine fu 1 ?_
   refine fu 2 ?_
   refine Dw 3 0 h5 ?_
   refine fu 4 ?_
   refine Dw 5 8 h5 ?_
   refine rE 6 rfl (fun _=>eZ ((c.pc).toNat) ((h5.rr 1).some (by omega))) ?_
   obtain ⟨x5,g8⟩:=(h5.rr 1).exL cP ((c.pc).toNat)
   have hhad9:aF A.had c.pc=x5:=gv g8
   refine yt 7 rfl h5 (fun _ H=>nX ((c.pc).toNat) (H.rr 1) (cP.flAt1 g8 rfl)) ?_
   refine rE (v:=.bool (!x5)) 8 rfl (fun _=>cj (b:=x5) rfl rfl) ?_
   refine fu 9 ?_
   rcases ef (x5) with H5 | H5
   ·
    refine iV 10 rfl (nY rfl rfl rfl rfl (aa H5)) rfl rfl rfl (by kernel_rfl) (by kernel_rfl) (by kernel_rfl) (by kernel_rfl) ?_
    refine iV 11 rfl (nY rfl rfl rfl rfl (aa H5)) rfl rfl rfl (by kernel_rfl) (by kernel_rfl) (by kernel_rfl) (by kernel_rfl) ?_
    refine iV 12 rfl (nY rfl rfl rfl rfl (aa H5)) rfl rfl rfl (by kernel_rfl) (by kernel_rfl) (by kernel_rfl) (by kernel_rfl) ?_
    refine iV 13 rfl (Py rfl rfl rfl rfl) rfl rfl rfl (by kernel_rfl) (by kernel_rfl) (by kernel_rfl) (by kernel_rfl) ?_
    refine iV 14 rfl (Py rfl rfl rfl rfl) rfl rfl rfl (by kernel_rfl) (by kernel_rfl) (by kernel_rfl) (by kernel_rfl) ?_
    refine iV 15 rfl (Py rfl rfl rfl rfl) rfl rfl rfl (by kernel_rfl) (by kernel_rfl) (by kernel_rfl) (by kernel_rfl) ?_
    refine iV 16 rfl (Py rfl rfl rfl rfl) rfl rfl rfl (by kernel_rfl) (by kernel_rfl) (by kernel_rfl) (by kernel_rfl) ?_
    refine iV 17 rfl (Py rfl rfl rfl rfl) rfl rfl rfl (by kernel_rfl) (by kernel_rfl) (by kernel_rfl) (by kernel_rfl) ?_
    refine iV 18 rfl (nY rfl rfl rfl rfl (aa H5)) rfl rfl rfl (by kernel_rfl) (by kernel_rfl) (by kernel_rfl) (by kernel_rfl) ?_
    refine rE 19 rfl (fun _=>pf (aa H5)) ?_
    refine sf (i:=20) ?_
    refine aG (fh false 9 rfl _) ?_
    rintro _ q9 ⟨rfl,w8⟩
    replace w8:=h5.ab0 w8
    refine bB ?_
    refine G1 ⟨rfl,rfl,rfl,rfl,rfl,rfl,rfl,trivial⟩ ?_
    refine aA ?_
    refine aX ?_
    refine dV (bC g4 9 (0) [] _ (w8.ob (k:=7) rfl)) ?_
    rintro _ _ q8 ⟨⟨rfl,c9⟩,rfl⟩
    replace c9:=w8.aK 7 c9
    refine we c9 0 ?_
    have hE:(A.hereE k c)=9:=by unfold PK.hereE; rw [if_neg (by have h9:=(fQ H7).2; omega),if_neg (fun h9=>h9 H7),if_neg (fun h9=>h9 H2),if_pos (.inl (hhad9.trans H5))]
    have hng:¬ ((A.hereE k c)=0):=by rw [hE]; decide
    have hL9:(A.hereL k c)=[]:=if_neg hng
    have hW9:(A.hereW k c)=false:=if_neg hng
    have hA9:A.hereA k c=A:=if_neg hng
    rw [hL9,hW9,hA9,hE]
    exact ⟨X,rfl,hX,none,0,rfl,(c9.b7 [1,2,3,4,5,6,7,9]).nilFl 110 4 askL⟩
   refine Jy 10 rfl (cU rfl rfl rfl rfl (aa H5)) rfl rfl rfl (by kernel_rfl) (fun _=>bY rfl rfl) ?_
   refine Jy (v:=.bool (!(((gZ X.bs) c.at).isSome))) 11 rfl (cU rfl rfl rfl rfl (aa H5)) rfl rfl rfl (by kernel_rfl) (fun _=>ai rfl rfl rfl (oD Tryz.underlying98)) ?_
   refine Jy 12 rfl (cU rfl rfl rfl rfl (aa H5)) rfl rfl rfl (by kernel_rfl) (fun _=>bY rfl rfl) ?_
   rcases ef (((gZ X.bs) c.at).isSome) with H4 | H4
   ·
    obtain ⟨ir,r,hrq,hrk,hrb,hrf⟩:=uM H4
    rw [hG hrb]
    refine Jy 13 rfl (cU rfl rfl rfl rfl (aa H4)) rfl rfl rfl (by kernel_rfl) (fun _=>bY rfl rfl) ?_
    refine Jy 14 rfl (cU rfl rfl rfl rfl (aa H4)) rfl rfl rfl (by kernel_rfl) (fun _=>fm rfl rfl) ?_
    refine Jy 15 rfl (cU rfl rfl rfl rfl (aa H4)) rfl rfl rfl (by kernel_rfl) (fun _=>c_ (off':=0) rfl rfl Ad rfl) ?_
    refine uG (v:=.bool r.here) 16 rfl (cU rfl rfl rfl rfl (aa H4)) rfl rfl rfl (by kernel_rfl) (by kernel_rfl) (by kernel_rfl) (by kernel_rfl) (by kernel_rfl) h5 (fun wx H=>f_ rfl rfl Tryz.underlying4 rfl (H.bkCell (k:=6) rfl hrq (c:=0) rfl)) ?_
    refine Jy (v:=.bool (!(r.here))) 17 rfl (cU rfl rfl rfl rfl (aa H4)) rfl rfl rfl (by kernel_rfl) (fun _=>cj (b:=r.here) rfl rfl) ?_
    refine Jy (v:=.bool (!(r.here))) 18 rfl (cU rfl rfl rfl rfl (aa H5)) rfl rfl rfl (by kernel_rfl) (fun _=>pf (aa H4)) ?_
    refine rE 19 rfl (fun _=>pt (aa H5)) ?_
    refine sf (i:=20) ?_
    rcases ef (r.here) with h2 | h2
    ·
     refine aG (fh (!(r.here)) 9 (aa h2) _) ?_
     rintro _ q7 ⟨rfl,c8⟩
     replace c8:=h5.ab0 c8
     refine bB ?_
     refine G1 ⟨rfl,rfl,rfl,rfl,rfl,rfl,rfl,trivial⟩ ?_
     refine aA ?_
     refine aX ?_
     refine dV (bC g4 9 (0) [] _ (c8.ob (k:=7) rfl)) ?_
     rintro _ _ q6 ⟨⟨rfl,c7⟩,rfl⟩
     replace c7:=c8.aK 7 c7
     refine we c7 0 ?_
     have hE:(A.hereE k c)=9:=by unfold PK.hereE; rw [if_neg (by have h9:=(fQ H7).2; omega),if_neg (fun h9=>h9 H7),if_neg (fun h9=>h9 H2),if_pos (.inr (of_decide_eq_true ((hX.bok.ent H2 hrq hrk).1.symm.trans h2)))]
     have hng:¬ ((A.hereE k c)=0):=by rw [hE]; decide
     have hL9:(A.hereL k c)=[]:=if_neg hng
     have hW9:(A.hereW k c)=false:=if_neg hng
     have hA9:A.hereA k c=A:=if_neg hng
     rw [hL9,hW9,hA9,hE]
     exact ⟨X,rfl,hX,none,0,rfl,(c7.b7 [1,2,3,4,5,6,7,9]).nilFl 110 4 askL⟩
    refine cz h5 (ez (!(r.here)) 9 (aa h2) _) ?_
    intro q5 x0
    refine Ca x0 x0 ?_
    refine Cb ?_
    refine aR ?_
    refine ah [0,1,5,6,7,8,9] ?_
    refine ae ?_
    refine bP (v:=.bool true) (hb:=(lG (r:=false) Tryz.underlying98 rfl)) ?_
    refine cJ ?_
    refine aN rfl xm ?_
    refine aN rfl xn ?_
    refine aN rfl (xf 1) ?_
    refine aN (v:=.slice r.ap r.asked.length r.ac) rfl (f_ rfl rfl Tryz.underlying59 rfl (x0.bkCell (k:=6) rfl hrq (c:=1) rfl)) ?_
    refine aN rfl xm ?_
    refine l_of (bZ x0 (cU rfl rfl rfl rfl rfl) (aP rfl rfl P5) (Ho r.asked r.ap r.asked.length r.ac k ((by have h9:=kY A.asked c; have h8:=hI.al; have h7:=(hX.bok.ent H2 hrq hrk).2; rw [h7]; omega)) _ (x0.bkAsk (k:=6) rfl hrq)) rfl rfl ?_)
    intro q4 m0
    refine w_v (pt rfl) ?_
    rcases ef ((decide (k∈r.asked))) with h1 | h1
    ·
     refine l_of (cz m0 (ez (decide (k∈r.asked)) 20 h1 _) ?_)
     intro q3 v9
     have hen8:=hX.bok.ent H2 hrq hrk
     have hka9:k∈cn A.asked c:=by rw [← hen8.2]; exact of_decide_eq_true h1
     have hno9:¬ (aF A.had c.pc=true∨c∈A.here):=by rintro (h9 | h9); exact absurd (hhad9.symm.trans h9) (by simp_all); exact absurd (hen8.1.trans (dt h9)) (by rw [h2]; decide)
     refine ae ?_
     have v8:S _ [_,_,_,_,_,_,_,_,_,_,_,_]:=S.unbig (L:=[_,_]) (S.lstOut (F:=g_) (v9.tk [6,0,1,2,3,4,5,7,8,9]) hrq)
     refine vV ?_
     refine l_of (eu v8 0 ?_)
     intro q2 k9
     refine cD ?_
     refine ah [0,1,5,6,7,8,9] ?_
     refine a_ ?_
     refine l_of (aG (Lh r.asked r.ap r.asked.length r.ac ((by have h9:=kY A.asked c; have h8:=hI.al; have h7:=(hX.bok.ent H2 hrq hrk).2; rw [h7]; omega)) _ (k9.rr 1)) ?_)
     rintro _ b0 ⟨pz49,cz50,rfl,b9⟩
     replace b9:=k9.ab1 b9
     refine bW ?_
     have v7:=S.lstIn (F:=g_) (x:=({ r with here:=true }:Bk)) (S.big (L:=[_,_]) (b9.tk [1,2,3,0,4,5,6,7,8,9,10,11,12])) (List.getElem?_eq_some_iff.1 hrq).1
     have v6:S b0 [(bM g_ (X.bs.set ir ({ r with here:=true }:Bk))),Rw 3 1 pz49 r.asked.length cz50 (fl cg r.asked),X0 X A,X1 X A,X2 X A,X3 X,bM fA X.ms,Mp pQ j_ qE X.bg (gZ (X.bs.set ir ({ r with here:=true }:Bk))),Ob g4 (.cells #[vI 0] 30 (0,0)),Ob g1 (.cells #[vI c.pc,vI c.bg,vI c.ln] 44 (0,0)),aB w (aT [(XI X A)])]:=by rw [vS (r':=({ r with here:=true }:Bk)) hX.bn hrq rfl rfl]; exact v7
     have hcB:A.isB c:=H2
     have hX1:di ({ X with bs:=(X.bs.set ir ({ r with here:=true }:Bk)) }:XP) ({ A with here:=(A.here++[c]) }:PK):=hX.put (IF hX.bok hcB hrq hrk)
     have hro9:r.asked=cn A.asked c:=(hX.bok.ent hcB hrq hrk).2
     have hrl9:=kY A.asked c
     rw [← hro9] at hrl9
     refine aE ?_
     refine cQ (ι:=Nat × Option Addr × Nat × AL × List Mt × List Bk × AL) (fun (i,po,co,ol,ms,bs,al)=>[(0,vP X.g),(1,vI k),(5,vP g1),(6,.slice po ol.length co),(8,vP g4),(66,.slice pz49 r.asked.length cz50),(67,vI r.asked.length),(68,vI i)]) (fun (i,po,co,ol,ms,bs,al) wx=>(i≤r.asked.length)∧(di ({ X with ms:=ms,bs:=bs }:XP) ({ A with here:=(A.here++[c]),asked:=al }:PK))∧(al=zC A.asked c (r.asked.take i))∧(gV ms=gV X.ms)∧(ol=((r.asked.take i).filter fun x=>decide (x ≠ k)).map fun x=>(x,c))∧(ol.length≤i)∧S wx [Rw 110 4 po ol.length co (fl askL ol),(bM g_ bs),Rw 3 1 pz49 r.asked.length cz50 (fl cg r.asked),X0 X A,X1 X A,X2 X A,Mp (Value.int .i64) j_ cO X.mg (gV ms),(bM fA ms),Mp pQ j_ qE X.bg (gZ bs),Ob g4 (.cells #[vI 0] 30 (0,0)),Ob g1 (.cells #[vI c.pc,vI c.bg,vI c.ln] 44 (0,0)),aB w (aT [(XI X A)])]) (fun (i,po,co,ol,ms,bs,al)=>r.asked.length - i) (0,none,0,[],X.ms,(X.bs.set ir ({ r with here:=true }:Bk)),A.asked) ⟨Nat.zero_le _,hX1,rfl,rfl,rfl,(Nat.le_refl 0),((S.nilFl v6 110 4 askL).tk [0,1,2,3,4,5,6,7,8,9,10,11])⟩ ?_
     rintro ⟨i,po,co,ol,ms,bs,al⟩ q1 ⟨hi,hXi,hal,hmm,hol,hoz,g6⟩
     refine ah [0,1,5,6,8,66,67,68] ?_
     have hsb:al.Sublist A.asked:=by rw [hal]; exact I4 _ _ _
     have hal9:=hI.al
     refine aC ?_
     refine g_seq ?_
     by_cases g9:((i:Int):Int)<(r.asked.length:Int)
     ·
      refine bm g9 ?_
      refine aQ ?_
      refine w_v (iH i (g6.rr 2)) ?_
      obtain ⟨H9,H8⟩:=(g6.rr 2).exL bE i
      have hxr9:=(yi hX hI rfl (x:=H9) (c:=c) (gp.1 (by rw [← hro9]; exact List.mem_of_getElem? H8))).2
      refine w_v (nX i (g6.rr 2) (bE.flAt1 H8 rfl)) ?_
      refine io ?_
      refine w_v (v:=(pJ ((gV ms) H9))) (aH (bU (x:=H9) (iG Tryz.underlying80 Tryz.underlying3) g6 6 rfl rfl rfl rfl (⟨by omega,by omega⟩) vz) (rfl)) ?_
      obtain ⟨iq59,h0,h6,b1,b2,hf64⟩:=uL (yi hX hI hmm (x:=H9) (c:=c) (gp.1 (by rw [← hro9]; exact List.mem_of_getElem? H8))).1
      rw [hG b2]
      refine w_v (h_ rfl rfl rfl) ?_
      refine l_of (aG (wK ({ X with ms:=ms,bs:=bs }:XP) ({ A with asked:=al }:PK) j (A.here++[c]) hXi (bQ.sub hI hsb) (by omega) H9 iq59 h0 h6 b1 (fun x:aV=>decide (x=c)) 53 #[] #[vP g1] (Ob g1 (.cells #[vI c.pc,vI c.bg,vI c.ln] 44 (0,0))) (fun _:aV=>True) (KJ g1 h0 c) (fun _ _=>trivial) _ (g6.tk [10,3,8,7,1])) ?_)
      rintro _ q0 ⟨h3,h4,bs67,hY68,r7,v1,rfl,b8⟩
      replace b8:S _ [_,_,_,_,_,_,_,_,_,_,_,_,_]:=g6.abI (new:=[_,_,_,_,_,_]) [10,3,8,7,1] b8 rfl
      have hol9:(h0.asked.filter (fun x:aV=>decide (x=c))).length≤h0.asked.length:=List.length_filter_le _ _
      have c6:=b8; rw [← gm (m':=({ h0 with ap:=h3,ac:=h4,asked:=h0.asked.filter fun y9=>!(fun x:aV=>decide (x=c)) y9 }:Mt)) (di.ndA hXi (bQ.sub hI hsb)) h6 rfl rfl] at c6
      refine bW ?_
      refine cD ?_
      refine ah [0,1,5,6,8,11,66,67,68] ?_
      refine aC ?_
      refine bP (v:=.bool (!decide ((H9:Int)=k))) (hb:=eh) ?_
      refine cD ?_
      by_cases g0:(H9:Int)=k
      ·
       refine kw g0 ?_
       refine aE ?_
       refine gI i ?_
       refine ae ?_
       refine bD (i:=(i,po,co,ol,ms,bs,al)) ((i+1),po,co,ol,(ms.set iq59 ({ h0 with ap:=h3,ac:=h4,asked:=h0.asked.filter fun y9=>!(fun x:aV=>decide (x=c)) y9 }:Mt)),bs67,(cx ({ A with asked:=al,here:=(A.here++[c]) }:PK).asked H9 (fun x:aV=>decide (x=c)))) ⟨by omega,hY68,(by rw [aj H8,qZ,BI,← hal]),((gm (ms:=ms) (m':=({ h0 with ap:=h3,ac:=h4,asked:=h0.asked.filter fun y9=>!(fun x:aV=>decide (x=c)) y9 }:Mt)) (di.ndA hXi hI) h6 rfl rfl).trans hmm),(by rw [aj H8,List.filter_append,List.filter_cons,if_neg (by simp [g0]),List.filter_nil,List.append_nil]; exact hol),(by first | omega | (simp only [List.length_append,List.length_cons,List.length_nil]; omega)),(c6.tk [6,5,7,2,8,9,10,4,3,11,1,12])⟩
      refine mX g0 ?_
      refine aC ?_
      refine w_v (fS c6 1) ?_
      refine w_v (v:=.agg #[vI H9,vI c.pc,vI c.bg,vI c.ln]) (j4) ?_
      refine l_of (fC Mh #[vI H9,vI c.pc,vI c.bg,vI c.ln] c6 ?_)
      intro y5 n2 k7
      have hln82a:=(k7.rr 7).lenL lC
      have hln82:(ol++[((H9,c):Int × aV)]).length=ol.length+1:=by simp only [List.length_append,List.length_cons,List.length_nil] <;> omega
      refine l_of (fE Hd [((H9,c):Int × aV)] lC k7 7 0 ?_)
      intro u0 v2 n1 v5
      refine aQ ?_
      refine gI i ?_
      refine ae ?_
      refine bD (i:=(i,po,co,ol,ms,bs,al)) ((i+1),u0,v2,(ol++[((H9,c):Int × aV)]),(ms.set iq59 ({ h0 with ap:=h3,ac:=h4,asked:=h0.asked.filter fun y9=>!(fun x:aV=>decide (x=c)) y9 }:Mt)),bs67,(cx ({ A with asked:=al,here:=(A.here++[c]) }:PK).asked H9 (fun x:aV=>decide (x=c)))) ⟨by omega,hY68,(by rw [aj H8,qZ,BI,← hal]),((gm (ms:=ms) (m':=({ h0 with ap:=h3,ac:=h4,asked:=h0.asked.filter fun y9=>!(fun x:aV=>decide (x=c)) y9 }:Mt)) (di.ndA hXi hI) h6 rfl rfl).trans hmm),(by rw [aj H8,List.filter_append,List.filter_cons,if_pos (by simp [g0]),List.filter_nil,List.map_append,← hol]; rfl),(by first | omega | (simp only [List.length_append,List.length_cons,List.length_nil]; omega)),(v5.tk [7,6,8,3,9,10,11,5,4,12,2,13])⟩
     refine br g9 ?_
     refine aR ?_
     rw [List.take_of_length_le (by omega)] at hal hol
     rw [hro9,BG] at hal
     subst hal
     have hE:(A.hereE k c)=0:=by unfold PK.hereE; rw [if_neg (by have h9:=(fQ H7).2; omega),if_neg (fun h9=>h9 H7),if_neg (fun h9=>h9 H2),if_neg hno9]; exact if_neg (fun h9=>h9 hka9)
     have hA9:A.hereA k c=({ A with asked:=(py A.asked c),here:=(A.here++[c]) }:PK):=if_pos hE
     have hI3:bQ (j+1) ({ A with asked:=(py A.asked c),here:=(A.here++[c]) }:PK):=by have h9:=hI.here k c; rwa [hA9] at h9
     refine eG ?_
     refine l_of (fZ g6 [3,4,5,6,7,8,1,0,2,9,10,11] (DT ({ X with ms:=ms,bs:=bs }:XP) ({ A with asked:=(py A.asked c),here:=(A.here++[c]) }:PK) (j+1) hXi hI3 c.pc (fQ H7).2 _) ?_)
     intro n0 v4
     refine ru ?_
     refine l_of (eu v4 9 ?_)
     intro m8 v3
     refine cD ?_
     refine ah [6,7,8] ?_
     refine aR ?_
     refine cY ?_
     refine dV (cT g4 _) ?_
     rintro _ _ m7 ⟨⟨rfl,x9⟩,rfl⟩
     replace x9:=v3.ab0 x9
     refine we x9 9 ?_
     have hL9:(A.hereL k c)=ol:=by unfold PK.hereL; rw [if_pos hE,hol,hro9]
     have hW9:(A.hereW k c)=({ A with asked:=(py A.asked c),here:=(A.here++[c]) }:PK).wholeB c.pc:=by unfold PK.hereW; rw [if_pos hE,hA9]
     rw [hL9,hW9,hA9,hE]
     exact ⟨({ X with ms:=ms,bs:=bs }:XP),rfl,hXi,_,_,rfl,(S.big (L:=[_,_,_,_,_,_,_]) (x9.tk [0,1,2,3,4,5,6,7,11])).tk [1,0,2]⟩
    refine l_of (aG (fh (decide (k∈r.asked)) 20 h1 _) ?_)
    rintro _ m6 ⟨rfl,x8⟩
    replace x8:=m0.ab0 x8
    refine bB ?_
    refine aA ?_
    refine aX ?_
    refine dV (bC g4 20 (0) [] _ (x8.ob (k:=7) rfl)) ?_
    rintro _ _ m5 ⟨⟨rfl,x7⟩,rfl⟩
    replace x7:=x8.aK 7 x7
    refine we x7 0 ?_
    have hen9:=hX.bok.ent H2 hrq hrk
    have hE:(A.hereE k c)=20:=by unfold PK.hereE; rw [if_neg (by have h9:=(fQ H7).2; omega),if_neg (fun h9=>h9 H7),if_neg (fun h9=>h9 H2),if_neg (by rintro (h9 | h9); exact absurd (hhad9.symm.trans h9) (by simp_all); exact absurd (hen9.1.trans (dt h9)) (by simp_all))]; exact if_pos (by rw [← hen9.2]; exact of_decide_eq_false h1)
    have hng:¬ ((A.hereE k c)=0):=by rw [hE]; decide
    have hL9:(A.hereL k c)=[]:=if_neg hng
    have hW9:(A.hereW k c)=false:=if_neg hng
    have hA9:A.hereA k c=A:=if_neg hng
    rw [hL9,hW9,hA9,hE]
    exact ⟨X,rfl,hX,none,0,rfl,(x7.b7 [1,2,3,4,5,6,7,9]).nilFl 110 4 askL⟩
   refine iV 13 rfl (nY rfl rfl rfl rfl (aa H4)) rfl rfl rfl (by kernel_rfl) (by kernel_rfl) (by kernel_rfl) (by kernel_rfl) ?_
   refine iV 14 rfl (nY rfl rfl rfl rfl (aa H4)) rfl rfl rfl (by kernel_rfl) (by kernel_rfl) (by kernel_rfl) (by kernel_rfl) ?_
   refine iV 15 rfl (nY rfl rfl rfl rfl (aa H4)) rfl rfl rfl (by kernel_rfl) (by kernel_rfl) (by kernel_rfl) (by kernel_rfl) ?_
   refine iV 16 rfl (nY rfl rfl rfl rfl (aa H4)) rfl rfl rfl (by kernel_rfl) (by kernel_rfl) (by kernel_rfl) (by kernel_rfl) ?_
   refine iV 17 rfl (nY rfl rfl rfl rfl (aa H4)) rfl rfl rfl (by kernel_rfl) (by kernel_rfl) (by kernel_rfl) (by kernel_rfl) ?_
   refine Jy (v:=.bool true) 18 rfl (cU rfl rfl rfl rfl (aa H5)) rfl rfl rfl (by kernel_rfl) (fun _=>pt (aa H4)) ?_
   refine rE 19 rfl (fun _=>pt (aa H5)) ?_
   refine sf (i:=20) ?_
   refine cz h5 (ez true 9 rfl _) ?_
   intro m4 b6
   refine Ca b6 b6 ?_
   refine Cb ?_
   refine aR ?_
   refine ah [0,1,5,6,7,8,9] ?_
   refine ae ?_
   refine bP (v:=.bool (((gZ X.bs) c.at).isSome)) (hb:=(zZ Tryz.underlying98)) ?_
   refine cJ ?_
   iterate 6 refine dh H4 ?_
   refine w_v (cH rfl rfl H4 rfl) ?_
   refine l_of (aG (fh false 20 rfl _) ?_)
   rintro _ m3 ⟨rfl,x6⟩
   replace x6:=b6.ab0 x6
   refine bB ?_
   refine aA ?_
   refine aX ?_
   refine dV (bC g4 20 (0) [] _ (x6.ob (k:=7) rfl)) ?_
   rintro _ _ m2 ⟨⟨rfl,g5⟩,rfl⟩
   replace g5:=x6.aK 7 g5
   refine we g5 0 ?_
   have hfc9:=hX.no (H2).2.2 H4
   have hE:(A.hereE k c)=20:=by unfold PK.hereE; rw [if_neg (by have h9:=(fQ H7).2; omega),if_neg (fun h9=>h9 H7),if_neg (fun h9=>h9 H2),if_neg (by rintro (h9 | h9); exact absurd (hhad9.symm.trans h9) (by simp_all); exact xc hfc9 h9)]; exact if_pos (by rw [(iS.1 hfc9).2]; exact List.not_mem_nil)
   have hng:¬ ((A.hereE k c)=0):=by rw [hE]; decide
   have hL9:(A.hereL k c)=[]:=if_neg hng
   have hW9:(A.hereW k c)=false:=if_neg hng
   have hA9:A.hereA k c=A:=if_neg hng
   rw [hL9,hW9,hA9,hE]
   exact ⟨X,rfl,hX,none,0,rfl,(g5.b7 [1,2,3,4,5,6,7,9]).nilFl 110 4 askL⟩
  have x4:=k0.b7 [0,1,2,3,4,5,6,7,8,9]
  refine l_of (aG (PX X A j hX hI c (fQ (by assumption)).2 H2 _ (x4.tk [0])) ?_)
  rintro _ k6 ⟨rfl,k2⟩
  have x3:=x4.au k2
  refine bB ?_
  refine aA ?_
  refine aX ?_
  refine dV (bC g4 1 (0) [] _ (x3.ob (k:=7) rfl)) ?_
  rintro _ _ k5 ⟨⟨rfl,g3⟩,rfl⟩
  replace g3:=x3.aK 7 g3
  refine we g3 0 ?_
  have hE:(A.hereE k c)=1:=by unfold PK.hereE; rw [if_neg (by have h9:=(fQ H7).2; omega),if_neg (fun h9=>h9 H7),if_pos H2]
  have hng:¬ ((A.hereE k c)=0):=by rw [hE]; decide
  have hL9:(A.hereL k c)=[]:=if_neg hng
  have hW9:(A.hereW k c)=false:=if_neg hng
  have hA9:A.hereA k c=A:=if_neg hng
  rw [hL9,hW9,hA9,hE]
  exact ⟨X,rfl,hX,none,0,rfl,(g3.b7 [1,2,3,4,5,6,7,9]).nilFl 110 4 askL⟩
 have x2:=H6.b7 [2,3,4,5,6,7,8,0,1,9]
 refine l_of (aG (wI X A j hX hI k c.pc H7 _ (x2.tk [0])) ?_)
 rintro _ k4 ⟨rfl,k1⟩
 have x1:=x2.au k1
 refine bB ?_
 refine aA ?_
 refine aX ?_
 refine dV (bC g4 (A.boE k c.pc) (0) [] _ (x1.ob (k:=7) rfl)) ?_
 rintro _ _ k3 ⟨⟨rfl,g2⟩,rfl⟩
 replace g2:=x1.aK 7 g2
 refine we g2 0 ?_
 have hE:(A.hereE k c)=(A.boE k c.pc):=by exact KF H7
 have hng:¬ ((A.hereE k c)=0):=by rw [hE]; exact H7
 have hL9:(A.hereL k c)=[]:=if_neg hng
 have hW9:(A.hereW k c)=false:=if_neg hng
 have hA9:A.hereA k c=A:=if_neg hng
 rw [hL9,hW9,hA9,hE]
 exact ⟨X,rfl,hX,none,0,rfl,(g2.b7 [1,2,3,4,5,6,7,9]).nilFl 110 4 askL⟩
end Go.Proofs.YthmmfhdpkddniaaGreatDoor
