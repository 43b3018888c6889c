import Derived.Test.YthmmfhdpkddniaaGreatDoorXx
set_option maxRecDepth 20000
set_option maxHeartbeats 4000000
set_option linter.all false
namespace Go.Proofs.YthmmfhdpkddniaaGreatDoor
open Go.RowKit
theorem N6 {X:XP} {A:PK} {j q:Nat} {m:Mt} {k:Int} (hX:di X A) (hI:bQ j A) (hm:X.ms[q]?=some m) (hk:m.k=k):gV X.ms k=some m.b:=by
 rw [← hk]
 unfold gV
 rw [kD (hX.nd hI) hm]
 rfl
theorem Qr {A:PK} {k:Int} (h:A.peE k=0):1≤k∧k≤1000:=⟨(vh h).1,(vh h).2.1⟩
theorem G7 (X:XP) (A:PK) (j:Nat) (hX:di X A) (hI:bQ j A) (k most:Int) (hmo:cO most) (hj:j≤100000)  (w:World) (HS:S w [(XI X A)]):Calls Tryz.prog 46 #[vP X.g,vI k,vI most] w fun e w'=>∃ p' c',e=.returned (.tuple #[.slice p' (A.lookV k most).length c',vI (A.lookE k most)])∧S w' ([Rw 44 3 p' (A.lookV k most).length c' (fl aO (A.lookV k most)),(XI X A)]++[aB w (aT [(XI X A)])]):=by
 have H0:=HS.bu
 have h8:=hI.a8
 have hmo9:=hmo
 unfold cO at hmo9
 refine mG Tryz.func46 ?_
 refine ah [0,1,2] ?_
 refine ae ?_
 refine l_of (cA H0 l_ ?_)
 intro g1 x7 H3
 refine ae ?_
 refine l_of (eM (bh rfl) rfl (dc rfl rfl rfl) ?_)
 refine aC ?_
 refine bP (v:=.bool true) (hb:=(lG (r:=false) Tryz.underlying26 rfl)) ?_
 refine l_of (cz H3 (ez true 1 rfl _) ?_)
 intro x6 H5
 refine aE ?_
 by_cases h5:(0:Int)≤most
 ·
  refine l_of (cz H5 (ez (decide ((0:Int)≤most)) 7 (dt h5) _) ?_)
  intro x5 H8
  refine aE ?_
  by_cases H6:(A.peE k)=0
  ·
   have g0:=H8.b7 [1,2,3,4,5,6,7,0,8]
   refine l_of (aG (qb X A j hX hI k H6 _ (g0.tk [0])) ?_)
   rintro _ g9 ⟨h3,h2,H2,H4,rfl,x4⟩
   have x3:=g0.au x4
   refine bW ?_
   refine aQ ?_
   have h9:=x3.b7 [0,1,2,3,4,5,6,7,8]
   refine l_of (aG (Jb X A j hX hI h3 h2 H2 k H4 (N6 hX hI H2 H4) (Qr H6) most ⟨(by omega),hmo⟩ hj _ (h9.tk [0])) ?_)
   rintro _ g8 ⟨pn18,cn19,rfl,h4⟩
   replace h4:=h9.aI2 [0] h4
   have x2:=h4.ub [1,0,2,3]
   refine bW ?_
   refine Gs ?_
   refine l_of (eu x2 8 ?_)
   intro g7 x1
   refine cD ?_
   refine ah [6,7] ?_
   refine aR ?_
   refine cY ?_
   refine dV (cT g1 _) ?_
   rintro _ _ g6 ⟨⟨rfl,h1⟩,rfl⟩
   replace h1:=x1.ab0 h1
   refine jb h1 8 ?_
   have hE:(A.lookE k most)=0:=(if_neg (by omega)).trans H6
   have hf9:fD A.peers k=some h2.pe:=by rw [← H4]; exact jh hI.nd (hX.at H2)
   have hV:(A.lookV k most)=A.lookP h2.pe most:=by unfold PK.lookV; rw [if_pos hE,hf9]
   rw [hE,hV]
   exact ⟨_,_,rfl,((S.big (L:=[_,_,_,_,_,_,_]) (h1.tk [0,1,2,3,4,5,6,7,9])).tk [1,0,2])⟩
  have h7:=H8.b7 [1,2,3,4,5,6,7,0,8]
  refine l_of (aG (su X A j hX hI k H6 _ (h7.tk [0])) ?_)
  rintro _ g5 ⟨rfl,x0⟩
  have h6:=h7.au x0
  refine bB ?_
  refine aA ?_
  refine aX ?_
  refine dV (bC g1 (A.peE k) (0) [] _ (h6.ob (k:=7) rfl)) ?_
  rintro _ _ g4 ⟨⟨rfl,h0⟩,rfl⟩
  replace h0:=h6.aK 7 h0
  refine jb h0 0 ?_
  have hE:(A.lookE k most)=A.peE k:=if_neg (by omega)
  have hV:(A.lookV k most)=[]:=by unfold PK.lookV; rw [hE]; exact if_neg H6
  rw [hE,hV]
  exact ⟨none,0,rfl,(h0.b7 [1,2,3,4,5,6,7,8]).nilFl 44 3 aO⟩
 refine l_of (aG (fh (decide ((0:Int)≤most)) 7 (df h5) _) ?_)
 rintro _ g3 ⟨rfl,H9⟩
 replace H9:=H5.ab0 H9
 refine bB ?_
 refine aA ?_
 refine aX ?_
 refine dV (bC g1 7 (0) [] _ (H9.ob (k:=0) rfl)) ?_
 rintro _ _ g2 ⟨⟨rfl,H7⟩,rfl⟩
 replace H7:=H9.aK 0 H7
 refine jb H7 0 ?_
 have hE:(A.lookE k most)=7:=if_pos (by omega)
 have hV:(A.lookV k most)=[]:=by unfold PK.lookV; rw [hE]; exact if_neg (by decide)
 rw [hE,hV]
 exact ⟨none,0,rfl,(H7.b7 [1,2,3,4,5,6,7,8]).nilFl 44 3 aO⟩
theorem FP (k:Int) (l:List Int):(eU k l).Perm (l++[k]):=by
 unfold eU
 refine List.perm_middle.trans (List.Perm.trans (List.Perm.cons _ ?_) (List.perm_append_comm (l₁:=[k]) (l₂:=l)))
 have e:(l.filter fun x=>decide (k≤x))=l.filter fun x=>!decide (x<k):=List.filter_congr fun x _=>by
   by_cases h:x<k
   · rw [dt h,df (by omega)]; rfl
   · rw [df h,dt (by omega)]; rfl
 rw [e]
 exact List.filter_append_perm _ _
theorem Fh {l:List Int} {k:Int} (hs:l.Pairwise (·<·)) (hk:k ∉ l):vg (l++[k])=eU k l:=by
 have h1:(vg (l++[k])).Pairwise fun x y=>x≤y:=by
   have h9:=List.pairwise_mergeSort (le:=fun x y:Int=>decide (x≤y)) (fun a b c h1 h2=>decide_eq_true (Int.le_trans (of_decide_eq_true h1) (of_decide_eq_true h2))) (fun a b=>by
     rcases Int.le_total a b with h | h
     · rw [decide_eq_true h]; rfl
     · rw [decide_eq_true h,Bool.or_true]) (l++[k])
   exact h9.imp fun h=>of_decide_eq_true h
 have h2:(eU k l).Pairwise fun x y=>x≤y:=(vp hs hk).imp fun h=>Int.le_of_lt h
 exact List.Perm.eq_of_pairwise (fun a b _ _ h1 h2=>Int.le_antisymm h1 h2) h1 h2 ((xQ _).trans (FP k l).symm)
theorem Mo (l:List Int) (k:Int) (hs:l.Pairwise (·<·)) (hk:k ∉ l) (hl:l.length≤1000) (p:Option Addr) (c:Nat) (w:World) (HS:S w [Rw 3 1 p (l++[k]).length c (fl cg (l++[k]))]) :
   Calls Tryz.prog 48 #[.slice p (l++[k]).length c] w fun e w'=>e=.returned (.tuple #[])∧S w' ([Rw 3 1 p (l++[k]).length c (fl cg (eU k l))]++[aB w (aT [Rw 3 1 p (l++[k]).length c (fl cg (l++[k]))])]):=by
 have h:=CS (l++[k]) p (l++[k]).length c rfl (by rw [List.length_append]; simp only [List.length_cons,List.length_nil]; omega) w (by rw [yK]; exact HS)
 rw [yK,yK,Fh hs hk] at h
 exact h
section
variable {A:PK} {bs:List Bk} {i:Nat} {r:Bk} {c:aV} {k:Int}
theorem BO {p:Int × Int} (hp:p ≠ c.at):({ A with asked:=A.asked++[(k,c)] }:PK).ent p=A.ent p:=
 vN (A:=A) (A':={ A with asked:=A.asked++[(k,c)] }) rfl rfl rfl (fun d hd=>⟨Iff.rfl,by
   show cn (A.asked++[(k,c)]) d=_
   rw [qo,if_neg (Ne.symm hd)]⟩) hp
theorem BP (hc:A.isB c):({ A with asked:=A.asked++[(k,c)] }:PK).ent c.at=some (decide (c∈A.here),eU k (cn A.asked c)):=by
 have e:cn (A.asked++[(k,c)]) c=eU k (cn A.asked c):=by rw [qo,if_pos rfl]
 rw [mj (A:={ A with asked:=A.asked++[(k,c)] }) hc,if_neg]
 · show some (decide (c∈A.here),cn (A.asked++[(k,c)]) c)=_
   rw [e]
 · intro hf
   have h2:cn (A.asked++[(k,c)]) c=[]:=(iS.1 hf).2
   rw [e] at h2
   have:=congrArg List.length h2
   rw [nu] at this
   cases this
theorem C4 (h:pV A bs) (hc:A.isB c) (hx:bs[i]?=some r) (hp:r.pl=c.at) (ap:Option Addr) (ac:Nat):pV { A with asked:=A.asked++[(k,c)] } (bs.set i { r with ap:=ap,ac:=ac,asked:=eU k r.asked }):=by
 obtain ⟨e1,e2⟩:=h.ent hc hx hp
 refine h.set1 hx hp rfl (fun p hp=>BO hp) ?_
 rw [BP hc]
 show some (decide (c∈A.here),eU k (cn A.asked c))=some (r.here,eU k r.asked)
 rw [e1,e2]
theorem C5 (h:pV A bs) (hc:A.isB c) (hf:A.freeC c=true) (b:Nat) (ap:Option Addr) (ac:Nat):pV { A with asked:=A.asked++[(k,c)] } (bs++[⟨c.at,b,false,ap,ac,eU k []⟩]):=by
 obtain ⟨h1,h2⟩:=iS.1 hf
 refine h.snoc1 (c:=c) ?_ rfl (fun p hp=>BO hp) ?_
 · have h3:=h.bf c.at
   rw [mj hc,if_pos hf] at h3
   cases hq:kfd Bk.pl bs c.at with
   | none=>rfl
   | some r=>rw [hq] at h3; cases h3
 rw [BP hc,h2,df h1]
 rfl
end
theorem di.nextM {X:XP} {A:PK} {j q:Nat} {m:Mt} {k:Int} {c:aV} {bs:List Bk} (hX:di X A) (hI:bQ j A) (hm:X.ms[q]?=some m) (hk:m.k=k) (hb:pV { A with asked:=A.asked++[(k,c)] } bs) (ap:Option Addr) (ac:Nat) :
   di { X with ms:=X.ms.set q { m with ap:=ap,ac:=ac,asked:=m.asked++[c] },bs:=bs } { A with asked:=A.asked++[(k,c)] }:=by
 refine ⟨?_,fun x hx=>?_,hb.bn,hb.bf⟩
 · show (X.ms.set q _).map Mt.pe=A.peers
   exact (xj (key:=Mt.pe) hm (show Mt.pe { m with ap:=ap,ac:=ac,asked:=m.asked++[c] }=Mt.pe m from rfl)).trans hX.ms
 show x.asked=bO (A.asked++[(k,c)]) x.k
 obtain ⟨i,hi⟩:=List.getElem?_of_mem hx
 have hi:(X.ms.set q { m with ap:=ap,ac:=ac,asked:=m.asked++[c] })[i]?=some x:=hi
 rw [zg]
 by_cases e:i=q
 · subst e
   rw [List.getElem?_set_self (List.getElem?_eq_some_iff.1 hm).1] at hi
   cases hi
   show m.asked++[c]=if m.k=k then _ else _
   rw [if_pos hk,hX.ask m (List.mem_of_getElem? hm)]
 rw [List.getElem?_set_ne (Ne.symm e)] at hi
 have hne:x.k ≠ k:=fun h=>e (sw (hX.nd hI) hi hm (h.trans hk.symm))
 rw [if_neg hne,hX.ask x (List.mem_of_getElem? hi)]
theorem Eh {X:XP} {A:PK} {k:Int} (hX:di X A) (h:∃ p∈A.peers,p.k=k):(gV X.ms k).isSome=true:=by
 obtain ⟨p,hp,hk⟩:=h
 rw [hX.mtN]
 cases hf:fD A.peers k with
 | none=>exact absurd hk (lu hf p hp)
 | some q=>rfl
theorem Ik {A:PK} {j:Nat} (hI:bQ j A) (k most:Int) (i:Nat):bQ (j+1) { A with asked:=A.asked++((A.lookV k most).take i).map fun c=>(k,c) }:=
 hI.nextL k ((mz A k most).sublist (List.take_sublist ..)) (by have h:=nK hI k most; rw [List.length_take]; omega) fun c hc=>by
   obtain ⟨h1,h2,h3,h4,h5,_,_⟩:=qU (List.mem_of_mem_take hc)
   exact ⟨h1,h2,h3,h4,h5⟩
theorem HI {A:PK} {j:Nat} (hI:bQ j A) {k most:Int} {i:Nat} {x:aV} (hx:(A.lookV k most)[i]?=some x) {al:AL} (hal:al=A.asked++((A.lookV k most).take i).map fun c=>(k,c)):k ∉ cn al x∧(cn al x).length≤2∧(cn al x).Pairwise (·<·):=by
 obtain ⟨_,_,_,_,h5,h6,_⟩:=qU (List.mem_of_getElem? hx)
 have e:cn al x=cn A.asked x:=by rw [hal,Ih ((mz A k most).sublist (List.take_sublist ..)),if_neg (xY (mz A k most) hx)]
 rw [e]
 exact ⟨h5,h6,l7 hI.an x⟩
theorem NW (X:XP) (A:PK) (j:Nat) (hX:di X A) (hI:bQ j A) (k most:Int) (hmo:cO most) (hj:j≤100000)  (w:World) (HS:S w [(XI X A)]):Calls Tryz.prog 17 #[vP X.g,vI k,vI most] w fun e w'=>∃ (Y:XP),Y.g=X.g∧di Y (A.nextA k most)∧∃ p' c',e=.returned (.tuple #[.slice p' (A.lookV k most).length c',vI (A.lookE k most)])∧S w' ([Rw 44 3 p' (A.lookV k most).length c' (fl aO (A.lookV k most)),(XI Y (A.nextA k most))]++[aB w (aT [(XI X A)])]):=by
 have H0:=HS.bu
 have h8:=hI.a8
 refine en Tryz.func17 ?_
 refine ah [0,1,2] ?_
 refine dz ?_
 have H3:=H0.b7 [0,1,2,3,4,5,6,7]
 refine l_of (aG (G7 X A j hX hI k most hmo hj _ (H3.tk [0])) ?_)
 rintro _ u9 ⟨pn1,cn2,rfl,H5⟩
 replace H5:=H3.aI2 [0] H5
 have hll9:=nK hI k most
 have H6:=H5.ub [1,0,2]
 refine bW ?_
 refine v_ ?_
 refine cQ (ι:=Nat × List Mt × List Bk × AL) (fun (ii,ms,bs,al)=>[(0,vP X.g),(1,vI k),(8,.slice pn1 ((A.lookV k most).length) cn2),(9,vI ((A.lookE k most))),(20,.slice pn1 ((A.lookV k most).length) cn2),(21,vI (((A.lookV k most).length:Int))),(22,vI ii)]) (fun (ii,ms,bs,al) wx=>(ii≤(A.lookV k most).length)∧(di ({ X with ms:=ms,bs:=bs }:XP) ({ A with asked:=al }:PK))∧(al=A.asked++((A.lookV k most).take ii).map fun c=>(k,c))∧S wx [Rw 44 3 pn1 ((A.lookV k most).length) cn2 (fl aO (A.lookV k most)),X0 X A,X1 X A,X2 X A,Mp (Value.int .i64) j_ cO X.mg (gV ms),(bM fA ms),Mp pQ j_ qE X.bg (gZ bs),(bM g_ bs),aB w (aT [(XI X A)])]) (fun (ii,ms,bs,al)=>((A.lookV k most).length) - ii) (0,X.ms,X.bs,A.asked) ⟨Nat.zero_le _,hX,(by rw [List.take_zero,List.map_nil,List.append_nil]),(H6.tk [7,0,1,2,3,4,5,6,8])⟩ ?_
 rintro ⟨ii,ms,bs,al⟩ u0 ⟨hii,hXi,hal,H8⟩
 refine ah [0,1,8,9,20,21,22] ?_
 have hIi:bQ (j+1) ({ A with asked:=al }:PK):=by rw [hal]; exact Ik hI k most ii
 refine aC ?_
 refine g_seq ?_
 by_cases h5:((ii:Int):Int)<((A.lookV k most).length:Int)
 ·
  refine bm h5 ?_
  refine aQ ?_
  refine w_v (iH ii (H8.rr 0)) ?_
  obtain ⟨H2,h2⟩:=(H8.rr 0).exL cN ii
  obtain ⟨hxp,hxB,hxH,hxD,hxk,hxl,hxv⟩:=qU (List.mem_of_getElem? h2)
  obtain ⟨hka9,hol9,hos9⟩:=HI hI h2 hal
  refine w_v (bc (vs:=aO H2) ii (H8.rr 0) (by omega) rfl rfl Tryz.underlying44 rfl dE (by rfl) (cN.flAt h2)) ?_
  refine l_of (cA H8 gX ?_)
  intro h4 n1 r7
  refine l_of (eu r7 0 ?_)
  intro n0 r4
  refine cD ?_
  refine g_seq ?_
  refine g_aS [] [] r4 (fun m9 g1=>?_)
  refine aU 0 g1 ?_
  refine aU 1 g1 ?_
  refine aU 2 g1 ?_
  refine eY 3 2 g1 ?_
  refine bT 4 rfl g1 (fun _ H=>fS H 0) ?_
  refine bG (i:=5) ?_
  refine cz g1 (sr H2 _) ?_
  intro m8 g4
  refine bF g4 ?_
  refine bT (v:=(pJ ((gZ bs) H2.at))) 6 rfl g4 (fun _ H=>aH (bU (x:=H2.at) jp H 7 rfl rfl rfl rfl ((wy hI hxB)) vw) (rfl)) ?_
  refine bG (i:=7) ?_
  refine iW xa ?_
  refine bF g4 ?_
  refine fP ?_
  refine aE ?_
  refine bP (v:=.bool (!(((gZ bs) H2.at).isSome))) (hb:=(oD Tryz.underlying98)) ?_
  refine cD ?_
  rcases ef (((gZ bs) H2.at).isSome) with h3 | h3
  ·
   obtain ⟨ir,r,hrq,hrk,hrb,hrf⟩:=uM h3
   rw [hG hrb]
   refine g_cond_f rfl (aa h3) ?_
   refine ae ?_
   refine ah [0,1,8,9,11,12,20,21,22] ?_
   refine iF ?_
   have r3:S _ [_,_,_,_,_,_,_,_,_,_,_,_]:=S.unbig (L:=[_,_]) (S.lstOut (F:=g_) (g4.tk [8,0,1,2,3,4,5,6,7,9]) hrq)
   have hro9:r.asked=cn al H2:=(hXi.bok.ent (A:=({ A with asked:=al }:PK)) (c:=H2) hxB hrq hrk).2
   have hrl9:r.asked.length≤2:=by rw [hro9]; exact hol9
   have hrs9:r.asked.Pairwise (·<·):=by rw [hro9]; exact hos9
   have hrn9:k ∉ r.asked:=by rw [hro9]; exact hka9
   refine a_ ?_
   refine l_of (fC Av #[vI k] r3 ?_)
   intro g8 m7 b8
   have hln29a:=(b8.rr 2).lenL bE
   have hln29:(r.asked++[k]).length=r.asked.length+1:=by simp only [List.length_append,List.length_cons,List.length_nil] <;> omega
   refine l_of (fE oe [k] bE b8 2 0 ?_)
   intro H4 H7 m6 r2
   refine ru ?_
   refine l_of (eu r2 1 ?_)
   intro m5 b6
   refine a_ ?_
   refine l_of (aG (Mo r.asked k hrs9 hrn9 (by omega) H4 H7 _ (b6.tk [2])) ?_)
   rintro _ g3 ⟨rfl,x6⟩
   replace x6:=b6.aI1 [2] x6
   have hnl9:(r.asked++[k]).length=(eU k r.asked).length:=by rw [nu,List.length_append]; rfl
   have r1:S g3 [Ob r.b (.cells #[.bool r.here,.slice H4 ((eU k r.asked).length) H7] 103 (0,0)),Rw 3 1 H4 ((eU k r.asked).length) H7 (fl cg (eU k r.asked)),Ob g8 (.cells #[vI k] 3 (0,0)),(bM g_ (bs.eraseIdx ir)),Ob h4 (.cells #[vI H2.pc,vI H2.bg,vI H2.ln] 44 (0,0)),Rw 44 3 pn1 ((A.lookV k most).length) cn2 (fl aO (A.lookV k most)),X0 X A,X1 X A,X2 X A,Mp (Value.int .i64) j_ cO X.mg (gV ms),(bM fA ms),Mp pQ j_ qE X.bg (gZ bs),aB w (aT [(XI X A)])]:=by rw [← hnl9]; exact x6.tk [2,0,1,3,4,5,6,7,8,9,10,11,12]
   have r0:=S.lstIn (F:=g_) (x:=({ r with ap:=H4,ac:=H7,asked:=(eU k r.asked) }:Bk)) (S.big (L:=[_,_]) (r1.tk [0,1,3,2,4,5,6,7,8,9,10,11,12])) (List.getElem?_eq_some_iff.1 hrq).1
   have q9:S g3 [(bM g_ (bs.set ir ({ r with ap:=H4,ac:=H7,asked:=(eU k r.asked) }:Bk))),Ob g8 (.cells #[vI k] 3 (0,0)),Ob h4 (.cells #[vI H2.pc,vI H2.bg,vI H2.ln] 44 (0,0)),Rw 44 3 pn1 ((A.lookV k most).length) cn2 (fl aO (A.lookV k most)),X0 X A,X1 X A,X2 X A,Mp (Value.int .i64) j_ cO X.mg (gV ms),(bM fA ms),Mp pQ j_ qE X.bg (gZ (bs.set ir ({ r with ap:=H4,ac:=H7,asked:=(eU k r.asked) }:Bk))),aB w (aT [(XI X A)])]:=by rw [vS (r':=({ r with ap:=H4,ac:=H7,asked:=(eU k r.asked) }:Bk)) hXi.bn hrq rfl rfl]; exact r0
   have h5:pV ({ A with asked:=al++[(k,H2)] }:PK) (bs.set ir ({ r with ap:=H4,ac:=H7,asked:=(eU k r.asked) }:Bk)):=C4 (A:=({ A with asked:=al }:PK)) hXi.bok hxB hrq hrk H4 H7
   refine bW ?_
   refine cD ?_
   refine ah [0,1,8,9,11,20,21,22] ?_
   obtain ⟨q,m,hmq,hmk,hmb,hmf⟩:=uL (Eh (X:=({ X with ms:=ms,bs:=bs }:XP)) (A:=({ A with asked:=al }:PK)) hXi hxp)
   have q8:S _ [_,_,_,_,_,_,_,_,_,_,_,_,_,_,_]:=S.unbig (L:=[_,_,_,_]) (S.lstOut (F:=fA) (q9.tk [8,0,1,2,3,4,5,6,7,9,10]) hmq)
   have hml9:m.asked.length≤al.length:=by have h9:=hXi.ask m (List.mem_of_getElem? hmq); rw [h9]; exact iK _ _
   have hall9:al.length≤400 * (j+1):=hIi.al
   refine g_anyY [] (fun wx=>S wx [Ob m.b (.cells #[.string ((fieldS m.fld)),.map (some m.am),.map (some m.sm),.bool m.ch,.bool m.sn,.slice m.ap m.asked.length m.ac] 88 (0,0)),Mp (Value.int .i64) Value.bool cO m.am (cX m.alw),Mp (Value.int .i64) Value.bool cO m.sm (cX m.sug),Rw 44 3 m.ap m.asked.length m.ac (fl aO m.asked),(bM fA (ms.eraseIdx q)),(bM g_ (bs.set ir ({ r with ap:=H4,ac:=H7,asked:=(eU k r.asked) }:Bk))),Ob g8 (.cells #[vI k] 3 (0,0)),Ob h4 (.cells #[vI H2.pc,vI H2.bg,vI H2.ln] 44 (0,0)),Rw 44 3 pn1 ((A.lookV k most).length) cn2 (fl aO (A.lookV k most)),X0 X A,X1 X A,X2 X A,Mp (Value.int .i64) j_ cO X.mg (gV ms),Mp pQ j_ qE X.bg (gZ (bs.set ir ({ r with ap:=H4,ac:=H7,asked:=(eU k r.asked) }:Bk))),aB w (aT [(XI X A)])]) (fun wx=>S wx [Mp (Value.int .i64) Value.bool cO m.am (cX m.alw),Mp (Value.int .i64) Value.bool cO m.sm (cX m.sug),(bM fA (ms.eraseIdx q)),(bM g_ (bs.set ir ({ r with ap:=H4,ac:=H7,asked:=(eU k r.asked) }:Bk))),Ob g8 (.cells #[vI k] 3 (0,0)),Ob h4 (.cells #[vI H2.pc,vI H2.bg,vI H2.ln] 44 (0,0)),Rw 44 3 pn1 ((A.lookV k most).length) cn2 (fl aO (A.lookV k most)),X0 X A,X1 X A,X2 X A,Mp (Value.int .i64) j_ cO X.mg (gV ms),Mp pQ j_ qE X.bg (gZ (bs.set ir ({ r with ap:=H4,ac:=H7,asked:=(eU k r.asked) }:Bk))),aB w (aT [(XI X A)])]) [19,22] (by kernel_rfl) q8 (fun m4 g0=>?_)
   refine fu 0 ?_
   refine fu 1 ?_
   refine fu 2 ?_
   refine fu 3 ?_
   have x8:=g0.tk [1,2,4,5,6,7,8,9,10,11,12,13,14]
   refine Jz 4 rfl x8 (fun _ H=>xl H 7) ?_
   refine fu 5 ?_
   refine Jz (v:=vP m.b) 6 rfl x8 (fun _ H=>aH (bU (x:=k) (iG Tryz.underlying80 Tryz.underlying3) H 10 rfl rfl rfl rfl ((by obtain ⟨p9,hp9,x4⟩:=hxp; have h9:=hI.kr p9 hp9; exact ⟨by omega,by omega⟩)) vz) (hG hmb)) ?_
   refine fu 7 ?_
   refine fu 8 ?_
   refine fu 9 ?_
   refine fu 10 ?_
   refine Dw 11 9 g0 ?_
   refine fu 12 ?_
   refine yt (v:=vP m.b) 13 rfl g0 (fun _ H=>aH (bU (x:=k) (iG Tryz.underlying80 Tryz.underlying3) H 12 rfl rfl rfl rfl ((by obtain ⟨p9,hp9,x4⟩:=hxp; have h9:=hI.kr p9 hp9; exact ⟨by omega,by omega⟩)) vz) (hG hmb)) ?_
   refine fu 14 ?_
   refine fu 15 ?_
   refine Dw 16 0 g0 ?_
   refine yt 17 rfl g0 (fun _ H=>fS H 7) ?_
   refine sf (i:=18) ?_
   refine fC gX #[vI H2.pc,vI H2.bg,vI H2.ln] g0 ?_
   intro v1 m3 x3
   refine Ca (x3.tk [1,2,3,4,5,6,7,8,9,10,11,12,13,14,15]) (x3.tk [2,3,5,6,7,8,9,10,11,12,13,14,15]) ?_
   refine sf (i:=19) ?_
   have hln47a:=(x3.rr 4).lenL cN
   have hln47:(m.asked++[H2]).length=m.asked.length+1:=by simp only [List.length_append,List.length_cons,List.length_nil] <;> omega
   refine fE kN [H2] cN x3 4 0 ?_
   intro g6 x0 m2 b2
   refine sj rfl (b2.tk [2,3,5,6,7,8,9,10,11,12,13,14,15]) ?_
   refine fu 20 ?_
   refine fu 21 ?_
   refine sf (i:=22) ?_
   refine eu b2 1 ?_
   intro m1 b1
   refine sj rfl (b1.tk [2,3,5,6,7,8,9,10,11,12,13,14,15]) ?_
   refine Cb ?_
   refine ae ?_
   refine ah [0,1,8,9,20,21,22] ?_
   refine aR ?_
   have q7:=S.lstIn (F:=fA) (x:=({ m with ap:=g6,ac:=x0,asked:=m.asked++[H2] }:Mt)) (S.big (L:=[_,_,_,_]) (b1.tk [1,2,3,4,5,0,6,7,8,9,10,11,12,13,14,15])) (List.getElem?_eq_some_iff.1 hmq).1
   have b0:=q7; rw [← gm (m':=({ m with ap:=g6,ac:=x0,asked:=m.asked++[H2] }:Mt)) (di.nd (X:=({ X with ms:=ms,bs:=bs }:XP)) (A:=({ A with asked:=al }:PK)) hXi hIi) hmq rfl rfl] at b0
   refine bP (v:=vI ((ii:Int)+1)) (hb:=(dY (jD (by omega)))) ?_
   refine ae ?_
   refine bD (i:=(ii,ms,bs,al)) ((ii+1),(ms.set q ({ m with ap:=g6,ac:=x0,asked:=m.asked++[H2] }:Mt)),(bs.set ir ({ r with ap:=H4,ac:=H7,asked:=(eU k r.asked) }:Bk)),(al++[(k,H2)])) ⟨by omega,(di.nextM (X:=({ X with ms:=ms,bs:=bs }:XP)) (A:=({ A with asked:=al }:PK)) hXi hIi hmq hmk h5 g6 x0),(by rw [aj h2,List.map_append,← List.append_assoc,← hal]; rfl),(b0.tk [5,6,7,8,9,0,10,2,11])⟩
  refine g_cond_t rfl (aa h3) ?_
  refine iF ?_
  refine w_v (v:=.agg #[.bool false,.slice none 0 0]) (j4) ?_
  refine l_of (fq g4 ?_)
  intro h0 m0 q6
  refine ae ?_
  refine ah [0,1,8,9,11,12,20,21,22] ?_
  refine g_aM [] [1,3] [7] q6 (fun k9 w9=>?_)
  have h6:=w9.tk [1,3]
  refine aU 0 h6 ?_
  refine aU 1 h6 ?_
  refine aU 2 h6 ?_
  refine eY 3 1 h6 ?_
  refine bT 4 rfl h6 (fun _ H=>fS H 0) ?_
  refine aU 6 h6 ?_
  refine bG (i:=5) ?_
  refine cz w9 (sr H2 _) ?_
  intro k7 w8
  refine bF (w8.tk [1,3]) ?_
  refine bG (i:=7) ?_
  refine jz (x:=H2.at) (a:=h0) jp w8 8 (bh rfl) rfl rfl rfl rfl rfl rfl ((wy hI hxB)) ?_
  intro k6 q5
  refine m_ rfl ?_
  refine fP ?_
  refine ae ?_
  have q4:=q5.nilFl 3 1 cg
  refine a_ ?_
  refine l_of (fC Av #[vI k] q4 ?_)
  intro g7 k5 c9
  have hln69a:=(c9.rr 1).lenL bE
  have hln69:([k]).length=0+1:=by simp only [List.length_append,List.length_cons,List.length_nil] <;> omega
  refine l_of (fE oe [k] bE c9 1 0 ?_)
  intro H9 h1 k4 x2
  rw [List.nil_append] at x2 ⊢
  replace x2:S _ [_,_,_,_,_,_,_,_,_,_,_,_,_]:=x2
  refine ru ?_
  refine l_of (eu x2 2 ?_)
  intro k3 c8
  refine cD ?_
  refine ah [0,1,8,9,11,12,20,21,22] ?_
  refine aQ ?_
  refine l_of (aG (Mo ([]:List Int) k List.Pairwise.nil List.not_mem_nil (by decide) H9 h1 _ (c8.tk [1])) ?_)
  rintro _ g2 ⟨rfl,x5⟩
  replace x5:=c8.aI1 [1] x5
  have hnl9:(([]:List Int)++[k]).length=(eU k ([]:List Int)).length:=by rw [nu,List.length_append]; rfl
  have q3:S g2 [Ob h0 (.cells #[.bool false,.slice H9 ((eU k ([]:List Int)).length) h1] 103 (0,0)),Rw 3 1 H9 ((eU k ([]:List Int)).length) h1 (fl cg (eU k ([]:List Int))),Ob g7 (.cells #[vI k] 3 (0,0)),Ob h4 (.cells #[vI H2.pc,vI H2.bg,vI H2.ln] 44 (0,0)),Rw 44 3 pn1 ((A.lookV k most).length) cn2 (fl aO (A.lookV k most)),X0 X A,X1 X A,X2 X A,Mp (Value.int .i64) j_ cO X.mg (gV ms),(bM fA ms),Mp pQ j_ qE X.bg (upM (gZ bs) H2.at h0),(bM g_ bs),aB w (aT [(XI X A)])]:=by rw [← hnl9]; exact x5.tk [2,0,1,3,4,5,6,7,8,9,10,11,12]
  have h5:pV ({ A with asked:=al++[(k,H2)] }:PK) (bs++[(⟨H2.at,h0,false,H9,h1,(eU k ([]:List Int))⟩:Bk)]):=C5 (A:=({ A with asked:=al }:PK)) hXi.bok hxB (hXi.no (A:=({ A with asked:=al }:PK)) hxB.2.2 h3) h0 H9 h1
  have q2:=S.lstSnoc (F:=g_) (x:=(⟨H2.at,h0,false,H9,h1,(eU k ([]:List Int))⟩:Bk)) (S.big (L:=[_,_]) (q3.tk [0,1,11,2,3,4,5,6,7,8,9,10,12]))
  have q1:S g2 [(bM g_ (bs++[(⟨H2.at,h0,false,H9,h1,(eU k ([]:List Int))⟩:Bk)])),Ob g7 (.cells #[vI k] 3 (0,0)),Ob h4 (.cells #[vI H2.pc,vI H2.bg,vI H2.ln] 44 (0,0)),Rw 44 3 pn1 ((A.lookV k most).length) cn2 (fl aO (A.lookV k most)),X0 X A,X1 X A,X2 X A,Mp (Value.int .i64) j_ cO X.mg (gV ms),(bM fA ms),Mp pQ j_ qE X.bg (gZ (bs++[(⟨H2.at,h0,false,H9,h1,(eU k ([]:List Int))⟩:Bk)])),aB w (aT [(XI X A)])]:=by rw [Jk h5.bn]; exact q2
  refine bW ?_
  refine cD ?_
  obtain ⟨q,m,hmq,hmk,hmb,hmf⟩:=uL (Eh (X:=({ X with ms:=ms,bs:=bs }:XP)) (A:=({ A with asked:=al }:PK)) hXi hxp)
  have q0:S _ [_,_,_,_,_,_,_,_,_,_,_,_,_,_,_]:=S.unbig (L:=[_,_,_,_]) (S.lstOut (F:=fA) (q1.tk [8,0,1,2,3,4,5,6,7,9,10]) hmq)
  have hml9:m.asked.length≤al.length:=by have h9:=hXi.ask m (List.mem_of_getElem? hmq); rw [h9]; exact iK _ _
  have hall9:al.length≤400 * (j+1):=hIi.al
  refine g_anyY [] (fun wx=>S wx [Ob m.b (.cells #[.string ((fieldS m.fld)),.map (some m.am),.map (some m.sm),.bool m.ch,.bool m.sn,.slice m.ap m.asked.length m.ac] 88 (0,0)),Mp (Value.int .i64) Value.bool cO m.am (cX m.alw),Mp (Value.int .i64) Value.bool cO m.sm (cX m.sug),Rw 44 3 m.ap m.asked.length m.ac (fl aO m.asked),(bM fA (ms.eraseIdx q)),(bM g_ (bs++[(⟨H2.at,h0,false,H9,h1,(eU k ([]:List Int))⟩:Bk)])),Ob g7 (.cells #[vI k] 3 (0,0)),Ob h4 (.cells #[vI H2.pc,vI H2.bg,vI H2.ln] 44 (0,0)),Rw 44 3 pn1 ((A.lookV k most).length) cn2 (fl aO (A.lookV k most)),X0 X A,X1 X A,X2 X A,Mp (Value.int .i64) j_ cO X.mg (gV ms),Mp pQ j_ qE X.bg (gZ (bs++[(⟨H2.at,h0,false,H9,h1,(eU k ([]:List Int))⟩:Bk)])),aB w (aT [(XI X A)])]) (fun wx=>S wx [Mp (Value.int .i64) Value.bool cO m.am (cX m.alw),Mp (Value.int .i64) Value.bool cO m.sm (cX m.sug),(bM fA (ms.eraseIdx q)),(bM g_ (bs++[(⟨H2.at,h0,false,H9,h1,(eU k ([]:List Int))⟩:Bk)])),Ob g7 (.cells #[vI k] 3 (0,0)),Ob h4 (.cells #[vI H2.pc,vI H2.bg,vI H2.ln] 44 (0,0)),Rw 44 3 pn1 ((A.lookV k most).length) cn2 (fl aO (A.lookV k most)),X0 X A,X1 X A,X2 X A,Mp (Value.int .i64) j_ cO X.mg (gV ms),Mp pQ j_ qE X.bg (gZ (bs++[(⟨H2.at,h0,false,H9,h1,(eU k ([]:List Int))⟩:Bk)])),aB w (aT [(XI X A)])]) [19,22] (by kernel_rfl) q0 (fun k2 h7=>?_)
  refine fu 0 ?_
  refine fu 1 ?_
  refine fu 2 ?_
  refine fu 3 ?_
  have x7:=h7.tk [1,2,4,5,6,7,8,9,10,11,12,13,14]
  refine Jz 4 rfl x7 (fun _ H=>xl H 7) ?_
  refine fu 5 ?_
  refine Jz (v:=vP m.b) 6 rfl x7 (fun _ H=>aH (bU (x:=k) (iG Tryz.underlying80 Tryz.underlying3) H 10 rfl rfl rfl rfl ((by obtain ⟨p9,hp9,x4⟩:=hxp; have h9:=hI.kr p9 hp9; exact ⟨by omega,by omega⟩)) vz) (hG hmb)) ?_
  refine fu 7 ?_
  refine fu 8 ?_
  refine fu 9 ?_
  refine fu 10 ?_
  refine Dw 11 9 h7 ?_
  refine fu 12 ?_
  refine yt (v:=vP m.b) 13 rfl h7 (fun _ H=>aH (bU (x:=k) (iG Tryz.underlying80 Tryz.underlying3) H 12 rfl rfl rfl rfl ((by obtain ⟨p9,hp9,x4⟩:=hxp; have h9:=hI.kr p9 hp9; exact ⟨by omega,by omega⟩)) vz) (hG hmb)) ?_
  refine fu 14 ?_
  refine fu 15 ?_
  refine Dw 16 0 h7 ?_
  refine yt 17 rfl h7 (fun _ H=>fS H 7) ?_
  refine sf (i:=18) ?_
  refine fC gX #[vI H2.pc,vI H2.bg,vI H2.ln] h7 ?_
  intro v0 k1 x1
  refine Ca (x1.tk [1,2,3,4,5,6,7,8,9,10,11,12,13,14,15]) (x1.tk [2,3,5,6,7,8,9,10,11,12,13,14,15]) ?_
  refine sf (i:=19) ?_
  have hln87a:=(x1.rr 4).lenL cN
  have hln87:(m.asked++[H2]).length=m.asked.length+1:=by simp only [List.length_append,List.length_cons,List.length_nil] <;> omega
  refine fE kN [H2] cN x1 4 0 ?_
  intro g5 g9 k0 c7
  refine sj rfl (c7.tk [2,3,5,6,7,8,9,10,11,12,13,14,15]) ?_
  refine fu 20 ?_
  refine fu 21 ?_
  refine sf (i:=22) ?_
  refine eu c7 1 ?_
  intro b9 c6
  refine sj rfl (c6.tk [2,3,5,6,7,8,9,10,11,12,13,14,15]) ?_
  refine Cb ?_
  refine ae ?_
  refine ah [0,1,8,9,20,21,22] ?_
  refine aR ?_
  have n2:=S.lstIn (F:=fA) (x:=({ m with ap:=g5,ac:=g9,asked:=m.asked++[H2] }:Mt)) (S.big (L:=[_,_,_,_]) (c6.tk [1,2,3,4,5,0,6,7,8,9,10,11,12,13,14,15])) (List.getElem?_eq_some_iff.1 hmq).1
  have x9:=n2; rw [← gm (m':=({ m with ap:=g5,ac:=g9,asked:=m.asked++[H2] }:Mt)) (di.nd (X:=({ X with ms:=ms,bs:=bs }:XP)) (A:=({ A with asked:=al }:PK)) hXi hIi) hmq rfl rfl] at x9
  refine bP (v:=vI ((ii:Int)+1)) (hb:=(dY (jD (by omega)))) ?_
  refine ae ?_
  refine bD (i:=(ii,ms,bs,al)) ((ii+1),(ms.set q ({ m with ap:=g5,ac:=g9,asked:=m.asked++[H2] }:Mt)),(bs++[(⟨H2.at,h0,false,H9,h1,(eU k ([]:List Int))⟩:Bk)]),(al++[(k,H2)])) ⟨by omega,(di.nextM (X:=({ X with ms:=ms,bs:=bs }:XP)) (A:=({ A with asked:=al }:PK)) hXi hIi hmq hmk h5 g5 g9),(by rw [aj h2,List.map_append,← List.append_assoc,← hal]; rfl),(x9.tk [5,6,7,8,9,0,10,2,11])⟩
 refine br h5 ?_
 refine aR ?_
 rw [List.take_of_length_le (by omega)] at hal
 refine io ?_
 refine af ?_
 have hA9:A.nextA k most=({ A with asked:=al }:PK):=by rw [hal]; rfl
 rw [hA9]
 exact ⟨({ X with ms:=ms,bs:=bs }:XP),rfl,hXi,_,_,rfl,(S.big (L:=[_,_,_,_,_,_,_]) (H8.tk [1,2,3,4,5,6,7,0,8])).tk [1,0,2]⟩
structure PQ {α κ ν:Type} (key:α→κ) (val:α→ν) (b:α→Nat) (ms ys:List α) (rem:List (κ × Nat)):Prop where
 nd:(ys.map key).Nodup
 fw:∀ y∈ys,∃ m∈ms,key y=key m∧val y=val m∧(key m,b m) ∉ rem
 bw:∀ m∈ms,(key m,b m)∈rem∨∃ y∈ys,key y=key m∧val y=val m
section
variable {α κ ν:Type} {key:α→κ} {val:α→ν} {b:α→Nat} {ms ys:List α} {rem rem':List (κ × Nat)}
theorem PQ.step (h:PQ key val b ms ys rem) (hn:(ms.map key).Nodup) {p:κ × Nat} (hp:p∈rem) (hr:∀ q,q∈rem' ↔ q∈rem∧q ≠ p) {i:Nat} {m y:α} (hm:ms[i]?=some m) (hk:key m=p.1) (hb:b m=p.2) (h1:key y=key m) (h2:val y=val m):PQ key val b ms (ys++[y]) rem':=by
 have hpe:(key m,b m)=p:=Prod.ext hk hb
 have same:∀ m'∈ms,key m'=key m→m'=m:=fun m' hm' e=>by
   obtain ⟨q,hq⟩:=List.getElem?_of_mem hm'
   have:=sw hn hq hm e
   subst this
   exact Option.some.inj (hq.symm.trans hm)
 refine ⟨?_,fun z hz=>?_,fun m' hm'=>?_⟩
 · rw [List.map_append,List.nodup_append]
   refine ⟨h.nd,by simp,fun a ha c hc e=>?_⟩
   obtain ⟨z,hz,rfl⟩:=List.mem_map.1 ha
   simp at hc
   subst hc
   obtain ⟨m',hm',e1,_,e3⟩:=h.fw z hz
   have:=same m' hm' (e1.symm.trans (e.trans h1))
   subst this
   exact e3 (by rw [hpe]; exact hp)
 · rcases List.mem_append.1 hz with hz | hz
   · obtain ⟨m',hm',e1,e2,e3⟩:=h.fw z hz
     exact ⟨m',hm',e1,e2,fun h4=>e3 ((hr _).1 h4).1⟩
   rw [List.mem_singleton] at hz
   subst hz
   exact ⟨m,List.mem_of_getElem? hm,h1,h2,fun h4=>((hr _).1 h4).2 hpe⟩
 by_cases e:key m'=key m
 · have:=same m' hm' e
   subst this
   exact .inr ⟨y,by simp,h1,h2⟩
 rcases h.bw m' hm' with h3 | ⟨z,hz,e1,e2⟩
 · refine .inl ((hr _).2 ⟨h3,fun h4=>e ?_⟩)
   rw [← hpe] at h4
   exact congrArg Prod.fst h4
 exact .inr ⟨z,List.mem_append_left _ hz,e1,e2⟩
theorem PQ.kfd [DecidableEq κ] (h:PQ key val b ms ys []) (hn:(ms.map key).Nodup) (p:κ):(kfd key ys p).map val=(Go.Proofs.YthmmfhdpkddniaaGreatDoor.kfd key ms p).map val:=by
 cases hq:Go.Proofs.YthmmfhdpkddniaaGreatDoor.kfd key ms p with
 | none =>
   have h1:=uu hq
   rw [zS fun y hy e=>by
     obtain ⟨m,hm,e1,_⟩:=h.fw y hy
     exact h1 m hm (e1.symm.trans e)]
 | some m =>
   obtain ⟨i,hi,hk⟩:=lY hq
   rcases h.bw m (List.mem_of_getElem? hi) with h3 | ⟨z,hz,e1,e2⟩
   · cases h3
   · obtain ⟨q,hq2⟩:=List.getElem?_of_mem hz
     have h4:=kD h.nd hq2
     rw [e1,hk] at h4
     rw [h4]
     exact congrArg some e2
end
end Go.Proofs.YthmmfhdpkddniaaGreatDoor
