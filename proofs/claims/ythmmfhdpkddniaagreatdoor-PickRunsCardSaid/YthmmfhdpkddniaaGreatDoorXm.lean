import Derived.Test.YthmmfhdpkddniaaGreatDoorXk
set_option maxRecDepth 20000
set_option maxHeartbeats 4000000
set_option linter.all false
namespace Go.Proofs.YthmmfhdpkddniaaGreatDoor
open Go.RowKit
theorem L6 {A:PK} {j:Nat} (hI:bQ j A) {i:Nat} {p:fV} (h:A.peers[i]?=some p) (c:aV):A.alwB p.k c=aF p.alw c.pc:=by
 unfold PK.alwB
 rw [jh hI.nd h]
theorem Ll (X:XP) (A:PK) (j:Nat) (hX:di X A) (hI:bQ j A) (k:Int) (ch kp:Bool) (hj:j≤100000)  (w:World) (HS:S w [(XI X A)]):Calls Tryz.prog 14 #[vP X.g,vI k,.bool ch,.bool kp] w fun e w'=>∃ (Y:XP),Y.g=X.g∧di Y (A.chokeA k ch kp)∧∃ p' c',e=.returned (.tuple #[.slice p' (A.chokeL k ch kp).length c',vI (A.peE k)])∧S w' ([Rw 44 3 p' (A.chokeL k ch kp).length c' (fl aO (A.chokeL k ch kp)),(XI Y (A.chokeA k ch kp))]++[aB w (aT [(XI X A)])]):=by
 have H0:=HS.bu
 have h8:=hI.a8
 refine mG Tryz.func14 ?_
 refine ah [0,1,2,3] ?_
 refine ae ?_
 refine l_of (cA H0 l_ ?_)
 intro g1 b9 H3
 refine ae ?_
 refine l_of (eM (bh rfl) rfl (dc rfl rfl rfl) ?_)
 refine aE ?_
 by_cases H5:(A.peE k)=0
 ·
  have H9:=H3.b7 [1,2,3,4,5,6,7,0,8]
  refine l_of (aG (qb X A j hX hI k H5 _ (H9.tk [0])) ?_)
  rintro _ x8 ⟨H7,m6,H4,H8,rfl,b8⟩
  have b6:=H9.au b8
  refine bW ?_
  have b2:S _ [_,_,_,_,_,_,_,_,_,_,_,_,_]:=S.unbig (L:=[_,_,_,_]) (S.lstOut (F:=fA) (b6.tk [4,0,1,2,3,5,6,7,8]) H4)
  refine l_of (cA b2 vz ?_)
  intro h6 x7 b1
  refine l_of (eu b1 0 ?_)
  intro x6 b0
  refine a_ ?_
  refine l_of (eu b0 1 ?_)
  intro x5 g2
  refine aE ?_
  refine w_v (cj (b:=ch) rfl rfl) ?_
  refine cJ ?_
  rcases ef (ch) with H2 | H2
  ·
   refine aN (aa H2) xm ?_
   refine w_v (pf (aa H2)) ?_
   refine cD ?_
   refine ah [0,1,8,9,10,22] ?_
   rcases ef (kp) with H6 | H6
   ·
    refine g_cond_t rfl H6 ?_
    refine ae ?_
    refine l_of (eu g2 12 ?_)
    intro x4 w9
    refine aC ?_
    refine cY ?_
    refine dV (cT g1 _) ?_
    rintro _ _ x3 ⟨⟨rfl,h5⟩,rfl⟩
    replace h5:=w9.ab0 h5
    refine jb h5 12 ?_
    have hL27:=S.lstIn (F:=fA) (x:=({ m6 with ch:=ch }:Mt)) (S.big (L:=[_,_,_,_]) (h5.tk [1,2,3,4,5,6,7,8,9,10,11,13])) (List.getElem?_eq_some_iff.1 H4).1
    have hF28:=hL27.tj [1,2,3,4,0,5,6,7]; rw [← gm (m':=({ m6 with ch:=ch }:Mt)) (hX.nd hI) H4 rfl rfl] at hF28
    have hno:¬ (ch=true∧kp=false):=by simp [H2,H6]
    have hL9:A.chokeL k ch kp=[]:=if_neg (fun h9=>hno h9.2)
    have hA9:A.chokeA k ch kp=A.upd k (fun p=>{ p with un:=!ch }):=by unfold PK.chokeA; rw [if_pos H5,if_neg hno]; rfl
    rw [hL9,hA9,H5]
    exact ⟨({ X with ms:=X.ms.set H7 ({ m6 with ch:=ch }:Mt) }:XP),rfl,(by rw [← H8]; exact hX.upM hI H4 rfl rfl rfl),none,0,rfl,((S.big (L:=[_,_,_,_,_,_,_]) hF28).tk [0,1]).nilFl 44 3 aO⟩
   refine g_cond_f rfl H6 ?_
   refine aC ?_
   have w8:=S.lstIn (F:=fA) (x:=({ m6 with ch:=ch }:Mt)) (S.big (L:=[_,_,_,_]) (g2.tk [1,2,3,4,5,0,6,7,8,9,10,11,12,13])) (List.getElem?_eq_some_iff.1 H4).1
   have g0:=w8; rw [← gm (m':=({ m6 with ch:=ch }:Mt)) (hX.nd hI) H4 rfl rfl] at g0
   have hX1:di ({ X with ms:=(X.ms.set H7 ({ m6 with ch:=ch }:Mt)) }:XP) (A.upd k (fun p=>{ p with un:=!ch })):=by rw [← H8]; exact hX.upM hI H4 rfl rfl rfl
   have hI1:bQ j (A.upd k (fun p=>{ p with un:=!ch })):=hI.upd k (fun p=>rfl) fun p hp=>hI.fl p hp
   have hmq1:(X.ms.set H7 ({ m6 with ch:=ch }:Mt))[H7]?=some ({ m6 with ch:=ch }:Mt):=List.getElem?_set_self (List.getElem?_eq_some_iff.1 H4).1
   have hmD:∀ c∈m6.asked,0≤c.pc∧c.pc≤100:=fun c hc=>by have h9:=(hI.ak _ (gq.1 (by rw [← hX.ask m6 (List.mem_of_getElem? H4)]; exact hc))).2.1; exact ⟨h9.1,by have h8:c.pc<(A.n:Int):=h9.2.1; omega⟩
   refine aC ?_
   refine w_v (h_ rfl rfl rfl) ?_
   refine l_of (aG (wK ({ X with ms:=(X.ms.set H7 ({ m6 with ch:=ch }:Mt)) }:XP) (A.upd k (fun p=>{ p with un:=!ch })) j ((A.upd k (fun p=>{ p with un:=!ch })).here) hX1 hI1 (by omega) k H7 ({ m6 with ch:=ch }:Mt) hmq1 H8 (fun c:aV=>!aF ({ m6 with ch:=ch }:Mt).alw c.pc) 44 #[] #[vP h6] (Ob h6 (.cells #[.pointer (some ⟨({ m6 with ch:=ch }:Mt).b,0,none⟩)] 79 (0,0))) (fun c:aV=>0≤c.pc∧c.pc≤100) (Jd h6 ({ m6 with ch:=ch }:Mt)) hmD _ (g0.tk [1,2,6,0,7])) ?_)
   rintro _ x2 ⟨h0,h1,bs33,hY34,x9,c6,rfl,h7⟩
   replace h7:S _ [_,_,_,_,_,_,_,_,_,_,_]:=g0.abI (new:=[_,_,_,_,_,_]) [1,2,6,0,7] h7 rfl
   have hol9:(({ m6 with ch:=ch }:Mt).asked.filter (fun c:aV=>!aF ({ m6 with ch:=ch }:Mt).alw c.pc)).length≤({ m6 with ch:=ch }:Mt).asked.length:=List.length_filter_le _ _
   have g5:=h7; rw [← gm (m':=({ ({ m6 with ch:=ch }:Mt) with ap:=h0,ac:=h1,asked:=({ m6 with ch:=ch }:Mt).asked.filter fun y9=>!(fun c:aV=>!aF ({ m6 with ch:=ch }:Mt).alw c.pc) y9 }:Mt)) (di.ndA hX1 hI1) hmq1 rfl rfl] at g5
   refine bW ?_
   refine Gs ?_
   refine l_of (eu g5 9 ?_)
   intro x1 c9
   refine ae ?_
   refine cY ?_
   refine dV (cT g1 _) ?_
   rintro _ _ x0 ⟨⟨rfl,h4⟩,rfl⟩
   replace h4:=c9.ab0 h4
   refine jb h4 9 ?_
   have hyes:ch=true∧kp=false:=by simp [H2,H6]
   have hf9:(fun c=>!A.alwB k c)=(fun c:aV=>!aF m6.alw c.pc):=by funext c; rw [← H8,show m6.k=m6.pe.k from rfl,L6 hI (hX.at H4)]; rfl
   have hL9:A.chokeL k ch kp=m6.asked.filter (fun c:aV=>!aF m6.alw c.pc):=by unfold PK.chokeL; rw [if_pos ⟨H5,hyes⟩,hf9,hX.ask m6 (List.mem_of_getElem? H4),H8]
   have hA9:A.chokeA k ch kp={ A.upd k (fun p=>{ p with un:=!ch }) with asked:=cx A.asked k (fun c:aV=>!aF m6.alw c.pc) }:=by unfold PK.chokeA; rw [if_pos H5,if_pos hyes,hf9]
   rw [hL9,hA9,H5]
   exact ⟨({ X with ms:=((X.ms.set H7 ({ m6 with ch:=ch }:Mt)).set H7 ({ ({ m6 with ch:=ch }:Mt) with ap:=h0,ac:=h1,asked:=({ m6 with ch:=ch }:Mt).asked.filter fun y9=>!(fun c:aV=>!aF ({ m6 with ch:=ch }:Mt).alw c.pc) y9 }:Mt)),bs:=bs33 }:XP),rfl,hY34,_,_,rfl,(S.big (L:=[_,_,_,_,_,_,_]) (h4.tk [2,6,7,8,4,3,5,0,10])).tk [1,0,2]⟩
  refine dh (aa H2) ?_
  refine w_v (pt (aa H2)) ?_
  refine cD ?_
  refine ah [0,1,8,9,10,22] ?_
  refine g_cond_t rfl rfl ?_
  refine ae ?_
  refine l_of (eu g2 12 ?_)
  intro g9 c8
  refine aC ?_
  refine cY ?_
  refine dV (cT g1 _) ?_
  rintro _ _ g8 ⟨⟨rfl,h3⟩,rfl⟩
  replace h3:=c8.ab0 h3
  refine jb h3 12 ?_
  have hL48:=S.lstIn (F:=fA) (x:=({ m6 with ch:=ch }:Mt)) (S.big (L:=[_,_,_,_]) (h3.tk [1,2,3,4,5,6,7,8,9,10,11,13])) (List.getElem?_eq_some_iff.1 H4).1
  have hF49:=hL48.tj [1,2,3,4,0,5,6,7]; rw [← gm (m':=({ m6 with ch:=ch }:Mt)) (hX.nd hI) H4 rfl rfl] at hF49
  have hno:¬ (ch=true∧kp=false):=by simp [H2]
  have hL9:A.chokeL k ch kp=[]:=if_neg (fun h9=>hno h9.2)
  have hA9:A.chokeA k ch kp=A.upd k (fun p=>{ p with un:=!ch }):=by unfold PK.chokeA; rw [if_pos H5,if_neg hno]; rfl
  rw [hL9,hA9,H5]
  exact ⟨({ X with ms:=X.ms.set H7 ({ m6 with ch:=ch }:Mt) }:XP),rfl,(by rw [← H8]; exact hX.upM hI H4 rfl rfl rfl),none,0,rfl,((S.big (L:=[_,_,_,_,_,_,_]) hF49).tk [0,1]).nilFl 44 3 aO⟩
 have g4:=H3.b7 [1,2,3,4,5,6,7,0,8]
 refine l_of (aG (su X A j hX hI k H5 _ (g4.tk [0])) ?_)
 rintro _ g7 ⟨rfl,c7⟩
 have g3:=g4.au c7
 refine bB ?_
 refine aA ?_
 refine aX ?_
 refine dV (bC g1 (A.peE k) (0) [] _ (g3.ob (k:=7) rfl)) ?_
 rintro _ _ g6 ⟨⟨rfl,h2⟩,rfl⟩
 replace h2:=g3.aK 7 h2
 refine jb h2 0 ?_
 have hL9:A.chokeL k ch kp=[]:=if_neg (fun h9=>H5 h9.1)
 have hA9:A.chokeA k ch kp=A:=if_neg H5
 rw [hL9,hA9]
 exact ⟨X,rfl,hX,none,0,rfl,(h2.b7 [1,2,3,4,5,6,7,8]).nilFl 44 3 aO⟩
theorem QZ {X:XP} {A:PK} {j:Nat} (hX:di X A) (hI:bQ j A):KN cO (gV X.ms) X.ms.length:=by
 refine ⟨X.ms.map fun m=>(m.k,m.b),?_,fun p=>?_,by rw [List.length_map]⟩
 · rw [List.map_map]; exact hX.nd hI
 constructor
 · intro h
   obtain ⟨m,hm,rfl⟩:=List.mem_map.1 h
   obtain ⟨q,hq⟩:=List.getElem?_of_mem hm
   have h1:=hI.kr m.pe (List.mem_of_getElem? (hX.at hq))
   have h2:1≤m.k:=h1.1
   have h3:m.k≤1000:=h1.2
   exact ⟨⟨by show _≤m.k; omega,by show m.k≤_; omega⟩,by unfold gV; rw [kD (hX.nd hI) hq]; rfl⟩
 rintro ⟨_,h⟩
 obtain ⟨q,m,hq,hk,hb,_⟩:=uk h
 exact List.mem_map.2 ⟨m,List.mem_of_getElem? hq,Prod.ext hk hb⟩
theorem di.joined {X:XP} {A:PK} {j:Nat} {m:Mt} (hX:di X A) (hI:bQ j A) (hno:(gV X.ms m.k).isSome=false) (ha:m.asked=[]):di { X with ms:=X.ms++[m] } { A with peers:=A.peers++[m.pe] }:=by
 refine ⟨?_,fun x hx=>?_,hX.bn,hX.bf⟩
 · show (X.ms++[m]).map Mt.pe=_
   rw [List.map_append,hX.ms]; rfl
 rcases List.mem_append.1 hx with h | h
 · exact hX.ask x h
 rw [List.mem_singleton] at h
 subst h
 rw [ha]; exact (zy hX hI hno).symm
theorem FO {X:XP} {A:PK} {j:Nat} {m:Mt} (hX:di X A) (hI:bQ j A) (hno:(gV X.ms m.k).isSome=false):((X.ms++[m]).map Mt.k).Nodup:=by
 rw [List.map_append,List.nodup_append]
 refine ⟨hX.nd hI,by simp,fun a ha b hb e=>?_⟩
 obtain ⟨x,hx,rfl⟩:=List.mem_map.1 ha
 simp at hb; subst hb
 obtain ⟨q,hq⟩:=List.getElem?_of_mem hx
 unfold gV at hno
 rw [← e,kD (hX.nd hI) hq] at hno
 cases hno
theorem Ol (X:XP) (A:PK) (j:Nat) (hX:di X A) (hI:bQ j A) (k:Int)  (w:World) (HS:S w [(XI X A)]):Calls Tryz.prog 12 #[vP X.g,vI k] w fun e w'=>∃ (Y:XP),Y.g=X.g∧di Y (A.joinA k)∧e=.returned (vI (A.joinE k))∧S w' ([(XI Y (A.joinA k))]++[aB w (aT [(XI X A)])]):=by
 have H0:=HS.bu
 have h8:=hI.a8
 refine mG Tryz.func12 ?_
 refine ah [0,1] ?_
 refine iF ?_
 refine l_of (cA H0 l_ ?_)
 intro g1 b8 H3
 refine ae ?_
 refine l_of (eM (bh rfl) rfl (dc rfl rfl rfl) ?_)
 refine aC ?_
 refine bP (v:=.bool true) (hb:=(lG (r:=false) Tryz.underlying26 rfl)) ?_
 refine l_of (cz H3 (ez true 1 rfl _) ?_)
 intro b6 H5
 refine aQ ?_
 by_cases h0:(1:Int)≤k
 ·
  refine aN (dt h0) xm ?_
  refine aN (dt h0) (ai rfl rfl rfl pA) ?_
  refine w_v (pt (dt h0)) ?_
  by_cases g4:(k:Int)≤1000
  ·
   refine l_of (cz H5 (ez (decide ((k:Int)≤1000)) 7 (dt g4) _) ?_)
   intro b2 H9
   refine dz ?_
   refine w_v (v:=(pJ ((gV X.ms) k))) (aH (bU (x:=k) (iG Tryz.underlying80 Tryz.underlying3) H9 4 rfl rfl rfl rfl (⟨by omega,by omega⟩) vz) (rfl)) ?_
   refine bP (v:=.bool (!(((gV X.ms) k).isSome))) (hb:=(oD Tryz.underlying79)) ?_
   rcases ef (((gV X.ms) k).isSome) with H6 | H6
   ·
    refine l_of (aG (fh (!(((gV X.ms) k).isSome)) 6 (aa H6) _) ?_)
    rintro _ c6 ⟨rfl,g2⟩
    replace g2:=H9.ab0 g2
    refine bB ?_
    refine aA ?_
    refine aX ?_
    refine dV (bC g1 6 (0) [] _ (g2.ob (k:=0) rfl)) ?_
    rintro _ _ x9 ⟨⟨rfl,g0⟩,rfl⟩
    replace g0:=g2.aK 0 g0
    refine fG g0 0 ?_
    have hnp:¬ (k<1∨1000<k):=by omega
    have hfs:(fD A.peers k).isSome=true:=by rw [← hX.mtN]; exact H6
    have hE:A.joinE k=6:=by unfold PK.joinE; rw [if_neg hnp,if_pos hfs]
    have hA9:A.joinA k=A:=by unfold PK.joinA; rw [hE]; exact if_neg (by decide)
    rw [hA9]
    exact ⟨X,rfl,hX,(by rw [hE]; rfl),(g0.b7 [1,2,3,4,5,6,7,8])⟩
   refine l_of (cz H9 (ez (!(((gV X.ms) k).isSome)) 6 (aa H6) _) ?_)
   intro x8 g3
   refine cD ?_
   refine ah [0,1,4] ?_
   refine a_ ?_
   refine l_of (HY g3 4 (bh rfl) rfl rfl rfl rfl rfl Tryz.underlying80 ?_)
   intro nk17 hnk17
   obtain rfl:nk17=X.ms.length:=Q0 hnk17 (QZ hX hI) (fun s _=>Iff.rfl)
   refine bP ?_
   by_cases h1:((X.ms.length:Int):Int)<100
   ·
    refine l_of (cz g3 (ez (decide (((X.ms.length:Int):Int)<100)) 4 (dt h1) _) ?_)
    intro x7 b1
    refine a_ ?_
    refine l_of (cz b1 (Ry A.n (by omega) _) ?_)
    intro x6 b0
    refine a_ ?_
    refine ah [0,1,4,5] ?_
    refine dz ?_
    refine l_of (nG (α:=Bool) (Value.int .i64) Value.bool cO b0 (bh rfl) rfl rfl rfl ?_)
    intro H4 x5 w9
    refine l_of (nG (α:=Bool) (Value.int .i64) Value.bool cO w9 (bh rfl) rfl rfl rfl ?_)
    intro H2 x4 w8
    refine w_v (v:=.agg #[.string ((fieldS (List.replicate A.n false))),.map (some H4),.map (some H2),.bool true,.bool false,.slice none 0 0]) (j4) ?_
    refine l_of (fq w8 ?_)
    intro H7 x3 c9
    refine l_of (jz (x:=k) (a:=H7) (iG Tryz.underlying80 Tryz.underlying3) c9 7 (bh rfl) rfl rfl rfl rfl rfl rfl (⟨by omega,by omega⟩) ?_)
    intro x2 c8
    refine cD ?_
    refine ah [4] ?_
    refine iF ?_
    refine l_of (eu c8 3 ?_)
    intro x1 c7
    refine ae ?_
    refine cY ?_
    refine dV (cT g1 _) ?_
    rintro _ _ H8 ⟨⟨rfl,h9⟩,rfl⟩
    replace h9:=c7.ab0 h9
    refine fG h9 3 ?_
    have hnp:¬ (k<1∨1000<k):=by omega
    have hfs:¬ (fD A.peers k).isSome=true:=by rw [← hX.mtN,H6]; decide
    have hpl9:X.ms.length=A.peers.length:=by rw [← hX.ms,List.length_map]
    have hE:A.joinE k=0:=by unfold PK.joinE; rw [if_neg hnp,if_neg hfs,if_neg (by omega)]
    have hA9:A.joinA k={ A with peers:=A.peers++[⟨k,(List.replicate A.n false),(List.replicate A.n false),(List.replicate A.n false),false,false⟩] }:=if_pos hE
    rw [hA9,hE]
    have hB38:S H8 [Ob H7 (.cells #[.string ((fieldS (List.replicate A.n false))),.map (some H4),.map (some H2),.bool true,.bool false,.slice none 0 0] 88 (0,0)),Mp (Value.int .i64) Value.bool cO H4 (cX (List.replicate A.n false)),Mp (Value.int .i64) Value.bool cO H2 (cX (List.replicate A.n false)),bM fA X.ms,X0 X A,X1 X A,X2 X A,Mp (Value.int .i64) j_ cO X.mg (upM (gV X.ms) k H7),X5 X,bM g_ X.bs,aB w (aT [(XI X A)])]:=by rw [← Jm A.n]; exact h9.tk [0,2,1,8,4,5,6,7,9,10,11]
    have hL9:=S.lstSnoc (F:=fA) (x:=(⟨k,H7,(List.replicate A.n false),H4,(List.replicate A.n false),H2,(List.replicate A.n false),true,false,none,0,[]⟩:Mt)) (S.big (L:=[_,_,_,_]) ((S.nilFl hB38 44 3 aO).tk [1,2,3,0,4,5,6,7,8,9,10,11]))
    have hF9:S H8 [X0 X A,X1 X A,X2 X A,Mp (Value.int .i64) j_ cO X.mg (gV (X.ms++[(⟨k,H7,(List.replicate A.n false),H4,(List.replicate A.n false),H2,(List.replicate A.n false),true,false,none,0,[]⟩:Mt)])),(bM fA (X.ms++[(⟨k,H7,(List.replicate A.n false),H4,(List.replicate A.n false),H2,(List.replicate A.n false),true,false,none,0,[]⟩:Mt)])),X5 X,bM g_ X.bs,aB w (aT [(XI X A)])]:=by rw [Il (FO (m:=(⟨k,H7,(List.replicate A.n false),H4,(List.replicate A.n false),H2,(List.replicate A.n false),true,false,none,0,[]⟩:Mt)) hX hI H6)]; exact hL9.tk [1,2,3,4,0,5,6,7]
    exact ⟨({ X with ms:=X.ms++[(⟨k,H7,(List.replicate A.n false),H4,(List.replicate A.n false),H2,(List.replicate A.n false),true,false,none,0,[]⟩:Mt)] }:XP),rfl,hX.joined (m:=(⟨k,H7,(List.replicate A.n false),H4,(List.replicate A.n false),H2,(List.replicate A.n false),true,false,none,0,[]⟩:Mt)) hI H6 rfl,rfl,S.big (L:=[_,_,_,_,_,_,_]) hF9⟩
   refine l_of (aG (fh (decide (((X.ms.length:Int):Int)<100)) 4 (df h1) _) ?_)
   rintro _ x0 ⟨rfl,h7⟩
   replace h7:=g3.ab0 h7
   refine bB ?_
   refine aA ?_
   refine aX ?_
   refine dV (bC g1 4 (0) [] _ (h7.ob (k:=0) rfl)) ?_
   rintro _ _ g9 ⟨⟨rfl,h6⟩,rfl⟩
   replace h6:=h7.aK 0 h6
   refine fG h6 0 ?_
   have hnp:¬ (k<1∨1000<k):=by omega
   have hfs:¬ (fD A.peers k).isSome=true:=by rw [← hX.mtN,H6]; decide
   have hpl9:X.ms.length=A.peers.length:=by rw [← hX.ms,List.length_map]
   have hE:A.joinE k=4:=by unfold PK.joinE; rw [if_neg hnp,if_neg hfs,if_pos (by omega)]
   have hA9:A.joinA k=A:=by unfold PK.joinA; rw [hE]; exact if_neg (by decide)
   rw [hA9]
   exact ⟨X,rfl,hX,(by rw [hE]; rfl),(h6.b7 [1,2,3,4,5,6,7,8])⟩
  refine l_of (aG (fh (decide ((k:Int)≤1000)) 7 (df g4) _) ?_)
  rintro _ g8 ⟨rfl,h5⟩
  replace h5:=H5.ab0 h5
  refine bB ?_
  refine aA ?_
  refine aX ?_
  refine dV (bC g1 7 (0) [] _ (h5.ob (k:=0) rfl)) ?_
  rintro _ _ g7 ⟨⟨rfl,h4⟩,rfl⟩
  replace h4:=h5.aK 0 h4
  refine fG h4 0 ?_
  have hE:A.joinE k=7:=if_pos (by omega)
  have hA9:A.joinA k=A:=by unfold PK.joinA; rw [hE]; exact if_neg (by decide)
  rw [hA9]
  exact ⟨X,rfl,hX,(by rw [hE]; rfl),(h4.b7 [1,2,3,4,5,6,7,8])⟩
 iterate 2 refine dh (df h0) ?_
 refine w_v (pf (df h0)) ?_
 refine l_of (aG (fh false 7 rfl _) ?_)
 rintro _ g6 ⟨rfl,h3⟩
 replace h3:=H5.ab0 h3
 refine bB ?_
 refine aA ?_
 refine aX ?_
 refine dV (bC g1 7 (0) [] _ (h3.ob (k:=0) rfl)) ?_
 rintro _ _ g5 ⟨⟨rfl,h2⟩,rfl⟩
 replace h2:=h3.aK 0 h2
 refine fG h2 0 ?_
 have hE:A.joinE k=7:=if_pos (by omega)
 have hA9:A.joinA k=A:=by unfold PK.joinA; rw [hE]; exact if_neg (by decide)
 rw [hA9]
 exact ⟨X,rfl,hX,(by rw [hE]; rfl),(h2.b7 [1,2,3,4,5,6,7,8])⟩
end Go.Proofs.YthmmfhdpkddniaaGreatDoor
