import Derived.Test.YthmmfhdpkddniaaGreatDoorFm
import Derived.Test.YthmmfhdpkddniaaGreatDoorXl
import Derived.Test.YthmmfhdpkddniaaGreatDoorGl
set_option linter.unusedSimpArgs false
set_option linter.unusedVariables false
namespace Go.Proofs.YthmmfhdpkddniaaGreatDoor
open Go.RowKit
theorem cl40:callable Tryz.prog 40=true:=by kernel_rfl
theorem KN_ms {X:XP} {A:PK} {j:Nat} (hX:XOK X A) (hI:PKI j A):KN okI (mtM X.ms) X.ms.length:=by
 refine ⟨X.ms.map fun m=>(m.k,m.b),?_,fun p=>?_,by rw [List.length_map]⟩
 · rw [List.map_map]; exact hX.nd hI
 · constructor
   · intro h
     obtain ⟨m,hm,rfl⟩:=List.mem_map.1 h
     obtain ⟨q,hq⟩:=List.getElem?_of_mem hm
     have h1:=hI.kr m.pe (List.mem_of_getElem? (hX.at hq))
     have h2:1≤m.k:=h1.1
     have h3:m.k≤1000:=h1.2
     exact ⟨⟨by show _≤m.k; omega,by show m.k≤_; omega⟩,by unfold mtM; rw [kfd_at (hX.nd hI) hq]; rfl⟩
   · rintro ⟨_,h⟩
     obtain ⟨q,m,hq,hk,hb,_⟩:=mtM_some h
     exact List.mem_map.2 ⟨m,List.mem_of_getElem? hq,Prod.ext hk hb⟩
theorem XOK.joined {X:XP} {A:PK} {j:Nat} {m:Mt} (hX:XOK X A) (hI:PKI j A) (hno:(mtM X.ms m.k).isSome=false) (ha:m.asked=[]):XOK { X with ms:=X.ms++[m] } { A with peers:=A.peers++[m.pe] }:=by
 refine ⟨?_,fun x hx=>?_,hX.bn,hX.bf⟩
 · show (X.ms++[m]).map Mt.pe=_
   rw [List.map_append,hX.ms]; rfl
 · rcases List.mem_append.1 hx with h | h
   · exact hX.ask x h
   · rw [List.mem_singleton] at h
     subst h
     rw [ha]; exact (askL_none hX hI hno).symm
theorem joined_nd {X:XP} {A:PK} {j:Nat} {m:Mt} (hX:XOK X A) (hI:PKI j A) (hno:(mtM X.ms m.k).isSome=false):((X.ms++[m]).map Mt.k).Nodup:=by
 rw [List.map_append,List.nodup_append]
 refine ⟨hX.nd hI,by simp,fun a ha b hb e=>?_⟩
 obtain ⟨x,hx,rfl⟩:=List.mem_map.1 ha
 simp at hb; subst hb
 obtain ⟨q,hq⟩:=List.getElem?_of_mem hx
 unfold mtM at hno
 rw [← e,kfd_at (hX.nd hI) hq] at hno
 cases hno
set_option maxRecDepth 20000 in
set_option maxHeartbeats 4000000 in
theorem join_x (X:XP) (A:PK) (j:Nat) (hX:XOK X A) (hI:PKI j A) (k:Int)  (w:World) (HS:S w [(XI X A)]):Calls Tryz.prog 12 #[.pointer (some ⟨X.g,0,none⟩),.int .i64 k] w fun e w'=>∃ (Y:XP),Y.g=X.g∧XOK Y (A.joinA k)∧e=.returned (.int .i64 (A.joinE k))∧S w' ([(XI Y (A.joinA k))]++[Old w (fps [(XI X A)])]):=by
 have H0:=HS.beginI
 have hn24:=hI.n24
 have hn1:=hI.n1
 have hpz1:=hI.pz1
 have hpz2:=hI.pz2
 have hla1:=hI.la1
 have hla2:=hI.la2
 have hadl:=hI.hadl
 have hwl:=hI.wishl
 replace H0:S _ [_,_,_,_,_,_,_,_]:=S.unbig (L:=[_,_,_,_,_,_,_]) H0
 refine enter_d 53 Tryz.func12 rfl rfl rfl ?_
 refine g_wk [(0,_),(1,_)] ?_
 refine w_s ?_
 refine l_of (s_alloc H0 (wt0 rfl) rfl rfl rfl ze30 ?_)
 intro g1 wq2 H3
 refine w_k2 ?_
 refine l_of (s_defer (wt0 rfl) rfl (xd_defer rfl rfl rfl) ?_)
 refine w_k3 ?_
 refine w_b (v:=.bool true) (hb:=(b_neN (r:=false) Tryz.underlying26 rfl)) ?_
 refine l_of (s_call0 H3 (wt0 rfl) (x_call' rfl rfl cl39) (need_t true 1 rfl _) rfl rfl ?_)
 intro wq4 H5
 refine w_k5 ?_
 by_cases hb6:(1:Int)≤k
 ·
  refine w_g (decide_eq_true hb6) xm ?_
  refine w_g (decide_eq_true hb6) (x_bin rfl rfl rfl b_leq) ?_
  refine w_v (x_pick_t rfl rfl (decide_eq_true hb6) rfl) ?_
  by_cases hb7:(k:Int)≤1000
  ·
   refine l_of (s_call0 H5 (wt0 rfl) (x_call' rfl rfl cl39) (need_t (decide ((k:Int)≤1000)) 7 (decide_eq_true hb7) _) rfl rfl ?_)
   intro wq8 H9
   refine w_k8 ?_
   refine w_v (v:=(optP ((mtM X.ms) k))) (ex_cast (x_lookup1 (x:=k) (intTy Tryz.underlying80 Tryz.underlying3) H9 4 rfl rfl rfl rfl (⟨by omega,by omega⟩) ze79) (rfl)) ?_
   refine w_b (v:=.bool (!(((mtM X.ms) k).isSome))) (hb:=(b_eqPO Tryz.underlying79)) ?_
   rcases Bool.eq_false_or_eq_true (((mtM X.ms) k).isSome) with hb10 | hb10
   ·
    refine l_of (s_cl (need_f (!(((mtM X.ms) k).isSome)) 6 (neg_of hb10) _) ?_)
    rintro _ wq11 ⟨rfl,H12⟩
    replace H12:=H9.ab0 H12
    refine b_panic ?_
    refine g_then_panic ?_
    refine fin_dpanic ?_
    refine gl_step (by simp) cl38 (caughtx_p g1 6 (0) [] _ (H12.ob (k:=0) rfl)) ?_
    rintro _ _ wq13 ⟨⟨rfl,H14⟩,rfl⟩
    replace H14:S wq13 [Ob g1 (.cells #[.int .i64 6] 30 (0,0)),Ob X.g (.cells #[.map (some X.mg),.int .i64 ((A.n:Int)),.int .i64 ((A.pz:Int)),.int .i64 ((A.la:Int)),.string (A.seed),.bool A.ino,.slice X.hp A.had.length X.hc,.slice X.wp A.wish.length X.wc,.map (some X.bg)] 85 (0,0)),Rw 4 1 X.hp A.had.length X.hc (fl boolL A.had),Rw 40 2 X.wp A.wish.length X.wc (fl wisL A.wish),Mp (Value.int .i64) ptV okI X.mg (mtM X.ms),(Lst MtI X.ms),Mp plK ptV okP X.bg (bkM X.bs),(Lst BkI X.bs),Old w (fps [(XI X A)])]:=H12.absorbK (new:=[Ob g1 (.cells #[.int .i64 6] 30 (0,0))]) [0] (by intro g hg; rw [List.mem_singleton] at hg; subst hg; exact ⟨0,rfl,_,rfl,rfl⟩) H14
    refine (?_:GL _ _ _ _ _ _ FrameMode.returning _)
    refine gl_ret [.cell 4 30] [.int .i64 6] rfl ⟨⟨_,rfl,run_load1 Tryz.underlying30 rfl (H14.cell (k:=0) rfl rfl)⟩,trivial⟩ ?_
    have hnp:¬ (k<1∨1000<k):=by omega
    have hfs:(fndP A.peers k).isSome=true:=by rw [← hX.mtN]; exact hb10
    have hE:A.joinE k=6:=by unfold PK.joinE; rw [if_neg hnp,if_pos hfs]
    have hA9:A.joinA k=A:=by unfold PK.joinA; rw [hE]; exact if_neg (by decide)
    rw [hA9]
    exact ⟨X,rfl,hX,(by rw [hE]; rfl),((S.big (L:=[_,_,_,_,_,_,_]) (H14.tk [1,2,3,4,5,6,7,8])).tk [0,1])⟩
   ·
    refine l_of (s_call0 H9 (wt0 rfl) (x_call' rfl rfl cl39) (need_t (!(((mtM X.ms) k).isSome)) 6 (neg_of hb10) _) rfl rfl ?_)
    intro wq15 H16
    refine w_e ?_
    refine g_wk [(0,_),(1,_),(4,_)] ?_
    refine w_s ?_
    refine w_k5 ?_
    refine l_of (s_lenMap H16 4 (wt0 rfl) rfl rfl rfl rfl rfl Tryz.underlying80 ?_)
    intro nk17 hnk17
    obtain rfl:nk17=X.ms.length:=KN_eq hnk17 (KN_ms hX hI) (fun s _=>Iff.rfl)
    refine w_b ?_
    by_cases hb18:((X.ms.length:Int):Int)<100
    ·
     refine l_of (s_call0 H16 (wt0 rfl) (x_call' rfl rfl cl39) (need_t (decide (((X.ms.length:Int):Int)<100)) 4 (decide_eq_true hb18) _) rfl rfl ?_)
     intro wq19 H20
     refine w_k6 ?_
     refine l_of (s_call0 H20 (wt0 rfl) (x_call' rfl rfl cl40) (newX A.n (by omega) _) rfl rfl ?_)
     intro wq21 H22
     refine w_k6 ?_
     refine g_wk [(0,_),(1,_),(4,_),(5,_)] ?_
     refine w_s ?_
     refine w_k7 ?_
     refine l_of (s_makeMap (α:=Bool) (Value.int .i64) Value.bool okI H22 (wt0 rfl) rfl rfl rfl ?_)
     intro mg23 wq24 H25
     refine l_of (s_makeMap (α:=Bool) (Value.int .i64) Value.bool okI H25 (wt0 rfl) rfl rfl rfl ?_)
     intro mg26 wq27 H28
     refine w_v (v:=.agg #[.string ((fieldS (List.replicate A.n false))),.map (some mg23),.map (some mg26),.bool true,.bool false,.slice none 0 0]) (x_build (vs:=[.string ((fieldS (List.replicate A.n false))),.map (some mg23),.map (some mg26),.bool true]) rfl rfl (cells:=#[.string ((fieldS (List.replicate A.n false))),.map (some mg23),.map (some mg26),.bool true,.bool false,.slice none 0 0]) (by kernel_rfl)) ?_
     refine l_of (s_box H28 (wt0 rfl) rfl rfl rfl rfl ?_)
     intro g29 wq30 H31
     refine l_of (s_mapUpdate (x:=k) (a:=g29) (intTy Tryz.underlying80 Tryz.underlying3) H31 7 (wt0 rfl) rfl rfl rfl rfl rfl rfl (⟨by omega,by omega⟩) ?_)
     intro wq32 H33
     refine w_e ?_
     refine g_wk [(4,_)] ?_
     refine w_s ?_
     refine l_of (w_st #[.int .i64 0] H33 3 ?_)
     intro wq34 H35
     refine w_k2 ?_
     refine fin_dret ?_
     refine gl_step (by simp) cl38 (caughtx_n g1 _) ?_
     rintro _ _ wq36 ⟨⟨rfl,H37⟩,rfl⟩
     replace H37:=H35.ab0 H37
     refine (?_:GL _ _ _ _ _ _ FrameMode.returning _)
     refine gl_ret [.cell 4 30] [.int .i64 0] rfl ⟨⟨_,rfl,run_load1 Tryz.underlying30 rfl (H37.cell (k:=3) rfl rfl)⟩,trivial⟩ ?_
     have hnp:¬ (k<1∨1000<k):=by omega
     have hfs:¬ (fndP A.peers k).isSome=true:=by rw [← hX.mtN,hb10]; decide
     have hpl9:X.ms.length=A.peers.length:=by rw [← hX.ms,List.length_map]
     have hE:A.joinE k=0:=by unfold PK.joinE; rw [if_neg hnp,if_neg hfs,if_neg (by omega)]
     have hA9:A.joinA k={ A with peers:=A.peers++[⟨k,(List.replicate A.n false),(List.replicate A.n false),(List.replicate A.n false),false,false⟩] }:=if_pos hE
     rw [hA9,hE]
     have hB38:S wq36 [Ob g29 (.cells #[.string ((fieldS (List.replicate A.n false))),.map (some mg23),.map (some mg26),.bool true,.bool false,.slice none 0 0] 88 (0,0)),Mp (Value.int .i64) Value.bool okI mg23 (bMap (List.replicate A.n false)),Mp (Value.int .i64) Value.bool okI mg26 (bMap (List.replicate A.n false)),(Lst MtI X.ms),Ob X.g (.cells #[.map (some X.mg),.int .i64 ((A.n:Int)),.int .i64 ((A.pz:Int)),.int .i64 ((A.la:Int)),.string (A.seed),.bool A.ino,.slice X.hp A.had.length X.hc,.slice X.wp A.wish.length X.wc,.map (some X.bg)] 85 (0,0)),Rw 4 1 X.hp A.had.length X.hc (fl boolL A.had),Rw 40 2 X.wp A.wish.length X.wc (fl wisL A.wish),Mp (Value.int .i64) ptV okI X.mg (upM (mtM X.ms) k g29),Mp plK ptV okP X.bg (bkM X.bs),(Lst BkI X.bs),Old w (fps [(XI X A)])]:=by rw [← bMap_nil A.n]; exact H37.tk [0,2,1,8,4,5,6,7,9,10,11]
     have hL9:=S.lstSnoc (F:=MtI) (x:=(⟨k,g29,(List.replicate A.n false),mg23,(List.replicate A.n false),mg26,(List.replicate A.n false),true,false,none,0,[]⟩:Mt)) (S.big (L:=[_,_,_,_]) ((S.nilFl hB38 44 3 choL).tk [1,2,3,0,4,5,6,7,8,9,10,11]))
     have hF9:S wq36 [Ob X.g (.cells #[.map (some X.mg),.int .i64 ((A.n:Int)),.int .i64 ((A.pz:Int)),.int .i64 ((A.la:Int)),.string (A.seed),.bool A.ino,.slice X.hp A.had.length X.hc,.slice X.wp A.wish.length X.wc,.map (some X.bg)] 85 (0,0)),Rw 4 1 X.hp A.had.length X.hc (fl boolL A.had),Rw 40 2 X.wp A.wish.length X.wc (fl wisL A.wish),Mp (Value.int .i64) ptV okI X.mg (mtM (X.ms++[(⟨k,g29,(List.replicate A.n false),mg23,(List.replicate A.n false),mg26,(List.replicate A.n false),true,false,none,0,[]⟩:Mt)])),(Lst MtI (X.ms++[(⟨k,g29,(List.replicate A.n false),mg23,(List.replicate A.n false),mg26,(List.replicate A.n false),true,false,none,0,[]⟩:Mt)])),Mp plK ptV okP X.bg (bkM X.bs),(Lst BkI X.bs),Old w (fps [(XI X A)])]:=by rw [mtM_snoc (joined_nd (m:=(⟨k,g29,(List.replicate A.n false),mg23,(List.replicate A.n false),mg26,(List.replicate A.n false),true,false,none,0,[]⟩:Mt)) hX hI hb10)]; exact hL9.tk [1,2,3,4,0,5,6,7]
     exact ⟨({ X with ms:=X.ms++[(⟨k,g29,(List.replicate A.n false),mg23,(List.replicate A.n false),mg26,(List.replicate A.n false),true,false,none,0,[]⟩:Mt)] }:XP),rfl,hX.joined (m:=(⟨k,g29,(List.replicate A.n false),mg23,(List.replicate A.n false),mg26,(List.replicate A.n false),true,false,none,0,[]⟩:Mt)) hI hb10 rfl,rfl,S.big (L:=[_,_,_,_,_,_,_]) hF9⟩
    ·
     refine l_of (s_cl (need_f (decide (((X.ms.length:Int):Int)<100)) 4 (decide_eq_false hb18) _) ?_)
     rintro _ wq39 ⟨rfl,H40⟩
     replace H40:=H16.ab0 H40
     refine b_panic ?_
     refine g_then_panic ?_
     refine fin_dpanic ?_
     refine gl_step (by simp) cl38 (caughtx_p g1 4 (0) [] _ (H40.ob (k:=0) rfl)) ?_
     rintro _ _ wq41 ⟨⟨rfl,H42⟩,rfl⟩
     replace H42:S wq41 [Ob g1 (.cells #[.int .i64 4] 30 (0,0)),Ob X.g (.cells #[.map (some X.mg),.int .i64 ((A.n:Int)),.int .i64 ((A.pz:Int)),.int .i64 ((A.la:Int)),.string (A.seed),.bool A.ino,.slice X.hp A.had.length X.hc,.slice X.wp A.wish.length X.wc,.map (some X.bg)] 85 (0,0)),Rw 4 1 X.hp A.had.length X.hc (fl boolL A.had),Rw 40 2 X.wp A.wish.length X.wc (fl wisL A.wish),Mp (Value.int .i64) ptV okI X.mg (mtM X.ms),(Lst MtI X.ms),Mp plK ptV okP X.bg (bkM X.bs),(Lst BkI X.bs),Old w (fps [(XI X A)])]:=H40.absorbK (new:=[Ob g1 (.cells #[.int .i64 4] 30 (0,0))]) [0] (by intro g hg; rw [List.mem_singleton] at hg; subst hg; exact ⟨0,rfl,_,rfl,rfl⟩) H42
     refine (?_:GL _ _ _ _ _ _ FrameMode.returning _)
     refine gl_ret [.cell 4 30] [.int .i64 4] rfl ⟨⟨_,rfl,run_load1 Tryz.underlying30 rfl (H42.cell (k:=0) rfl rfl)⟩,trivial⟩ ?_
     have hnp:¬ (k<1∨1000<k):=by omega
     have hfs:¬ (fndP A.peers k).isSome=true:=by rw [← hX.mtN,hb10]; decide
     have hpl9:X.ms.length=A.peers.length:=by rw [← hX.ms,List.length_map]
     have hE:A.joinE k=4:=by unfold PK.joinE; rw [if_neg hnp,if_neg hfs,if_pos (by omega)]
     have hA9:A.joinA k=A:=by unfold PK.joinA; rw [hE]; exact if_neg (by decide)
     rw [hA9]
     exact ⟨X,rfl,hX,(by rw [hE]; rfl),((S.big (L:=[_,_,_,_,_,_,_]) (H42.tk [1,2,3,4,5,6,7,8])).tk [0,1])⟩
  ·
   refine l_of (s_cl (need_f (decide ((k:Int)≤1000)) 7 (decide_eq_false hb7) _) ?_)
   rintro _ wq43 ⟨rfl,H44⟩
   replace H44:=H5.ab0 H44
   refine b_panic ?_
   refine g_then_panic ?_
   refine fin_dpanic ?_
   refine gl_step (by simp) cl38 (caughtx_p g1 7 (0) [] _ (H44.ob (k:=0) rfl)) ?_
   rintro _ _ wq45 ⟨⟨rfl,H46⟩,rfl⟩
   replace H46:S wq45 [Ob g1 (.cells #[.int .i64 7] 30 (0,0)),Ob X.g (.cells #[.map (some X.mg),.int .i64 ((A.n:Int)),.int .i64 ((A.pz:Int)),.int .i64 ((A.la:Int)),.string (A.seed),.bool A.ino,.slice X.hp A.had.length X.hc,.slice X.wp A.wish.length X.wc,.map (some X.bg)] 85 (0,0)),Rw 4 1 X.hp A.had.length X.hc (fl boolL A.had),Rw 40 2 X.wp A.wish.length X.wc (fl wisL A.wish),Mp (Value.int .i64) ptV okI X.mg (mtM X.ms),(Lst MtI X.ms),Mp plK ptV okP X.bg (bkM X.bs),(Lst BkI X.bs),Old w (fps [(XI X A)])]:=H44.absorbK (new:=[Ob g1 (.cells #[.int .i64 7] 30 (0,0))]) [0] (by intro g hg; rw [List.mem_singleton] at hg; subst hg; exact ⟨0,rfl,_,rfl,rfl⟩) H46
   refine (?_:GL _ _ _ _ _ _ FrameMode.returning _)
   refine gl_ret [.cell 4 30] [.int .i64 7] rfl ⟨⟨_,rfl,run_load1 Tryz.underlying30 rfl (H46.cell (k:=0) rfl rfl)⟩,trivial⟩ ?_
   have hE:A.joinE k=7:=if_pos (by omega)
   have hA9:A.joinA k=A:=by unfold PK.joinA; rw [hE]; exact if_neg (by decide)
   rw [hA9]
   exact ⟨X,rfl,hX,(by rw [hE]; rfl),((S.big (L:=[_,_,_,_,_,_,_]) (H46.tk [1,2,3,4,5,6,7,8])).tk [0,1])⟩
 ·
  iterate 2 refine w_n (decide_eq_false hb6) ?_
  refine w_v (x_pick_f rfl rfl (decide_eq_false hb6) rfl) ?_
  refine l_of (s_cl (need_f false 7 rfl _) ?_)
  rintro _ wq47 ⟨rfl,H48⟩
  replace H48:=H5.ab0 H48
  refine b_panic ?_
  refine g_then_panic ?_
  refine fin_dpanic ?_
  refine gl_step (by simp) cl38 (caughtx_p g1 7 (0) [] _ (H48.ob (k:=0) rfl)) ?_
  rintro _ _ wq49 ⟨⟨rfl,H50⟩,rfl⟩
  replace H50:S wq49 [Ob g1 (.cells #[.int .i64 7] 30 (0,0)),Ob X.g (.cells #[.map (some X.mg),.int .i64 ((A.n:Int)),.int .i64 ((A.pz:Int)),.int .i64 ((A.la:Int)),.string (A.seed),.bool A.ino,.slice X.hp A.had.length X.hc,.slice X.wp A.wish.length X.wc,.map (some X.bg)] 85 (0,0)),Rw 4 1 X.hp A.had.length X.hc (fl boolL A.had),Rw 40 2 X.wp A.wish.length X.wc (fl wisL A.wish),Mp (Value.int .i64) ptV okI X.mg (mtM X.ms),(Lst MtI X.ms),Mp plK ptV okP X.bg (bkM X.bs),(Lst BkI X.bs),Old w (fps [(XI X A)])]:=H48.absorbK (new:=[Ob g1 (.cells #[.int .i64 7] 30 (0,0))]) [0] (by intro g hg; rw [List.mem_singleton] at hg; subst hg; exact ⟨0,rfl,_,rfl,rfl⟩) H50
  refine (?_:GL _ _ _ _ _ _ FrameMode.returning _)
  refine gl_ret [.cell 4 30] [.int .i64 7] rfl ⟨⟨_,rfl,run_load1 Tryz.underlying30 rfl (H50.cell (k:=0) rfl rfl)⟩,trivial⟩ ?_
  have hE:A.joinE k=7:=if_pos (by omega)
  have hA9:A.joinA k=A:=by unfold PK.joinA; rw [hE]; exact if_neg (by decide)
  rw [hA9]
  exact ⟨X,rfl,hX,(by rw [hE]; rfl),((S.big (L:=[_,_,_,_,_,_,_]) (H50.tk [1,2,3,4,5,6,7,8])).tk [0,1])⟩
end Go.Proofs.YthmmfhdpkddniaaGreatDoor
