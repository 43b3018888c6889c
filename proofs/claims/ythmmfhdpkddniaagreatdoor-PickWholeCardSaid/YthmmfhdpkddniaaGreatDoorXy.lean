import Derived.Test.YthmmfhdpkddniaaGreatDoorFm
import Derived.Test.YthmmfhdpkddniaaGreatDoorXx
set_option linter.unusedSimpArgs false
set_option linter.unusedVariables false
namespace Go.Proofs.YthmmfhdpkddniaaGreatDoor
open Go.RowKit
theorem mtM_is {X:XP} {A:PK} {j q:Nat} {m:Mt} {k:Int} (hX:XOK X A) (hI:PKI j A) (hm:X.ms[q]?=some m) (hk:m.k=k):mtM X.ms k=some m.b:=by
 rw [← hk]
 unfold mtM
 rw [kfd_at (hX.nd hI) hm]
 rfl
theorem peE_k {A:PK} {k:Int} (h:A.peE k=0):1≤k∧k≤1000:=⟨(peE_0 h).1,(peE_0 h).2.1⟩
abbrev DXy0 (X:XP) (A:PK):=Ob X.g (.cells #[.map (some X.mg),.int .i64 ((A.n:Int)),.int .i64 ((A.pz:Int)),.int .i64 ((A.la:Int)),.string (A.seed),.bool A.ino,.slice X.hp A.had.length X.hc,.slice X.wp A.wish.length X.wc,.map (some X.bg)] 85 (0,0))
set_option maxRecDepth 20000 in
set_option maxHeartbeats 4000000 in
theorem look_x (X:XP) (A:PK) (j:Nat) (hX:XOK X A) (hI:PKI j A) (k most:Int) (hmo:okI most) (hj:j≤100000)  (w:World) (HS:S w [(XI X A)]):Calls Tryz.prog 46 #[.pointer (some ⟨X.g,0,none⟩),.int .i64 k,.int .i64 most] w fun e w'=>∃ p' c',e=.returned (.tuple #[.slice p' (A.lookV k most).length c',.int .i64 (A.lookE k most)])∧S w' ([Rw 44 3 p' (A.lookV k most).length c' (fl choL (A.lookV k most)),(XI X A)]++[Old w (fps [(XI X A)])]):=by
 have H0:=HS.beginI
 have hn24:=hI.n24
 have hn1:=hI.n1
 have hpz1:=hI.pz1
 have hpz2:=hI.pz2
 have hla1:=hI.la1
 have hla2:=hI.la2
 have hadl:=hI.hadl
 have hwl:=hI.wishl
 replace H0:S _ [_,_,_,_,_,_,_,_]:=S.unbig (L:=[_,_,_,_,_,_,_]) H0
 have hmo9:=hmo
 unfold okI at hmo9
 refine enter_d 21 Tryz.func46 rfl rfl rfl ?_
 refine g_wk [(0,_),(1,_),(2,_)] ?_
 refine w_s ?_
 refine w_a ?_
 refine l_of (s_alloc H0 (wt0 rfl) rfl rfl rfl ze30 ?_)
 intro g1 wq2 H3
 refine w_k2 ?_
 refine l_of (s_defer (wt0 rfl) rfl (xd_defer rfl rfl rfl) ?_)
 refine w_k3 ?_
 refine w_b (v:=.bool true) (hb:=(b_neN (r:=false) Tryz.underlying26 rfl)) ?_
 refine l_of (s_call0 H3 (wt0 rfl) (x_call' rfl rfl cl39) (need_t true 1 rfl _) rfl rfl ?_)
 intro wq4 H5
 refine w_k4 ?_
 by_cases hb6:(0:Int)≤most
 ·
  refine l_of (s_call0 H5 (wt0 rfl) (x_call' rfl rfl cl39) (need_t (decide ((0:Int)≤most)) 7 (decide_eq_true hb6) _) rfl rfl ?_)
  intro wq7 H8
  refine w_k4 ?_
  by_cases hb9:(A.peE k)=0
  ·
   have H14:S _ [_,_,_]:=S.big (L:=[_,_,_,_,_,_,_]) (H8.tk [1,2,3,4,5,6,7,0,8])
   refine l_of (s_cl (peer_t X A j hX hI k hb9 _ (H14.tk [0])) ?_)
   rintro _ wq15 ⟨im10,m11,hm12,hk13,rfl,H16⟩
   replace H16:S _ [_,_,_]:=H14.abI (new:=[_]) [0] H16 rfl
   have H17:S _ [_,_,_,_,_,_,_,_,_]:=S.unbig (L:=[_,_,_,_,_,_,_]) (H16.tk [0,1,2])
   refine b_ret rfl rfl ?_
   refine w_k5 ?_
   have H20:S _ [_,_,_]:=S.big (L:=[_,_,_,_,_,_,_]) (H17.tk [0,1,2,3,4,5,6,7,8])
   refine l_of (s_cl (chosen_x X A j hX hI im10 m11 hm12 k hk13 (mtM_is hX hI hm12 hk13) (peE_k hb9) most ⟨(by omega),hmo⟩ hj _ (H20.tk [0])) ?_)
   rintro _ wq21 ⟨pn18,cn19,rfl,H22⟩
   replace H22:S _ [_,_,_,_]:=H20.abI (new:=[_,_]) [0] H22 rfl
   have H23:S _ [_,_,_,_,_,_,_,_,_,_]:=S.unbig (L:=[_,_,_,_,_,_,_]) (H22.tk [1,0,2,3])
   refine b_ret rfl rfl ?_
   refine w_a ?_
   refine l_of (w_st #[.int .i64 0] H23 8 ?_)
   intro wq24 H25
   refine w_e ?_
   refine g_wk [(6,_),(7,_)] ?_
   refine g_ret ?_
   refine fin_dret ?_
   refine gl_step (by simp) cl38 (caughtx_n g1 _) ?_
   rintro _ _ wq26 ⟨⟨rfl,H27⟩,rfl⟩
   replace H27:=H25.ab0 H27
   refine (?_:GL _ _ _ _ _ _ FrameMode.returning _)
   refine gl_ret [.tmp 6,.cell 7 30] [.slice pn18 ((A.lookP m11.pe most).length) cn19,.int .i64 0] rfl ⟨rfl,⟨_,rfl,run_load1 Tryz.underlying30 rfl (H27.cell (k:=8) rfl rfl)⟩,trivial⟩ ?_
   have hE:(A.lookE k most)=0:=(if_neg (by omega)).trans hb9
   have hf9:fndP A.peers k=some m11.pe:=by rw [← hk13]; exact fndP_at hI.nd (hX.at hm12)
   have hV:(A.lookV k most)=A.lookP m11.pe most:=by unfold PK.lookV; rw [if_pos hE,hf9]
   rw [hE,hV]
   exact ⟨_,_,rfl,((S.big (L:=[_,_,_,_,_,_,_]) (H27.tk [0,1,2,3,4,5,6,7,9])).tk [1,0,2])⟩
  ·
   have H28:S _ [_,_,_]:=S.big (L:=[_,_,_,_,_,_,_]) (H8.tk [1,2,3,4,5,6,7,0,8])
   refine l_of (s_cl (peer_f X A j hX hI k hb9 _ (H28.tk [0])) ?_)
   rintro _ wq29 ⟨rfl,H30⟩
   replace H30:S _ [_,_,_]:=H28.abI (new:=[_]) [0] H30 rfl
   have H31:S _ [_,_,_,_,_,_,_,_,_]:=S.unbig (L:=[_,_,_,_,_,_,_]) (H30.tk [0,1,2])
   refine b_panic ?_
   refine g_then_panic ?_
   refine fin_dpanic ?_
   refine gl_step (by simp) cl38 (caughtx_p g1 (A.peE k) (0) [] _ (H31.ob (k:=7) rfl)) ?_
   rintro _ _ wq32 ⟨⟨rfl,H33⟩,rfl⟩
   replace H33:S wq32 [Ob g1 (.cells #[.int .i64 ((A.peE k))] 30 (0,0)),DXy0 X A,Rw 4 1 X.hp A.had.length X.hc (fl boolL A.had),Rw 40 2 X.wp A.wish.length X.wc (fl wisL A.wish),Mp (Value.int .i64) ptV okI X.mg (mtM X.ms),(Lst MtI X.ms),Mp plK ptV okP X.bg (bkM X.bs),(Lst BkI X.bs),Old w (fps [(XI X A)])]:=H31.absorbK (new:=[Ob g1 (.cells #[.int .i64 ((A.peE k))] 30 (0,0))]) [7] (by intro g hg; rw [List.mem_singleton] at hg; subst hg; exact ⟨7,rfl,_,rfl,rfl⟩) H33
   refine (?_:GL _ _ _ _ _ _ FrameMode.returning _)
   refine gl_ret [.tmp 6,.cell 7 30] [.slice none 0 0,.int .i64 ((A.peE k))] rfl ⟨rfl,⟨_,rfl,run_load1 Tryz.underlying30 rfl (H33.cell (k:=0) rfl rfl)⟩,trivial⟩ ?_
   have hE:(A.lookE k most)=A.peE k:=if_neg (by omega)
   have hV:(A.lookV k most)=[]:=by unfold PK.lookV; rw [hE]; exact if_neg hb9
   rw [hE,hV]
   exact ⟨none,0,rfl,((S.big (L:=[_,_,_,_,_,_,_]) (H33.tk [1,2,3,4,5,6,7,8])).tk [0,1]).nilFl 44 3 choL⟩
 ·
  refine l_of (s_cl (need_f (decide ((0:Int)≤most)) 7 (decide_eq_false hb6) _) ?_)
  rintro _ wq34 ⟨rfl,H35⟩
  replace H35:=H5.ab0 H35
  refine b_panic ?_
  refine g_then_panic ?_
  refine fin_dpanic ?_
  refine gl_step (by simp) cl38 (caughtx_p g1 7 (0) [] _ (H35.ob (k:=0) rfl)) ?_
  rintro _ _ wq36 ⟨⟨rfl,H37⟩,rfl⟩
  replace H37:S wq36 [Ob g1 (.cells #[.int .i64 7] 30 (0,0)),DXy0 X A,Rw 4 1 X.hp A.had.length X.hc (fl boolL A.had),Rw 40 2 X.wp A.wish.length X.wc (fl wisL A.wish),Mp (Value.int .i64) ptV okI X.mg (mtM X.ms),(Lst MtI X.ms),Mp plK ptV okP X.bg (bkM X.bs),(Lst BkI X.bs),Old w (fps [(XI X A)])]:=H35.absorbK (new:=[Ob g1 (.cells #[.int .i64 7] 30 (0,0))]) [0] (by intro g hg; rw [List.mem_singleton] at hg; subst hg; exact ⟨0,rfl,_,rfl,rfl⟩) H37
  refine (?_:GL _ _ _ _ _ _ FrameMode.returning _)
  refine gl_ret [.tmp 6,.cell 7 30] [.slice none 0 0,.int .i64 7] rfl ⟨rfl,⟨_,rfl,run_load1 Tryz.underlying30 rfl (H37.cell (k:=0) rfl rfl)⟩,trivial⟩ ?_
  have hE:(A.lookE k most)=7:=if_pos (by omega)
  have hV:(A.lookV k most)=[]:=by unfold PK.lookV; rw [hE]; exact if_neg (by decide)
  rw [hE,hV]
  exact ⟨none,0,rfl,((S.big (L:=[_,_,_,_,_,_,_]) (H37.tk [1,2,3,4,5,6,7,8])).tk [0,1]).nilFl 44 3 choL⟩
end Go.Proofs.YthmmfhdpkddniaaGreatDoor
