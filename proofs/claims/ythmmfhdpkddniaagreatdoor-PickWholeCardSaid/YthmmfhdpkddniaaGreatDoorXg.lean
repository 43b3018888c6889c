import Derived.Test.YthmmfhdpkddniaaGreatDoorFm
import Derived.Test.YthmmfhdpkddniaaGreatDoorXf
set_option maxRecDepth 20000
set_option maxHeartbeats 4000000
set_option linter.unusedSimpArgs false
set_option linter.unusedVariables false
namespace Go.Proofs.YthmmfhdpkddniaaGreatDoor
open Go.RowKit
theorem cl38:callable Tryz.prog 38=true:=by kernel_rfl
theorem cl41:callable Tryz.prog 41=true:=by kernel_rfl
theorem XOK.upM {X:XP} {A:PK} {j q:Nat} {m m':Mt} {f:Pee→Pee} (hX:XOK X A) (hI:PKI j A) (hm:X.ms[q]?=some m) (hk:m'.k=m.k) (hp:m'.pe=f m.pe) (ha:m'.asked=m.asked):XOK { X with ms:=X.ms.set q m' } (A.upd m.k f):=by
 have h1:=hX.at hm
 have h2:=upd_at hI.nd h1 f
 have h2:A.upd m.k f={ A with peers:=A.peers.set q (f m.pe) }:=h2
 rw [h2]
 refine ⟨?_,fun x hx=>?_,hX.bn,hX.bf⟩
 · show (X.ms.set q m').map Mt.pe=A.peers.set q (f m.pe)
   rw [List.map_set,hX.ms,hp]
 · show x.asked=mine A.asked x.k
   rcases List.mem_or_eq_of_mem_set hx with h | rfl
   · exact hX.ask x h
   · rw [ha,hk]; exact hX.ask m (List.mem_of_getElem? hm)
abbrev DXg0 (X:XP) (A:PK):=Ob X.g (.cells #[.map (some X.mg),.int .i64 ((A.n:Int)),.int .i64 ((A.pz:Int)),.int .i64 ((A.la:Int)),.string (A.seed),.bool A.ino,.slice X.hp A.had.length X.hc,.slice X.wp A.wish.length X.wc,.map (some X.bg)] 85 (0,0))
abbrev DXg1 (X:XP) (A:PK):=Rw 4 1 X.hp A.had.length X.hc (fl boolL A.had)
abbrev DXg2 (X:XP) (A:PK):=Rw 40 2 X.wp A.wish.length X.wc (fl wisL A.wish)
theorem hasF_x (X:XP) (A:PK) (j:Nat) (hX:XOK X A) (hI:PKI j A) (k:Int) (s:ByteArray)  (w:World) (HS:S w [(XI X A)]):Calls Tryz.prog 13 #[.pointer (some ⟨X.g,0,none⟩),.int .i64 k,.string s] w fun e w'=>∃ (Y:XP),Y.g=X.g∧XOK Y (A.hasFA k s)∧e=.returned (.int .i64 (A.hasFE k s))∧S w' ([(XI Y (A.hasFA k s))]++[Old w (fps [(XI X A)])]):=by
 have H0:=HS.beginI
 have hn24:=hI.n24
 have hn1:=hI.n1
 have hpz1:=hI.pz1
 have hpz2:=hI.pz2
 have hla1:=hI.la1
 have hla2:=hI.la2
 have hadl:=hI.hadl
 have hwl:=hI.wishl
 replace H0:S _ [_,_,_,_,_,_,_,_]:=S.unbig (L:=[_,_,_,_,_,_,_]) H0
 refine enter_d 24 Tryz.func13 rfl rfl rfl ?_
 refine g_wk [(0,_),(1,_),(2,_)] ?_
 refine w_s ?_
 refine l_of (s_alloc H0 (wt0 rfl) rfl rfl rfl ze30 ?_)
 intro g1 wq2 H3
 refine w_k2 ?_
 refine l_of (s_defer (wt0 rfl) rfl (xd_defer rfl rfl rfl) ?_)
 refine w_k3 ?_
 refine w_b (v:=.bool true) (hb:=(b_neN (r:=false) Tryz.underlying26 rfl)) ?_
 refine w_m ?_
 refine w_g rfl xm ?_
 refine w_g rfl xn ?_
 refine w_g rfl (xf 1) ?_
 refine w_g rfl (xl H3 1) ?_
 refine w_g rfl xm ?_
 refine l_of (s_call0 H3 (wt1 rfl rfl rfl rfl rfl) (x_call' rfl rfl cl41) (validX A.n s _) rfl rfl ?_)
 intro wq4 H5
 refine w_v (x_pick_t rfl rfl rfl rfl) ?_
 rcases Bool.eq_false_or_eq_true ((validF (A.n:Int) s)) with hb6 | hb6
 ·
  refine l_of (s_call0 H5 (wt0 rfl) (x_call' rfl rfl cl39) (need_t (validF (A.n:Int) s) 1 hb6 _) rfl rfl ?_)
  intro wq7 H8
  refine w_k4 ?_
  by_cases hb9:(A.peE k)=0
  ·
   have H14:S _ [_,_,_]:=S.big (L:=[_,_,_,_,_,_,_]) (H8.tk [1,2,3,4,5,6,7,0,8])
   refine l_of (s_cl (peer_t X A j hX hI k hb9 _ (H14.tk [0])) ?_)
   rintro _ wq15 ⟨im10,m11,hm12,hk13,rfl,H16⟩
   replace H16:S _ [_,_,_]:=H14.abI (new:=[_]) [0] H16 rfl
   have H17:S _ [_,_,_,_,_,_,_,_,_]:=S.unbig (L:=[_,_,_,_,_,_,_]) (H16.tk [0,1,2])
   refine b_ret rfl rfl ?_
   have H18:S _ [_,_,_,_,_,_,_,_,_,_,_,_,_]:=S.unbig (L:=[_,_,_,_]) (S.lstOut (F:=MtI) (H17.tk [4,0,1,2,3,5,6,7,8]) hm12)
   refine w_r3 ?_
   refine l_of (w_st #[.string s,.map (some m11.am),.map (some m11.sm),.bool m11.ch,.bool m11.sn,.slice m11.ap m11.asked.length m11.ac] H18 0 ?_)
   intro wq19 H20
   refine w_e ?_
   refine g_wk [(6,_)] ?_
   refine w_s ?_
   refine l_of (w_st #[.int .i64 0] H20 11 ?_)
   intro wq21 H22
   refine w_k2 ?_
   refine fin_dret ?_
   refine gl_step (by simp) cl38 (caughtx_n g1 _) ?_
   rintro _ _ wq23 ⟨⟨rfl,H24⟩,rfl⟩
   replace H24:=H22.ab0 H24
   refine (?_:GL _ _ _ _ _ _ FrameMode.returning _)
   refine gl_ret [.cell 6 30] [.int .i64 0] rfl ⟨⟨_,rfl,run_load1 Tryz.underlying30 rfl (H24.cell (k:=11) rfl rfl)⟩,trivial⟩ ?_
   have hse9:s=fieldS (truthsS A.n s):=(Vf.of_valid (n:=(A.n:Int)) ⟨by omega,by omega⟩ hb6).is
   have H25:S wq23 [Ob m11.b (.cells #[.string ((fieldS (truthsS A.n s))),.map (some m11.am),.map (some m11.sm),.bool m11.ch,.bool m11.sn,.slice m11.ap m11.asked.length m11.ac] 88 (0,0)),Mp (Value.int .i64) Value.bool okI m11.am (bMap m11.alw),Mp (Value.int .i64) Value.bool okI m11.sm (bMap m11.sug),Rw 44 3 m11.ap m11.asked.length m11.ac (fl choL m11.asked),(Lst MtI (X.ms.eraseIdx im10)),DXg0 X A,DXg1 X A,DXg2 X A,Mp (Value.int .i64) ptV okI X.mg (mtM X.ms),Mp plK ptV okP X.bg (bkM X.bs),(Lst BkI X.bs),Ob g1 (.cells #[.int .i64 0] 30 (0,0)),Old w (fps [(XI X A)])]:=by rw [← hse9]; exact H24
   have hL26:=S.lstIn (F:=MtI) (x:=({ m11 with fld:=(truthsS A.n s) }:Mt)) (S.big (L:=[_,_,_,_]) (H25.tk [0,1,2,3,4,5,6,7,8,9,10,12])) (List.getElem?_eq_some_iff.1 hm12).1
   have hF27:S wq23 [DXg0 X A,DXg1 X A,DXg2 X A,Mp (Value.int .i64) ptV okI X.mg (mtM (X.ms.set im10 ({ m11 with fld:=(truthsS A.n s) }:Mt))),(Lst MtI (X.ms.set im10 ({ m11 with fld:=(truthsS A.n s) }:Mt))),Mp plK ptV okP X.bg (bkM X.bs),(Lst BkI X.bs),Old w (fps [(XI X A)])]:=by rw [mtM_set (m':=({ m11 with fld:=(truthsS A.n s) }:Mt)) (hX.nd hI) hm12 rfl rfl]; exact hL26.tk [1,2,3,4,0,5,6,7]
   have hE:A.hasFE k s=0:=(if_pos hb6).trans hb9
   have hA9:A.hasFA k s=A.upd k (fun p=>{ p with fld:=truthsS A.n s }):=if_pos hE
   rw [hA9,hE]
   exact ⟨({ X with ms:=X.ms.set im10 ({ m11 with fld:=(truthsS A.n s) }:Mt) }:XP),rfl,(by rw [← hk13]; exact hX.upM hI hm12 rfl rfl rfl),rfl,((S.big (L:=[_,_,_,_,_,_,_]) hF27).tk [0,1])⟩
  ·
   have H28:S _ [_,_,_]:=S.big (L:=[_,_,_,_,_,_,_]) (H8.tk [1,2,3,4,5,6,7,0,8])
   refine l_of (s_cl (peer_f X A j hX hI k hb9 _ (H28.tk [0])) ?_)
   rintro _ wq29 ⟨rfl,H30⟩
   replace H30:S _ [_,_,_]:=H28.abI (new:=[_]) [0] H30 rfl
   have H31:S _ [_,_,_,_,_,_,_,_,_]:=S.unbig (L:=[_,_,_,_,_,_,_]) (H30.tk [0,1,2])
   refine b_panic ?_
   refine g_then_panic ?_
   refine fin_dpanic ?_
   refine gl_step (by simp) cl38 (caughtx_p g1 (A.peE k) (0) [] _ (H31.ob (k:=7) rfl)) ?_
   rintro _ _ wq32 ⟨⟨rfl,H33⟩,rfl⟩
   replace H33:S wq32 [Ob g1 (.cells #[.int .i64 ((A.peE k))] 30 (0,0)),DXg0 X A,DXg1 X A,DXg2 X A,Mp (Value.int .i64) ptV okI X.mg (mtM X.ms),(Lst MtI X.ms),Mp plK ptV okP X.bg (bkM X.bs),(Lst BkI X.bs),Old w (fps [(XI X A)])]:=H31.absorbK (new:=[Ob g1 (.cells #[.int .i64 ((A.peE k))] 30 (0,0))]) [7] (by intro g hg; rw [List.mem_singleton] at hg; subst hg; exact ⟨7,rfl,_,rfl,rfl⟩) H33
   refine (?_:GL _ _ _ _ _ _ FrameMode.returning _)
   refine gl_ret [.cell 6 30] [.int .i64 ((A.peE k))] rfl ⟨⟨_,rfl,run_load1 Tryz.underlying30 rfl (H33.cell (k:=0) rfl rfl)⟩,trivial⟩ ?_
   have hE:A.hasFE k s=A.peE k:=if_pos hb6
   have hA9:A.hasFA k s=A:=by unfold PK.hasFA; rw [hE]; exact if_neg hb9
   rw [hA9]
   exact ⟨X,rfl,hX,(by rw [hE]; rfl),((S.big (L:=[_,_,_,_,_,_,_]) (H33.tk [1,2,3,4,5,6,7,8])).tk [0,1])⟩
 ·
  refine l_of (s_cl (need_f (validF (A.n:Int) s) 1 hb6 _) ?_)
  rintro _ wq34 ⟨rfl,H35⟩
  replace H35:=H5.ab0 H35
  refine b_panic ?_
  refine g_then_panic ?_
  refine fin_dpanic ?_
  refine gl_step (by simp) cl38 (caughtx_p g1 1 (0) [] _ (H35.ob (k:=0) rfl)) ?_
  rintro _ _ wq36 ⟨⟨rfl,H37⟩,rfl⟩
  replace H37:S wq36 [Ob g1 (.cells #[.int .i64 1] 30 (0,0)),DXg0 X A,DXg1 X A,DXg2 X A,Mp (Value.int .i64) ptV okI X.mg (mtM X.ms),(Lst MtI X.ms),Mp plK ptV okP X.bg (bkM X.bs),(Lst BkI X.bs),Old w (fps [(XI X A)])]:=H35.absorbK (new:=[Ob g1 (.cells #[.int .i64 1] 30 (0,0))]) [0] (by intro g hg; rw [List.mem_singleton] at hg; subst hg; exact ⟨0,rfl,_,rfl,rfl⟩) H37
  refine (?_:GL _ _ _ _ _ _ FrameMode.returning _)
  refine gl_ret [.cell 6 30] [.int .i64 1] rfl ⟨⟨_,rfl,run_load1 Tryz.underlying30 rfl (H37.cell (k:=0) rfl rfl)⟩,trivial⟩ ?_
  have hE:A.hasFE k s=1:=if_neg (by rw [hb6]; decide)
  have hA9:A.hasFA k s=A:=by unfold PK.hasFA; rw [hE]; exact if_neg (by decide)
  rw [hA9]
  exact ⟨X,rfl,hX,(by rw [hE]; rfl),((S.big (L:=[_,_,_,_,_,_,_]) (H37.tk [1,2,3,4,5,6,7,8])).tk [0,1])⟩
theorem wish_x (X:XP) (A:PK) (j:Nat) (hX:XOK X A) (hI:PKI j A) (i:Int) (x:Wis)  (w:World) (HS:S w [(XI X A)]):Calls Tryz.prog 15 #[.pointer (some ⟨X.g,0,none⟩),.int .i64 i,.agg #[.int .i64 (x.lv),.int .i64 (x.du)]] w fun e w'=>∃ (Y:XP),Y.g=X.g∧XOK Y (A.wishA i x)∧e=.returned (.int .i64 (A.wishE i x))∧S w' ([(XI Y (A.wishA i x))]++[Old w (fps [(XI X A)])]):=by
 have H0:=HS.beginI
 have hn24:=hI.n24
 have hn1:=hI.n1
 have hpz1:=hI.pz1
 have hpz2:=hI.pz2
 have hla1:=hI.la1
 have hla2:=hI.la2
 have hadl:=hI.hadl
 have hwl:=hI.wishl
 replace H0:S _ [_,_,_,_,_,_,_,_]:=S.unbig (L:=[_,_,_,_,_,_,_]) H0
 refine enter_d 36 Tryz.func15 rfl rfl rfl ?_
 refine g_wk [(0,_),(1,_),(2,_)] ?_
 refine w_s ?_
 refine l_of (s_box H0 (wt0 rfl) rfl rfl rfl rfl ?_)
 intro g1 wq2 H3
 refine l_of (s_alloc H3 (wt0 rfl) rfl rfl rfl ze30 ?_)
 intro g4 wq5 H6
 refine w_k2 ?_
 refine l_of (s_defer (wt0 rfl) rfl (xd_defer rfl rfl rfl) ?_)
 refine w_k4 ?_
 by_cases hb7:0≤i∧i<(A.n:Int)
 ·
  have H8:S _ [_,_,_,_]:=S.big (L:=[_,_,_,_,_,_,_]) (H6.tk [2,3,4,5,6,7,8,0,1,9])
  refine l_of (s_cl (index_t X A j hX hI i hb7 _ (H8.tk [0])) ?_)
  rintro _ wq9 ⟨rfl,H10⟩
  replace H10:S _ [_,_,_,_]:=H8.abI (new:=[_]) [0] H10 rfl
  have H11:S _ [_,_,_,_,_,_,_,_,_,_]:=S.unbig (L:=[_,_,_,_,_,_,_]) (H10.tk [0,1,2,3])
  refine b_ret rfl rfl ?_
  refine w_k6 ?_
  by_cases hb12:(0:Int)≤x.lv
  ·
   refine w_g (decide_eq_true hb12) (xf 0) ?_
   refine w_g (decide_eq_true hb12) (xl H11 8) ?_
   refine w_g (decide_eq_true hb12) (x_bin rfl rfl rfl b_leq) ?_
   refine w_v (x_pick_t rfl rfl (decide_eq_true hb12) rfl) ?_
   refine w_m ?_
   by_cases hb13:(x.lv:Int)≤7
   ·
    refine w_g (decide_eq_true hb13) (xf 1) ?_
    refine w_g (decide_eq_true hb13) (xl H11 8) ?_
    refine w_g (decide_eq_true hb13) (x_bin rfl rfl rfl b_geq) ?_
    refine w_v (x_pick_t rfl rfl (decide_eq_true hb13) rfl) ?_
    refine w_m ?_
    by_cases hb14:(0:Int)≤x.du
    ·
     refine w_g (decide_eq_true hb14) (xf 1) ?_
     refine w_g (decide_eq_true hb14) (xl H11 8) ?_
     refine w_g (decide_eq_true hb14) (x_bin rfl rfl rfl b_leq) ?_
     refine w_v (x_pick_t rfl rfl (decide_eq_true hb14) rfl) ?_
     by_cases hb15:(x.du:Int)≤1000000000
     ·
      refine l_of (s_call0 H11 (wt0 rfl) (x_call' rfl rfl cl39) (need_t (decide ((x.du:Int)≤1000000000)) 7 (decide_eq_true hb15) _) rfl rfl ?_)
      intro wq16 H17
      refine w_e ?_
      refine g_wk [(0,_),(1,_),(5,_),(6,_)] ?_
      refine g_seq ?_
      refine g_any [] (fun wx=>S wx [DXg0 X A,Ob g1 (.cells #[.int .i64 (x.lv),.int .i64 (x.du)] 40 (0,0))]) [7] (by kernel_rfl) H17 (fun wq18 H19=>?_)
      have cm1:=H19.mask [true,false,false,false,false,false,false,false,true,false]
      refine w_t 0 rfl cm1 (fun _ _=>xm) ?_
      refine w_t 1 rfl cm1 (fun _ _=>xn) ?_
      refine w_t 2 rfl cm1 (fun _ _=>xf 7) ?_
      refine w_t 3 rfl cm1 (fun _ H=>xl H 0) ?_
      refine w_t 4 rfl cm1 (fun _ _=>xm) ?_
      refine w_t (v:=.agg #[.int .i64 (x.lv),.int .i64 (x.du)]) 5 rfl cm1 (fun _ H=>x_loadA H 1 rfl rfl Tryz.underlying40 rfl sz40 rfl rfl rfl) ?_
      refine a_one (i:=6) (by kernel_rfl) rfl ?_
      refine s_v (x_i ((i).toNat) (H19.rr 2)) ?_
      refine a_k cm1 ?_
      refine a_one (i:=7) (by kernel_rfl) rfl ?_
      refine s_stoL (j:=((i).toNat)) wisE x H19 2 (wt0 rfl) rfl rfl rfl rfl rfl rfl sz40 (by omega) ?_
      intro wq20 H21
      have H22:S wq20 [Ob X.g (.cells #[.map (some X.mg),.int .i64 ((A.n:Int)),.int .i64 ((A.pz:Int)),.int .i64 ((A.la:Int)),.string (A.seed),.bool A.ino,.slice X.hp A.had.length X.hc,.slice X.wp ((A.wish.set (i).toNat x).length) X.wc,.map (some X.bg)] 85 (0,0)),DXg1 X A,Rw 40 2 X.wp ((A.wish.set (i).toNat x).length) X.wc (fl wisL (A.wish.set (i).toNat x)),Mp (Value.int .i64) ptV okI X.mg (mtM X.ms),(Lst MtI X.ms),Mp plK ptV okP X.bg (bkM X.bs),(Lst BkI X.bs),Ob g4 (.cells #[.int .i64 0] 30 (0,0)),Ob g1 (.cells #[.int .i64 (x.lv),.int .i64 (x.du)] 40 (0,0)),Old w (fps [(XI X A)])]:=by rw [show (A.wish.set (i).toNat x).length=A.wish.length from List.length_set]; exact H21
      refine a_kt rfl ?_
      refine a_done (by kernel_rfl) ?_
      refine w_k2 ?_
      refine l_of (w_st #[.int .i64 0] H22 7 ?_)
      intro wq23 H24
      refine w_k2 ?_
      refine fin_dret ?_
      refine gl_step (by simp) cl38 (caughtx_n g4 _) ?_
      rintro _ _ wq25 ⟨⟨rfl,H26⟩,rfl⟩
      replace H26:=H24.ab0 H26
      refine (?_:GL _ _ _ _ _ _ FrameMode.returning _)
      refine gl_ret [.cell 6 30] [.int .i64 0] rfl ⟨⟨_,rfl,run_load1 Tryz.underlying30 rfl (H26.cell (k:=7) rfl rfl)⟩,trivial⟩ ?_
      have h7:¬ ((i<0∨(A.n:Int)≤i)∨(x.lv<0∨7<x.lv)∨(x.du<0∨1000000000<x.du)):=by omega
      have hE:A.wishE i x=0:=if_neg h7
      have hA9:A.wishA i x={ A with wish:=A.wish.set i.toNat x }:=if_pos hE
      rw [hA9,hE]
      exact ⟨X,rfl,⟨hX.ms,hX.ask,hX.bn,hX.bf⟩,rfl,((S.big (L:=[_,_,_,_,_,_,_]) (H26.tk [0,1,2,3,4,5,6,9])).tk [0,1])⟩
     ·
      refine l_of (s_cl (need_f (decide ((x.du:Int)≤1000000000)) 7 (decide_eq_false hb15) _) ?_)
      rintro _ wq27 ⟨rfl,H28⟩
      replace H28:=H11.ab0 H28
      refine b_panic ?_
      refine g_then_panic ?_
      refine fin_dpanic ?_
      refine gl_step (by simp) cl38 (caughtx_p g4 7 (0) [] _ (H28.ob (k:=7) rfl)) ?_
      rintro _ _ wq29 ⟨⟨rfl,H30⟩,rfl⟩
      replace H30:S wq29 [Ob g4 (.cells #[.int .i64 7] 30 (0,0)),DXg0 X A,DXg1 X A,DXg2 X A,Mp (Value.int .i64) ptV okI X.mg (mtM X.ms),(Lst MtI X.ms),Mp plK ptV okP X.bg (bkM X.bs),(Lst BkI X.bs),Ob g1 (.cells #[.int .i64 (x.lv),.int .i64 (x.du)] 40 (0,0)),Old w (fps [(XI X A)])]:=H28.absorbK (new:=[Ob g4 (.cells #[.int .i64 7] 30 (0,0))]) [7] (by intro g hg; rw [List.mem_singleton] at hg; subst hg; exact ⟨7,rfl,_,rfl,rfl⟩) H30
      refine (?_:GL _ _ _ _ _ _ FrameMode.returning _)
      refine gl_ret [.cell 6 30] [.int .i64 7] rfl ⟨⟨_,rfl,run_load1 Tryz.underlying30 rfl (H30.cell (k:=0) rfl rfl)⟩,trivial⟩ ?_
      have h7:(i<0∨(A.n:Int)≤i)∨(x.lv<0∨7<x.lv)∨(x.du<0∨1000000000<x.du):=by omega
      have hE:A.wishE i x=7:=if_pos h7
      have hA9:A.wishA i x=A:=by unfold PK.wishA; rw [hE]; exact if_neg (by decide)
      rw [hA9]
      exact ⟨X,rfl,hX,(by rw [hE]; rfl),((S.big (L:=[_,_,_,_,_,_,_]) (H30.tk [1,2,3,4,5,6,7,9])).tk [0,1])⟩
    ·
     iterate 3 refine w_n (decide_eq_false hb14) ?_
     refine w_v (x_pick_f rfl rfl (decide_eq_false hb14) rfl) ?_
     refine l_of (s_cl (need_f false 7 rfl _) ?_)
     rintro _ wq31 ⟨rfl,H32⟩
     replace H32:=H11.ab0 H32
     refine b_panic ?_
     refine g_then_panic ?_
     refine fin_dpanic ?_
     refine gl_step (by simp) cl38 (caughtx_p g4 7 (0) [] _ (H32.ob (k:=7) rfl)) ?_
     rintro _ _ wq33 ⟨⟨rfl,H34⟩,rfl⟩
     replace H34:S wq33 [Ob g4 (.cells #[.int .i64 7] 30 (0,0)),DXg0 X A,DXg1 X A,DXg2 X A,Mp (Value.int .i64) ptV okI X.mg (mtM X.ms),(Lst MtI X.ms),Mp plK ptV okP X.bg (bkM X.bs),(Lst BkI X.bs),Ob g1 (.cells #[.int .i64 (x.lv),.int .i64 (x.du)] 40 (0,0)),Old w (fps [(XI X A)])]:=H32.absorbK (new:=[Ob g4 (.cells #[.int .i64 7] 30 (0,0))]) [7] (by intro g hg; rw [List.mem_singleton] at hg; subst hg; exact ⟨7,rfl,_,rfl,rfl⟩) H34
     refine (?_:GL _ _ _ _ _ _ FrameMode.returning _)
     refine gl_ret [.cell 6 30] [.int .i64 7] rfl ⟨⟨_,rfl,run_load1 Tryz.underlying30 rfl (H34.cell (k:=0) rfl rfl)⟩,trivial⟩ ?_
     have h7:(i<0∨(A.n:Int)≤i)∨(x.lv<0∨7<x.lv)∨(x.du<0∨1000000000<x.du):=by omega
     have hE:A.wishE i x=7:=if_pos h7
     have hA9:A.wishA i x=A:=by unfold PK.wishA; rw [hE]; exact if_neg (by decide)
     rw [hA9]
     exact ⟨X,rfl,hX,(by rw [hE]; rfl),((S.big (L:=[_,_,_,_,_,_,_]) (H34.tk [1,2,3,4,5,6,7,9])).tk [0,1])⟩
   ·
    iterate 3 refine w_n (decide_eq_false hb13) ?_
    refine w_v (x_pick_f rfl rfl (decide_eq_false hb13) rfl) ?_
    refine w_m ?_
    iterate 3 refine w_n rfl ?_
    refine w_v (x_pick_f rfl rfl rfl rfl) ?_
    refine l_of (s_cl (need_f false 7 rfl _) ?_)
    rintro _ wq35 ⟨rfl,H36⟩
    replace H36:=H11.ab0 H36
    refine b_panic ?_
    refine g_then_panic ?_
    refine fin_dpanic ?_
    refine gl_step (by simp) cl38 (caughtx_p g4 7 (0) [] _ (H36.ob (k:=7) rfl)) ?_
    rintro _ _ wq37 ⟨⟨rfl,H38⟩,rfl⟩
    replace H38:S wq37 [Ob g4 (.cells #[.int .i64 7] 30 (0,0)),DXg0 X A,DXg1 X A,DXg2 X A,Mp (Value.int .i64) ptV okI X.mg (mtM X.ms),(Lst MtI X.ms),Mp plK ptV okP X.bg (bkM X.bs),(Lst BkI X.bs),Ob g1 (.cells #[.int .i64 (x.lv),.int .i64 (x.du)] 40 (0,0)),Old w (fps [(XI X A)])]:=H36.absorbK (new:=[Ob g4 (.cells #[.int .i64 7] 30 (0,0))]) [7] (by intro g hg; rw [List.mem_singleton] at hg; subst hg; exact ⟨7,rfl,_,rfl,rfl⟩) H38
    refine (?_:GL _ _ _ _ _ _ FrameMode.returning _)
    refine gl_ret [.cell 6 30] [.int .i64 7] rfl ⟨⟨_,rfl,run_load1 Tryz.underlying30 rfl (H38.cell (k:=0) rfl rfl)⟩,trivial⟩ ?_
    have h7:(i<0∨(A.n:Int)≤i)∨(x.lv<0∨7<x.lv)∨(x.du<0∨1000000000<x.du):=by omega
    have hE:A.wishE i x=7:=if_pos h7
    have hA9:A.wishA i x=A:=by unfold PK.wishA; rw [hE]; exact if_neg (by decide)
    rw [hA9]
    exact ⟨X,rfl,hX,(by rw [hE]; rfl),((S.big (L:=[_,_,_,_,_,_,_]) (H38.tk [1,2,3,4,5,6,7,9])).tk [0,1])⟩
  ·
   iterate 3 refine w_n (decide_eq_false hb12) ?_
   refine w_v (x_pick_f rfl rfl (decide_eq_false hb12) rfl) ?_
   refine w_m ?_
   iterate 3 refine w_n rfl ?_
   refine w_v (x_pick_f rfl rfl rfl rfl) ?_
   refine w_m ?_
   iterate 3 refine w_n rfl ?_
   refine w_v (x_pick_f rfl rfl rfl rfl) ?_
   refine l_of (s_cl (need_f false 7 rfl _) ?_)
   rintro _ wq39 ⟨rfl,H40⟩
   replace H40:=H11.ab0 H40
   refine b_panic ?_
   refine g_then_panic ?_
   refine fin_dpanic ?_
   refine gl_step (by simp) cl38 (caughtx_p g4 7 (0) [] _ (H40.ob (k:=7) rfl)) ?_
   rintro _ _ wq41 ⟨⟨rfl,H42⟩,rfl⟩
   replace H42:S wq41 [Ob g4 (.cells #[.int .i64 7] 30 (0,0)),DXg0 X A,DXg1 X A,DXg2 X A,Mp (Value.int .i64) ptV okI X.mg (mtM X.ms),(Lst MtI X.ms),Mp plK ptV okP X.bg (bkM X.bs),(Lst BkI X.bs),Ob g1 (.cells #[.int .i64 (x.lv),.int .i64 (x.du)] 40 (0,0)),Old w (fps [(XI X A)])]:=H40.absorbK (new:=[Ob g4 (.cells #[.int .i64 7] 30 (0,0))]) [7] (by intro g hg; rw [List.mem_singleton] at hg; subst hg; exact ⟨7,rfl,_,rfl,rfl⟩) H42
   refine (?_:GL _ _ _ _ _ _ FrameMode.returning _)
   refine gl_ret [.cell 6 30] [.int .i64 7] rfl ⟨⟨_,rfl,run_load1 Tryz.underlying30 rfl (H42.cell (k:=0) rfl rfl)⟩,trivial⟩ ?_
   have h7:(i<0∨(A.n:Int)≤i)∨(x.lv<0∨7<x.lv)∨(x.du<0∨1000000000<x.du):=by omega
   have hE:A.wishE i x=7:=if_pos h7
   have hA9:A.wishA i x=A:=by unfold PK.wishA; rw [hE]; exact if_neg (by decide)
   rw [hA9]
   exact ⟨X,rfl,hX,(by rw [hE]; rfl),((S.big (L:=[_,_,_,_,_,_,_]) (H42.tk [1,2,3,4,5,6,7,9])).tk [0,1])⟩
 ·
  have H43:S _ [_,_,_,_]:=S.big (L:=[_,_,_,_,_,_,_]) (H6.tk [2,3,4,5,6,7,8,0,1,9])
  refine l_of (s_cl (index_f X A j hX hI i hb7 _ (H43.tk [0])) ?_)
  rintro _ wq44 ⟨rfl,H45⟩
  replace H45:S _ [_,_,_,_]:=H43.abI (new:=[_]) [0] H45 rfl
  have H46:S _ [_,_,_,_,_,_,_,_,_,_]:=S.unbig (L:=[_,_,_,_,_,_,_]) (H45.tk [0,1,2,3])
  refine b_panic ?_
  refine g_then_panic ?_
  refine fin_dpanic ?_
  refine gl_step (by simp) cl38 (caughtx_p g4 7 (0) [] _ (H46.ob (k:=7) rfl)) ?_
  rintro _ _ wq47 ⟨⟨rfl,H48⟩,rfl⟩
  replace H48:S wq47 [Ob g4 (.cells #[.int .i64 7] 30 (0,0)),DXg0 X A,DXg1 X A,DXg2 X A,Mp (Value.int .i64) ptV okI X.mg (mtM X.ms),(Lst MtI X.ms),Mp plK ptV okP X.bg (bkM X.bs),(Lst BkI X.bs),Ob g1 (.cells #[.int .i64 (x.lv),.int .i64 (x.du)] 40 (0,0)),Old w (fps [(XI X A)])]:=H46.absorbK (new:=[Ob g4 (.cells #[.int .i64 7] 30 (0,0))]) [7] (by intro g hg; rw [List.mem_singleton] at hg; subst hg; exact ⟨7,rfl,_,rfl,rfl⟩) H48
  refine (?_:GL _ _ _ _ _ _ FrameMode.returning _)
  refine gl_ret [.cell 6 30] [.int .i64 7] rfl ⟨⟨_,rfl,run_load1 Tryz.underlying30 rfl (H48.cell (k:=0) rfl rfl)⟩,trivial⟩ ?_
  have h7:(i<0∨(A.n:Int)≤i)∨(x.lv<0∨7<x.lv)∨(x.du<0∨1000000000<x.du):=by omega
  have hE:A.wishE i x=7:=if_pos h7
  have hA9:A.wishA i x=A:=by unfold PK.wishA; rw [hE]; exact if_neg (by decide)
  rw [hA9]
  exact ⟨X,rfl,hX,(by rw [hE]; rfl),((S.big (L:=[_,_,_,_,_,_,_]) (H48.tk [1,2,3,4,5,6,7,9])).tk [0,1])⟩
end Go.Proofs.YthmmfhdpkddniaaGreatDoor
