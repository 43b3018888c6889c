import Derived.Test.YthmmfhdpkddniaaGreatDoorFm
import Derived.Test.YthmmfhdpkddniaaGreatDoorXo
set_option linter.unusedSimpArgs false
set_option linter.unusedVariables false
namespace Go.Proofs.YthmmfhdpkddniaaGreatDoor
open Go.RowKit
theorem cl51:callable Tryz.prog 51=true:=by kernel_rfl
theorem here_set {A:PK} {bs:List Bk} {i:Nat} {r:Bk} {c:Cho} (h:BOK A bs) (hc:A.isB c) (hx:bs[i]?=some r) (hp:r.pl=c.at):BOK { A with here:=A.here++[c] } (bs.set i { r with here:=true }):=by
 refine h.set1 hx hp rfl (fun p hp=>ent_oth (A:=A) (A':={ A with here:=A.here++[c] }) rfl rfl rfl (fun d hd=>⟨by
   show d∈A.here++[c] ↔ _
   rw [List.mem_append,List.mem_singleton]; exact ⟨fun h=>h.resolve_right hd,.inl⟩,rfl⟩) hp) ?_
 have hin:c∈({ A with here:=A.here++[c] }:PK).here:=List.mem_append_right _ (List.mem_singleton.2 rfl)
 rw [ent_blk (A:={ A with here:=A.here++[c] }) hc,freeC_here hin,if_neg (by decide),decide_eq_true hin]
 show some (true,ofL A.asked c)=some (true,r.asked)
 rw [(h.ent hc hx hp).2]
theorem XOK.put {X:XP} {A:PK} {bs:List Bk} {H:List Cho} (hX:XOK X A) (hb:BOK { A with here:=H } bs):XOK { X with bs:=bs } { A with here:=H }:=⟨hX.ms,hX.ask,hb.bn,hb.bf⟩
theorem hereE_b {A:PK} {k:Int} {c:Cho} (h:¬ A.boE k c.pc=0):A.hereE k c=A.boE k c.pc:=by
 unfold PK.hereE
 by_cases hn:c.pc<0
 · rw [if_pos hn]; exact (if_pos (.inr (.inl hn))).symm
 · rw [if_neg hn,if_pos h]
theorem delQ_one {al:AL} {k:Int} {c:Cho}:delQ al k (fun y=>decide (y∈[c]))=delQ al k (fun y=>decide (y=c)):=delQ_congr fun _ _=>by simp
theorem asked_some {X:XP} {A:PK} {j:Nat} {ms:List Mt} (hX:XOK X A) (hI:PKI j A) (hmm:mtM ms=mtM X.ms) {x:Int} {c:Cho} (h:(x,c)∈A.asked):(mtM ms x).isSome=true∧1≤x∧x≤1000:=by
 obtain ⟨⟨p,hp,hk⟩,_⟩:=hI.ak _ h
 have hk:p.k=x:=hk
 have h1:=hI.kr p hp
 refine ⟨?_,by omega,by omega⟩
 rw [hmm,hX.mtN]
 cases hf:fndP A.peers x with
 | none=>exact absurd hk (fndP_none hf p hp)
 | some q=>rfl
set_option maxRecDepth 20000 in
set_option maxHeartbeats 4000000 in
theorem here_x (X:XP) (A:PK) (j:Nat) (hX:XOK X A) (hI:PKI j A) (k:Int) (c:Cho) (hj:j<100000)  (w:World) (HS:S w [(XI X A)]):Calls Tryz.prog 18 #[.pointer (some ⟨X.g,0,none⟩),.int .i64 k,.agg #[.int .i64 (c.pc),.int .i64 (c.bg),.int .i64 (c.ln)]] w fun e w'=>∃ (Y:XP),Y.g=X.g∧XOK Y (A.hereA k c)∧∃ p' c',e=.returned (.tuple #[.slice p' (A.hereL k c).length c',.bool (A.hereW k c),.int .i64 (A.hereE k c)])∧S w' ([Rw 110 4 p' (A.hereL k c).length c' (fl askL (A.hereL k c)),(XI Y (A.hereA k c))]++[Old w (fps [(XI X A)])]):=by
 have H0:=HS.beginI
 have hn24:=hI.n24
 have hn1:=hI.n1
 have hpz1:=hI.pz1
 have hpz2:=hI.pz2
 have hla1:=hI.la1
 have hla2:=hI.la2
 have hadl:=hI.hadl
 have hwl:=hI.wishl
 replace H0:S w [Ob X.g (.cells #[.map (some X.mg),.int .i64 ((A.n:Int)),.int .i64 ((A.pz:Int)),.int .i64 ((A.la:Int)),.string (A.seed),.bool A.ino,.slice X.hp A.had.length X.hc,.slice X.wp A.wish.length X.wc,.map (some X.bg)] 85 (0,0)),Rw 4 1 X.hp A.had.length X.hc (fl boolL A.had),Rw 40 2 X.wp A.wish.length X.wc (fl wisL A.wish),Mp (Value.int .i64) ptV okI X.mg (mtM X.ms),(Lst MtI X.ms),Mp plK ptV okP X.bg (bkM X.bs),(Lst BkI X.bs),Old w (fps [(XI X A)])]:=S.unbig (L:=[_,_,_,_,_,_,_]) H0
 refine enter_d 98 Tryz.func18 rfl rfl rfl ?_
 refine g_wk [(0,_),(1,_),(2,_)] ?_
 refine w_s ?_
 refine l_of (s_box H0 (wt0 rfl) rfl rfl rfl rfl ?_)
 intro g1 wq2 H3
 refine w_r2 ?_
 refine l_of (s_alloc H3 (wt0 rfl) rfl rfl rfl ze30 ?_)
 intro g4 wq5 H6
 refine w_es ?_
 refine l_of (s_defer (wt0 rfl) rfl (xd_defer rfl rfl rfl) ?_)
 refine w_es ?_
 refine w_r3 ?_
 refine w_1 H6 1 ?_
 by_cases hb7:(A.boE k c.pc)=0
 ·
  have H12:S wq5 [(XI X A),Ob g4 (.cells #[.int .i64 0] 30 (0,0)),Ob g1 (.cells #[.int .i64 (c.pc),.int .i64 (c.bg),.int .i64 (c.ln)] 44 (0,0)),Old w (fps [(XI X A)])]:=S.big (L:=[_,_,_,_,_,_,_]) (H6.tk [2,3,4,5,6,7,8,0,1,9])
  refine l_of (s_cl (both_t X A j hX hI k c.pc hb7 _ (H12.tk [0])) ?_)
  rintro _ wq13 ⟨im8,m9,hm10,hk11,rfl,H14⟩
  replace H14:S _ [_,_,_,_]:=H12.abI (new:=[_]) [0] H14 rfl
  have H15:S wq13 [Ob X.g (.cells #[.map (some X.mg),.int .i64 ((A.n:Int)),.int .i64 ((A.pz:Int)),.int .i64 ((A.la:Int)),.string (A.seed),.bool A.ino,.slice X.hp A.had.length X.hc,.slice X.wp A.wish.length X.wc,.map (some X.bg)] 85 (0,0)),Rw 4 1 X.hp A.had.length X.hc (fl boolL A.had),Rw 40 2 X.wp A.wish.length X.wc (fl wisL A.wish),Mp (Value.int .i64) ptV okI X.mg (mtM X.ms),(Lst MtI X.ms),Mp plK ptV okP X.bg (bkM X.bs),(Lst BkI X.bs),Ob g4 (.cells #[.int .i64 0] 30 (0,0)),Ob g1 (.cells #[.int .i64 (c.pc),.int .i64 (c.bg),.int .i64 (c.ln)] 44 (0,0)),Old w (fps [(XI X A)])]:=S.unbig (L:=[_,_,_,_,_,_,_]) (H14.tk [0,1,2,3])
  refine b_ret rfl rfl ?_
  refine w_es ?_
  refine w_m ?_
  refine w_v (v:=.agg #[.int .i64 (c.pc),.int .i64 (c.bg),.int .i64 (c.ln)]) (x_loadA H15 8 rfl rfl Tryz.underlying44 rfl sz44 rfl rfl rfl) ?_
  by_cases hb16:A.isB c
  ·
   have hir9:0≤c.pc∧c.pc<(A.n:Int):=⟨hb16.1,hb16.2.1⟩
   have H17:S wq13 [(XI X A),Ob g4 (.cells #[.int .i64 0] 30 (0,0)),Ob g1 (.cells #[.int .i64 (c.pc),.int .i64 (c.bg),.int .i64 (c.ln)] 44 (0,0)),Old w (fps [(XI X A)])]:=S.big (L:=[_,_,_,_,_,_,_]) (H15.tk [0,1,2,3,4,5,6,7,8,9])
   refine l_of (s_cl (is_t X A j hX hI c (boE_0 (by assumption)).2 hb16 _ (H17.tk [0])) ?_)
   rintro _ wq18 ⟨rfl,H19⟩
   replace H19:S _ [_,_,_,_]:=H17.abI (new:=[_]) [0] H19 rfl
   have H20:S wq18 [Ob X.g (.cells #[.map (some X.mg),.int .i64 ((A.n:Int)),.int .i64 ((A.pz:Int)),.int .i64 ((A.la:Int)),.string (A.seed),.bool A.ino,.slice X.hp A.had.length X.hc,.slice X.wp A.wish.length X.wc,.map (some X.bg)] 85 (0,0)),Rw 4 1 X.hp A.had.length X.hc (fl boolL A.had),Rw 40 2 X.wp A.wish.length X.wc (fl wisL A.wish),Mp (Value.int .i64) ptV okI X.mg (mtM X.ms),(Lst MtI X.ms),Mp plK ptV okP X.bg (bkM X.bs),(Lst BkI X.bs),Ob g4 (.cells #[.int .i64 0] 30 (0,0)),Ob g1 (.cells #[.int .i64 (c.pc),.int .i64 (c.bg),.int .i64 (c.ln)] 44 (0,0)),Old w (fps [(XI X A)])]:=S.unbig (L:=[_,_,_,_,_,_,_]) (H19.tk [0,1,2,3])
   refine b_ret rfl rfl ?_
   refine w_e ?_
   refine g_seq ?_
   refine g_any [(0,.pointer (some ⟨X.g,0,none⟩)),(1,.int .i64 k),(2,.agg #[.int .i64 (c.pc),.int .i64 (c.bg),.int .i64 (c.ln)]),(5,.pointer (some ⟨g1,0,none⟩)),(6,.slice none 0 0),(7,.bool false),(8,.pointer (some ⟨g4,0,none⟩)),(12,.pointer (some ⟨X.g,0,none⟩)),(13,.int .i64 k),(14,.pointer (some ⟨g1,0,none⟩)),(15,.int .i64 (c.pc)),(16,.pointer (some ⟨m9.b,0,none⟩)),(17,.pointer (some ⟨X.g,0,none⟩)),(18,.agg #[.int .i64 (c.pc),.int .i64 (c.bg),.int .i64 (c.ln)]),(19,.tuple #[])] (fun wx=>S wx [Ob X.g (.cells #[.map (some X.mg),.int .i64 ((A.n:Int)),.int .i64 ((A.pz:Int)),.int .i64 ((A.la:Int)),.string (A.seed),.bool A.ino,.slice X.hp A.had.length X.hc,.slice X.wp A.wish.length X.wc,.map (some X.bg)] 85 (0,0)),Rw 4 1 X.hp A.had.length X.hc (fl boolL A.had),Rw 40 2 X.wp A.wish.length X.wc (fl wisL A.wish),Mp (Value.int .i64) ptV okI X.mg (mtM X.ms),(Lst MtI X.ms),Mp plK ptV okP X.bg (bkM X.bs),(Lst BkI X.bs),Ob g4 (.cells #[.int .i64 0] 30 (0,0)),Ob g1 (.cells #[.int .i64 (c.pc),.int .i64 (c.bg),.int .i64 (c.ln)] 44 (0,0)),Old w (fps [(XI X A)])]) [] (by kernel_rfl) H20 (fun wq21 H22=>?_)
   refine w_t 0 rfl H22 (fun _ _=>xm) ?_
   refine w_t 1 rfl H22 (fun _ _=>xn) ?_
   refine w_t 2 rfl H22 (fun _ _=>xf 8) ?_
   refine w_t 3 rfl H22 (fun _ H=>xl H 0) ?_
   refine w_t (v:=.agg #[.int .i64 (c.pc),.int .i64 (c.bg),.int .i64 (c.ln)]) 4 rfl H22 (fun _ H=>x_loadA H 8 rfl rfl Tryz.underlying44 rfl sz44 rfl rfl rfl) ?_
   refine a_one (i:=5) (by kernel_rfl) rfl ?_
   refine s_call0 H22 (wt0 rfl) (x_call' rfl rfl cl47) (at_x c _) rfl rfl ?_
   intro wq23 H24
   refine a_k H24 ?_
   refine w_t (v:=(optP ((bkM X.bs) c.at))) 6 rfl H24 (fun _ H=>ex_cast (x_lookup1 (x:=c.at) placeT H 5 rfl rfl rfl rfl ((okP_is hI hb16)) ze98) (rfl)) ?_
   refine a_one (i:=7) (by kernel_rfl) rfl ?_
   refine s_val (v:=(optP ((bkM X.bs) c.at))) (wt0 rfl) rfl rfl (x_assign rfl rfl) ?_
   refine a_k H24 ?_
   refine a_done (by kernel_rfl) ?_
   refine g_then ?_
   refine g_wk [(0,_),(1,_),(5,_),(6,_),(7,_),(8,_),(9,_)] ?_
   refine g_seq ?_
   refine g_anyY [(0,.pointer (some ⟨X.g,0,none⟩)),(1,.int .i64 k),(5,.pointer (some ⟨g1,0,none⟩)),(6,.slice none 0 0),(7,.bool false),(8,.pointer (some ⟨g4,0,none⟩)),(9,(optP ((bkM X.bs) c.at)))] (fun wx=>S wx [Ob X.g (.cells #[.map (some X.mg),.int .i64 ((A.n:Int)),.int .i64 ((A.pz:Int)),.int .i64 ((A.la:Int)),.string (A.seed),.bool A.ino,.slice X.hp A.had.length X.hc,.slice X.wp A.wish.length X.wc,.map (some X.bg)] 85 (0,0)),Rw 4 1 X.hp A.had.length X.hc (fl boolL A.had),Rw 40 2 X.wp A.wish.length X.wc (fl wisL A.wish),Mp (Value.int .i64) ptV okI X.mg (mtM X.ms),(Lst MtI X.ms),Mp plK ptV okP X.bg (bkM X.bs),(Lst BkI X.bs),Ob g4 (.cells #[.int .i64 0] 30 (0,0)),Ob g1 (.cells #[.int .i64 (c.pc),.int .i64 (c.bg),.int .i64 (c.ln)] 44 (0,0)),Old w (fps [(XI X A)])]) (fun wx=>S wx [Ob X.g (.cells #[.map (some X.mg),.int .i64 ((A.n:Int)),.int .i64 ((A.pz:Int)),.int .i64 ((A.la:Int)),.string (A.seed),.bool A.ino,.slice X.hp A.had.length X.hc,.slice X.wp A.wish.length X.wc,.map (some X.bg)] 85 (0,0)),Rw 4 1 X.hp A.had.length X.hc (fl boolL A.had),Rw 40 2 X.wp A.wish.length X.wc (fl wisL A.wish),Mp (Value.int .i64) ptV okI X.mg (mtM X.ms),(Lst MtI X.ms),Mp plK ptV okP X.bg (bkM X.bs),(Lst BkI X.bs),Ob g4 (.cells #[.int .i64 0] 30 (0,0)),Ob g1 (.cells #[.int .i64 (c.pc),.int .i64 (c.bg),.int .i64 (c.ln)] 44 (0,0)),Old w (fps [(XI X A)])]) [] (by kernel_rfl) H24 (fun wq25 H26=>?_)
   refine w_y 0 rfl (wt0 rfl) rfl rfl rfl (by kernel_rfl) (fun _=>x_move rfl rfl) ?_
   refine w_y 1 rfl (wt0 rfl) rfl rfl rfl (by kernel_rfl) (fun _=>x_nilCheck rfl rfl) ?_
   refine w_y 2 rfl (wt0 rfl) rfl rfl rfl (by kernel_rfl) (fun _=>x_fieldAddr (off':=6) rfl rfl fo85_6 rfl) ?_
   refine y_take (v:=.slice X.hp A.had.length X.hc) 3 rfl (wt0 rfl) rfl rfl rfl (by kernel_rfl) (by kernel_rfl) (by kernel_rfl) (by kernel_rfl) (by kernel_rfl) H26 (fun wx H=>x_load1 H 0 rfl rfl Tryz.underlying38 rfl rfl rfl) ?_
   refine w_y 4 rfl (wt0 rfl) rfl rfl rfl (by kernel_rfl) (fun _=>x_fieldAddr (off':=0) rfl rfl fo44_0 rfl) ?_
   refine y_take (v:=.int .i64 (c.pc)) 5 rfl (wt0 rfl) rfl rfl rfl (by kernel_rfl) (by kernel_rfl) (by kernel_rfl) (by kernel_rfl) (by kernel_rfl) H26 (fun wx H=>x_load1 H 8 rfl rfl Tryz.underlying3 rfl rfl rfl) ?_
   refine w_y (v:=.pointer ((X.hp).map fun q=>q.add (((c.pc).toNat) * 1))) 6 rfl (wt0 rfl) rfl rfl rfl (by kernel_rfl) (fun _=>x_idxP ((c.pc).toNat) ((H26.rr 1).some (by omega)) rfl rfl rfl Tryz.underlying38 sz4 (by omega)) ?_
   obtain ⟨x27,hx27⟩:=(H26.rr 1).exL boolE ((c.pc).toNat)
   have hhad9:bitAt A.had c.pc=x27:=bitAt_at hx27
   refine y_take (v:=.bool x27) 7 rfl (wt0 rfl) rfl rfl rfl (by kernel_rfl) (by kernel_rfl) (by kernel_rfl) (by kernel_rfl) (by kernel_rfl) H26 (fun wx H=>x_loadR1 ((c.pc).toNat) (H.rr 1) (by omega) rfl rfl Tryz.underlying4 rfl (boolE.flAt1 hx27 rfl)) ?_
   refine w_y (v:=.bool (!x27)) 8 rfl (wt0 rfl) rfl rfl rfl (by kernel_rfl) (fun _=>x_not (b:=x27) rfl rfl) ?_
   refine w_y 9 rfl (wt0 rfl) rfl rfl rfl (by kernel_rfl) (fun _=>x_move rfl rfl) ?_
   rcases Bool.eq_false_or_eq_true (x27) with hb28 | hb28
   ·
    refine y_not 10 rfl (wn1 rfl rfl rfl rfl (neg_of hb28)) rfl rfl rfl (by kernel_rfl) (by kernel_rfl) (by kernel_rfl) (by kernel_rfl) ?_
    refine y_not 11 rfl (wn1 rfl rfl rfl rfl (neg_of hb28)) rfl rfl rfl (by kernel_rfl) (by kernel_rfl) (by kernel_rfl) (by kernel_rfl) ?_
    refine y_not 12 rfl (wn1 rfl rfl rfl rfl (neg_of hb28)) rfl rfl rfl (by kernel_rfl) (by kernel_rfl) (by kernel_rfl) (by kernel_rfl) ?_
    refine y_not 13 rfl (wn2 rfl rfl rfl rfl) rfl rfl rfl (by kernel_rfl) (by kernel_rfl) (by kernel_rfl) (by kernel_rfl) ?_
    refine y_not 14 rfl (wn2 rfl rfl rfl rfl) rfl rfl rfl (by kernel_rfl) (by kernel_rfl) (by kernel_rfl) (by kernel_rfl) ?_
    refine y_not 15 rfl (wn2 rfl rfl rfl rfl) rfl rfl rfl (by kernel_rfl) (by kernel_rfl) (by kernel_rfl) (by kernel_rfl) ?_
    refine y_not 16 rfl (wn2 rfl rfl rfl rfl) rfl rfl rfl (by kernel_rfl) (by kernel_rfl) (by kernel_rfl) (by kernel_rfl) ?_
    refine y_not 17 rfl (wn2 rfl rfl rfl rfl) rfl rfl rfl (by kernel_rfl) (by kernel_rfl) (by kernel_rfl) (by kernel_rfl) ?_
    refine y_not 18 rfl (wn1 rfl rfl rfl rfl (neg_of hb28)) rfl rfl rfl (by kernel_rfl) (by kernel_rfl) (by kernel_rfl) (by kernel_rfl) ?_
    refine w_y (v:=.bool false) 19 rfl (wt0 rfl) rfl rfl rfl (by kernel_rfl) (fun _=>x_pick_f rfl rfl (neg_of hb28) rfl) ?_
    refine y_one (i:=20) (by kernel_rfl) rfl ?_
    refine s_cl (need_f false 9 rfl _) ?_
    rintro _ wq29 ⟨rfl,H30⟩
    replace H30:=H26.ab0 H30
    refine b_panic ?_
    refine pan_in ⟨rfl,rfl,rfl,rfl,rfl,rfl,rfl,trivial⟩ ?_
    refine g_then_panic ?_
    refine fin_dpanic ?_
    refine gl_step (by simp) cl38 (caughtx_p g4 9 (0) [] _ (H30.ob (k:=7) rfl)) ?_
    rintro _ _ wq31 ⟨⟨rfl,H32⟩,rfl⟩
    replace H32:S wq31 [Ob g4 (.cells #[.int .i64 9] 30 (0,0)),Ob X.g (.cells #[.map (some X.mg),.int .i64 ((A.n:Int)),.int .i64 ((A.pz:Int)),.int .i64 ((A.la:Int)),.string (A.seed),.bool A.ino,.slice X.hp A.had.length X.hc,.slice X.wp A.wish.length X.wc,.map (some X.bg)] 85 (0,0)),Rw 4 1 X.hp A.had.length X.hc (fl boolL A.had),Rw 40 2 X.wp A.wish.length X.wc (fl wisL A.wish),Mp (Value.int .i64) ptV okI X.mg (mtM X.ms),(Lst MtI X.ms),Mp plK ptV okP X.bg (bkM X.bs),(Lst BkI X.bs),Ob g1 (.cells #[.int .i64 (c.pc),.int .i64 (c.bg),.int .i64 (c.ln)] 44 (0,0)),Old w (fps [(XI X A)])]:=H30.absorbK (new:=[Ob g4 (.cells #[.int .i64 9] 30 (0,0))]) [7] (by intro g hg; rw [List.mem_singleton] at hg; subst hg; exact ⟨7,rfl,_,rfl,rfl⟩) H32
    refine (?_:GL _ _ _ _ _ _ FrameMode.returning _)
    refine gl_ret [.tmp 6,.tmp 7,.cell 8 30] [.slice none 0 0,.bool false,.int .i64 9] rfl ⟨rfl,rfl,⟨_,rfl,run_load1 Tryz.underlying30 rfl (H32.cell (k:=0) rfl rfl)⟩,trivial⟩ ?_
    have hE:(A.hereE k c)=9:=by unfold PK.hereE; rw [if_neg (by have h9:=(boE_0 hb7).2; omega),if_neg (fun h9=>h9 hb7),if_neg (fun h9=>h9 hb16),if_pos (.inl (hhad9.trans hb28))]
    have hng:¬ ((A.hereE k c)=0):=by rw [hE]; decide
    have hL9:(A.hereL k c)=[]:=if_neg hng
    have hW9:(A.hereW k c)=false:=if_neg hng
    have hA9:A.hereA k c=A:=if_neg hng
    rw [hL9,hW9,hA9,hE]
    exact ⟨X,rfl,hX,none,0,rfl,((S.big (L:=[_,_,_,_,_,_,_]) (H32.tk [1,2,3,4,5,6,7,9])).tk [0,1]).nilFl 110 4 askL⟩
   ·
    refine w_y 10 rfl (wt1 rfl rfl rfl rfl (neg_of hb28)) rfl rfl rfl (by kernel_rfl) (fun _=>x_move rfl rfl) ?_
    refine w_y (v:=.bool (!(((bkM X.bs) c.at).isSome))) 11 rfl (wt1 rfl rfl rfl rfl (neg_of hb28)) rfl rfl rfl (by kernel_rfl) (fun _=>x_bin rfl rfl rfl (b_eqPO Tryz.underlying98)) ?_
    refine w_y 12 rfl (wt1 rfl rfl rfl rfl (neg_of hb28)) rfl rfl rfl (by kernel_rfl) (fun _=>x_move rfl rfl) ?_
    rcases Bool.eq_false_or_eq_true (((bkM X.bs) c.at).isSome) with hb33 | hb33
    ·
     obtain ⟨ir,r,hrq,hrk,hrb,hrf⟩:=bkM_ex hb33
     rw [optP_s hrb]
     refine w_y 13 rfl (wt1 rfl rfl rfl rfl (neg_of hb33)) rfl rfl rfl (by kernel_rfl) (fun _=>x_move rfl rfl) ?_
     refine w_y 14 rfl (wt1 rfl rfl rfl rfl (neg_of hb33)) rfl rfl rfl (by kernel_rfl) (fun _=>x_nilCheck rfl rfl) ?_
     refine w_y 15 rfl (wt1 rfl rfl rfl rfl (neg_of hb33)) rfl rfl rfl (by kernel_rfl) (fun _=>x_fieldAddr (off':=0) rfl rfl fo103_0 rfl) ?_
     refine y_take (v:=.bool r.here) 16 rfl (wt1 rfl rfl rfl rfl (neg_of hb33)) rfl rfl rfl (by kernel_rfl) (by kernel_rfl) (by kernel_rfl) (by kernel_rfl) (by kernel_rfl) H26 (fun wx H=>x_loadC rfl rfl Tryz.underlying4 rfl (H.bkCell (k:=6) rfl hrq (c:=0) rfl)) ?_
     refine w_y (v:=.bool (!(r.here))) 17 rfl (wt1 rfl rfl rfl rfl (neg_of hb33)) rfl rfl rfl (by kernel_rfl) (fun _=>x_not (b:=r.here) rfl rfl) ?_
     refine w_y (v:=.bool (!(r.here))) 18 rfl (wt1 rfl rfl rfl rfl (neg_of hb28)) rfl rfl rfl (by kernel_rfl) (fun _=>x_pick_f rfl rfl (neg_of hb33) rfl) ?_
     refine w_y (v:=.bool (!(r.here))) 19 rfl (wt0 rfl) rfl rfl rfl (by kernel_rfl) (fun _=>x_pick_t rfl rfl (neg_of hb28) rfl) ?_
     refine y_one (i:=20) (by kernel_rfl) rfl ?_
     rcases Bool.eq_false_or_eq_true (r.here) with hb34 | hb34
     ·
      refine s_cl (need_f (!(r.here)) 9 (neg_of hb34) _) ?_
      rintro _ wq35 ⟨rfl,H36⟩
      replace H36:=H26.ab0 H36
      refine b_panic ?_
      refine pan_in ⟨rfl,rfl,rfl,rfl,rfl,rfl,rfl,trivial⟩ ?_
      refine g_then_panic ?_
      refine fin_dpanic ?_
      refine gl_step (by simp) cl38 (caughtx_p g4 9 (0) [] _ (H36.ob (k:=7) rfl)) ?_
      rintro _ _ wq37 ⟨⟨rfl,H38⟩,rfl⟩
      replace H38:S wq37 [Ob g4 (.cells #[.int .i64 9] 30 (0,0)),Ob X.g (.cells #[.map (some X.mg),.int .i64 ((A.n:Int)),.int .i64 ((A.pz:Int)),.int .i64 ((A.la:Int)),.string (A.seed),.bool A.ino,.slice X.hp A.had.length X.hc,.slice X.wp A.wish.length X.wc,.map (some X.bg)] 85 (0,0)),Rw 4 1 X.hp A.had.length X.hc (fl boolL A.had),Rw 40 2 X.wp A.wish.length X.wc (fl wisL A.wish),Mp (Value.int .i64) ptV okI X.mg (mtM X.ms),(Lst MtI X.ms),Mp plK ptV okP X.bg (bkM X.bs),(Lst BkI X.bs),Ob g1 (.cells #[.int .i64 (c.pc),.int .i64 (c.bg),.int .i64 (c.ln)] 44 (0,0)),Old w (fps [(XI X A)])]:=H36.absorbK (new:=[Ob g4 (.cells #[.int .i64 9] 30 (0,0))]) [7] (by intro g hg; rw [List.mem_singleton] at hg; subst hg; exact ⟨7,rfl,_,rfl,rfl⟩) H38
      refine (?_:GL _ _ _ _ _ _ FrameMode.returning _)
      refine gl_ret [.tmp 6,.tmp 7,.cell 8 30] [.slice none 0 0,.bool false,.int .i64 9] rfl ⟨rfl,rfl,⟨_,rfl,run_load1 Tryz.underlying30 rfl (H38.cell (k:=0) rfl rfl)⟩,trivial⟩ ?_
      have hE:(A.hereE k c)=9:=by unfold PK.hereE; rw [if_neg (by have h9:=(boE_0 hb7).2; omega),if_neg (fun h9=>h9 hb7),if_neg (fun h9=>h9 hb16),if_pos (.inr (of_decide_eq_true ((hX.bok.ent hb16 hrq hrk).1.symm.trans hb34)))]
      have hng:¬ ((A.hereE k c)=0):=by rw [hE]; decide
      have hL9:(A.hereL k c)=[]:=if_neg hng
      have hW9:(A.hereW k c)=false:=if_neg hng
      have hA9:A.hereA k c=A:=if_neg hng
      rw [hL9,hW9,hA9,hE]
      exact ⟨X,rfl,hX,none,0,rfl,((S.big (L:=[_,_,_,_,_,_,_]) (H38.tk [1,2,3,4,5,6,7,9])).tk [0,1]).nilFl 110 4 askL⟩
     ·
      refine s_call0 H26 (wt0 rfl) (x_call' rfl rfl cl39) (need_t (!(r.here)) 9 (neg_of hb34) _) rfl rfl ?_
      intro wq39 H40
      refine y_k H40 H40 ?_
      refine y_done (by kernel_rfl) ?_
      refine g_then ?_
      refine g_wk [(0,_),(1,_),(5,_),(6,_),(7,_),(8,_),(9,_)] ?_
      refine w_s ?_
      refine w_m ?_
      refine w_b (v:=.bool true) (hb:=(b_neN (r:=false) Tryz.underlying98 rfl)) ?_
      refine w_m ?_
      refine w_g rfl xm ?_
      refine w_g rfl xn ?_
      refine w_g rfl (xf 1) ?_
      refine w_g (v:=.slice r.ap r.asked.length r.ac) rfl (x_loadC rfl rfl Tryz.underlying59 rfl (H40.bkCell (k:=6) rfl hrq (c:=1) rfl)) ?_
      refine w_g rfl xm ?_
      refine l_of (s_call0 H40 (wt1 rfl rfl rfl rfl rfl) (x_call' rfl rfl cl51) (cont_i r.asked r.ap r.asked.length r.ac k ((by have h9:=ofL_len A.asked c; have h8:=hI.al; have h7:=(hX.bok.ent hb16 hrq hrk).2; rw [h7]; omega)) _ (H40.bkAsk (k:=6) rfl hrq)) rfl rfl ?_)
      intro wq41 H42
      refine w_v (v:=.bool ((decide (k∈r.asked)))) (x_pick_t rfl rfl rfl rfl) ?_
      rcases Bool.eq_false_or_eq_true ((decide (k∈r.asked))) with hb43 | hb43
      ·
       refine l_of (s_call0 H42 (wt0 rfl) (x_call' rfl rfl cl39) (need_t (decide (k∈r.asked)) 20 hb43 _) rfl rfl ?_)
       intro wq44 H45
       have hen8:=hX.bok.ent hb16 hrq hrk
       have hka9:k∈ofL A.asked c:=by rw [← hen8.2]; exact of_decide_eq_true hb43
       have hno9:¬ (bitAt A.had c.pc=true∨c∈A.here):=by rintro (h9 | h9); exact absurd (hhad9.symm.trans h9) (by simp_all); exact absurd (hen8.1.trans (decide_eq_true h9)) (by rw [hb34]; decide)
       refine w_es ?_
       have H46:S wq44 [Ob r.b (.cells #[.bool r.here,.slice r.ap r.asked.length r.ac] 103 (0,0)),Rw 3 1 r.ap r.asked.length r.ac (fl intL r.asked),(Lst BkI (X.bs.eraseIdx ir)),Ob X.g (.cells #[.map (some X.mg),.int .i64 ((A.n:Int)),.int .i64 ((A.pz:Int)),.int .i64 ((A.la:Int)),.string (A.seed),.bool A.ino,.slice X.hp A.had.length X.hc,.slice X.wp A.wish.length X.wc,.map (some X.bg)] 85 (0,0)),Rw 4 1 X.hp A.had.length X.hc (fl boolL A.had),Rw 40 2 X.wp A.wish.length X.wc (fl wisL A.wish),Mp (Value.int .i64) ptV okI X.mg (mtM X.ms),(Lst MtI X.ms),Mp plK ptV okP X.bg (bkM X.bs),Ob g4 (.cells #[.int .i64 0] 30 (0,0)),Ob g1 (.cells #[.int .i64 (c.pc),.int .i64 (c.bg),.int .i64 (c.ln)] 44 (0,0)),Old w (fps [(XI X A)])]:=S.unbig (L:=[_,_]) (S.lstOut (F:=BkI) (H45.tk [6,0,1,2,3,4,5,7,8,9]) hrq)
       refine w_r3 ?_
       refine l_of (w_st #[.bool true,.slice r.ap r.asked.length r.ac] H46 0 ?_)
       intro wq47 H48
       refine w_e ?_
       refine g_wk [(0,_),(1,_),(5,_),(6,_),(7,_),(8,_),(9,_)] ?_
       refine g_seq ?_
       refine w_s ?_
       refine w_r3 ?_
       refine w_1 H48 0 ?_
       refine l_of (s_cl (clone_i r.asked r.ap r.asked.length r.ac ((by have h9:=ofL_len A.asked c; have h8:=hI.al; have h7:=(hX.bok.ent hb16 hrq hrk).2; rw [h7]; omega)) _ (H48.rr 1)) ?_)
       rintro _ wq51 ⟨pz49,cz50,rfl,H52⟩
       replace H52:S _ [_,_,_,_,_,_,_,_,_,_,_,_,_]:=H48.ab (new:=[_]) H52 rfl
       refine b_ret rfl rfl ?_
       have H53:=S.lstIn (F:=BkI) (x:=({ r with here:=true }:Bk)) (S.big (L:=[_,_]) (H52.tk [1,2,3,0,4,5,6,7,8,9,10,11,12])) (List.getElem?_eq_some_iff.1 hrq).1
       have H54:S wq51 [(Lst BkI (X.bs.set ir ({ r with here:=true }:Bk))),Rw 3 1 pz49 r.asked.length cz50 (fl intL r.asked),Ob X.g (.cells #[.map (some X.mg),.int .i64 ((A.n:Int)),.int .i64 ((A.pz:Int)),.int .i64 ((A.la:Int)),.string (A.seed),.bool A.ino,.slice X.hp A.had.length X.hc,.slice X.wp A.wish.length X.wc,.map (some X.bg)] 85 (0,0)),Rw 4 1 X.hp A.had.length X.hc (fl boolL A.had),Rw 40 2 X.wp A.wish.length X.wc (fl wisL A.wish),Mp (Value.int .i64) ptV okI X.mg (mtM X.ms),(Lst MtI X.ms),Mp plK ptV okP X.bg (bkM (X.bs.set ir ({ r with here:=true }:Bk))),Ob g4 (.cells #[.int .i64 0] 30 (0,0)),Ob g1 (.cells #[.int .i64 (c.pc),.int .i64 (c.bg),.int .i64 (c.ln)] 44 (0,0)),Old w (fps [(XI X A)])]:=by rw [bkM_set (r':=({ r with here:=true }:Bk)) hX.bn hrq rfl rfl]; exact H53
       have hcB:A.isB c:=hb16
       have hX1:XOK ({ X with bs:=(X.bs.set ir ({ r with here:=true }:Bk)) }:XP) ({ A with here:=(A.here++[c]) }:PK):=hX.put (here_set hX.bok hcB hrq hrk)
       have hro9:r.asked=ofL A.asked c:=(hX.bok.ent hcB hrq hrk).2
       have hrl9:=ofL_len A.asked c
       rw [← hro9] at hrl9
       refine w_v (v:=.int .i64 ((r.asked.length:Int))) x_q ?_
       refine w_m ?_
       refine w_e ?_
       refine g_block ?_
       refine g_loop (ι:=Nat × Option Addr × Nat × AL × List Mt × List Bk × AL) (fun (i,po,co,ol,ms,bs,al)=>[(0,.pointer (some ⟨X.g,0,none⟩)),(1,.int .i64 k),(5,.pointer (some ⟨g1,0,none⟩)),(6,.slice po ol.length co),(8,.pointer (some ⟨g4,0,none⟩)),(66,.slice pz49 r.asked.length cz50),(67,.int .i64 ((r.asked.length:Int))),(68,.int .i64 ((i:Int)))]) (fun (i,po,co,ol,ms,bs,al) wx=>(i≤r.asked.length)∧(XOK ({ X with ms:=ms,bs:=bs }:XP) ({ A with here:=(A.here++[c]),asked:=al }:PK))∧(al=delW A.asked c (r.asked.take i))∧(mtM ms=mtM X.ms)∧(ol=((r.asked.take i).filter fun x=>decide (x ≠ k)).map fun x=>(x,c))∧(ol.length≤i)∧S wx [Rw 110 4 po ol.length co (fl askL ol),(Lst BkI bs),Rw 3 1 pz49 r.asked.length cz50 (fl intL r.asked),Ob X.g (.cells #[.map (some X.mg),.int .i64 ((A.n:Int)),.int .i64 ((A.pz:Int)),.int .i64 ((A.la:Int)),.string (A.seed),.bool A.ino,.slice X.hp A.had.length X.hc,.slice X.wp A.wish.length X.wc,.map (some X.bg)] 85 (0,0)),Rw 4 1 X.hp A.had.length X.hc (fl boolL A.had),Rw 40 2 X.wp A.wish.length X.wc (fl wisL A.wish),Mp (Value.int .i64) ptV okI X.mg (mtM ms),(Lst MtI ms),Mp plK ptV okP X.bg (bkM bs),Ob g4 (.cells #[.int .i64 0] 30 (0,0)),Ob g1 (.cells #[.int .i64 (c.pc),.int .i64 (c.bg),.int .i64 (c.ln)] 44 (0,0)),Old w (fps [(XI X A)])]) (fun (i,po,co,ol,ms,bs,al)=>r.asked.length - i) (0,none,0,[],X.ms,(X.bs.set ir ({ r with here:=true }:Bk)),A.asked) ⟨rfl,rfl,rfl,rfl,rfl,rfl,rfl,rfl,trivial⟩ ⟨Nat.zero_le _,hX1,rfl,rfl,rfl,(Nat.le_refl 0),((S.nilFl H54 110 4 askL).tk [0,1,2,3,4,5,6,7,8,9,10,11])⟩ ?_
       rintro ⟨i,po,co,ol,ms,bs,al⟩ wq55 ⟨hi,hXi,hal,hmm,hol,hoz,H56⟩
       refine g_wk [(0,_),(1,_),(5,_),(6,_),(8,_),(66,_),(67,_),(68,_)] ?_
       have hsb:al.Sublist A.asked:=by rw [hal]; exact delW_sub _ _ _
       have hal9:=hI.al
       refine w_s ?_
       refine w_b ?_
       refine w_e ?_
       refine g_seq ?_
       by_cases hb57:((i:Int):Int)<(r.asked.length:Int)
       ·
        refine g_ct hb57 ?_
        refine w_ht ?_
        refine g_seq ?_
        refine w_bs ?_
        refine w_v (v:=.pointer ((pz49).map fun q=>q.add (i * 1))) (x_i i (H56.rr 2)) ?_
        obtain ⟨x58,hx58⟩:=(H56.rr 2).exL intE i
        have hxr9:=(asked_some hX hI rfl (x:=x58) (c:=c) (mem_ofL.1 (by rw [← hro9]; exact List.mem_of_getElem? hx58))).2
        refine w_v (v:=.int .i64 x58) (x_r i (H56.rr 2) (intE.flAt1 hx58 rfl)) ?_
        refine w_a ?_
        refine w_es ?_
        refine w_r6 ?_
        refine w_1 H56 3 ?_
        refine w_m ?_
        refine w_v (v:=(optP ((mtM ms) x58))) (ex_cast (x_lookup1 (x:=x58) (intTy Tryz.underlying80 Tryz.underlying3) H56 6 rfl rfl rfl rfl (⟨by omega,by omega⟩) ze79) (rfl)) ?_
        obtain ⟨iq59,m60,hq61,hk62,hb63,hf64⟩:=mtM_ex (asked_some hX hI hmm (x:=x58) (c:=c) (mem_ofL.1 (by rw [← hro9]; exact List.mem_of_getElem? hx58))).1
        rw [optP_s hb63]
        refine w_v (v:=.func (.func 53) #[] #[.pointer (some ⟨g1,0,none⟩)]) (x_makeFunc rfl rfl rfl) ?_
        refine l_of (s_cl (back_x ({ X with ms:=ms,bs:=bs }:XP) ({ A with asked:=al }:PK) j (A.here++[c]) hXi (PKI.sub hI hsb) (by omega) x58 iq59 m60 hq61 hk62 (fun x:Cho=>decide (x=c)) 53 #[] #[.pointer (some ⟨g1,0,none⟩)] (Ob g1 (.cells #[.int .i64 (c.pc),.int .i64 (c.bg),.int .i64 (c.ln)] 44 (0,0))) (fun _:Cho=>True) (here1_f g1 m60 c) (fun _ _=>trivial) _ (H56.tk [10,3,8,7,1])) ?_)
        rintro _ wq71 ⟨ap65,ac66,bs67,hY68,po69,co70,rfl,H72⟩
        replace H72:S _ [_,_,_,_,_,_,_,_,_,_,_,_,_]:=H56.abI (new:=[_,_,_,_,_,_]) [10,3,8,7,1] H72 rfl
        have hol9:(m60.asked.filter (fun x:Cho=>decide (x=c))).length≤m60.asked.length:=List.length_filter_le _ _
        have H73:S wq71 [Rw 44 3 po69 ((m60.asked.filter (fun x:Cho=>decide (x=c))).length) co70 (fl choL (m60.asked.filter (fun x:Cho=>decide (x=c)))),Ob g1 (.cells #[.int .i64 (c.pc),.int .i64 (c.bg),.int .i64 (c.ln)] 44 (0,0)),Ob X.g (.cells #[.map (some X.mg),.int .i64 ((A.n:Int)),.int .i64 ((A.pz:Int)),.int .i64 ((A.la:Int)),.string (A.seed),.bool A.ino,.slice X.hp A.had.length X.hc,.slice X.wp A.wish.length X.wc,.map (some X.bg)] 85 (0,0)),Mp plK ptV okP X.bg (bkM bs67),(Lst MtI (ms.set iq59 ({ m60 with ap:=ap65,ac:=ac66,asked:=m60.asked.filter fun y9=>!(fun x:Cho=>decide (x=c)) y9 }:Mt))),(Lst BkI bs67),Rw 110 4 po ol.length co (fl askL ol),Rw 3 1 pz49 r.asked.length cz50 (fl intL r.asked),Rw 4 1 X.hp A.had.length X.hc (fl boolL A.had),Rw 40 2 X.wp A.wish.length X.wc (fl wisL A.wish),Mp (Value.int .i64) ptV okI X.mg (mtM (ms.set iq59 ({ m60 with ap:=ap65,ac:=ac66,asked:=m60.asked.filter fun y9=>!(fun x:Cho=>decide (x=c)) y9 }:Mt))),Ob g4 (.cells #[.int .i64 0] 30 (0,0)),Old w (fps [(XI X A)])]:=by rw [mtM_set (m':=({ m60 with ap:=ap65,ac:=ac66,asked:=m60.asked.filter fun y9=>!(fun x:Cho=>decide (x=c)) y9 }:Mt)) (XOK.ndA hXi (PKI.sub hI hsb)) hq61 rfl rfl]; exact H72
        refine b_ret rfl rfl ?_
        refine w_e ?_
        refine g_wk [(0,_),(1,_),(5,_),(6,_),(8,_),(11,_),(66,_),(67,_),(68,_)] ?_
        refine w_s ?_
        refine w_r2 ?_
        refine w_b (v:=.bool (!decide ((x58:Int)=k))) (hb:=b_neq) ?_
        refine w_e ?_
        by_cases hb74:(x58:Int)=k
        ·
         refine g_nf hb74 ?_
         refine g_skip ?_
         refine g_in ?_
         refine g_then ?_
         refine g_region ?_
         refine w_b (v:=.int .i64 (((i+1:Nat):Int))) (hb:=(b_add (by rw [w64 (by omega)]; omega))) ?_
         refine w_m ?_
         refine w_e ?_
         refine g_rd (i:=(i,po,co,ol,ms,bs,al)) ((i+1),po,co,ol,(ms.set iq59 ({ m60 with ap:=ap65,ac:=ac66,asked:=m60.asked.filter fun y9=>!(fun x:Cho=>decide (x=c)) y9 }:Mt)),bs67,(delQ ({ A with asked:=al,here:=(A.here++[c]) }:PK).asked x58 (fun x:Cho=>decide (x=c)))) ⟨by omega,hY68,(by rw [take_snocL hx58,delW_snoc,delQ_one,← hal]),((mtM_set (ms:=ms) (m':=({ m60 with ap:=ap65,ac:=ac66,asked:=m60.asked.filter fun y9=>!(fun x:Cho=>decide (x=c)) y9 }:Mt)) (XOK.ndA hXi hI) hq61 rfl rfl).trans hmm),(by rw [take_snocL hx58,List.filter_append,List.filter_cons,if_neg (by simp [hb74]),List.filter_nil,List.append_nil]; exact hol),(by first | omega | (simp only [List.length_append,List.length_cons,List.length_nil]; omega)),(H73.tk [6,5,7,2,8,9,10,4,3,11,1,12])⟩
        ·
         refine g_nt hb74 ?_
         refine g_region ?_
         refine w_r2 ?_
         refine w_v (v:=.agg #[.int .i64 (c.pc),.int .i64 (c.bg),.int .i64 (c.ln)]) (x_loadA H73 1 rfl rfl Tryz.underlying44 rfl sz44 rfl rfl rfl) ?_
         refine w_v (v:=.agg #[.int .i64 x58,.int .i64 (c.pc),.int .i64 (c.bg),.int .i64 (c.ln)]) (x_build (vs:=[.int .i64 x58,.agg #[.int .i64 (c.pc),.int .i64 (c.bg),.int .i64 (c.ln)]]) rfl rfl (cells:=#[.int .i64 x58,.int .i64 (c.pc),.int .i64 (c.bg),.int .i64 (c.ln)]) (by kernel_rfl)) ?_
         refine l_of (s_buildSlice H73 (wt0 rfl) rfl rfl rfl (vs:=[.agg #[.int .i64 x58,.int .i64 (c.pc),.int .i64 (c.bg),.int .i64 (c.ln)]]) rfl Tryz.underlying45 sz110 ze110 rfl rfl (cells:=#[.int .i64 x58,.int .i64 (c.pc),.int .i64 (c.bg),.int .i64 (c.ln)]) (by kernel_rfl) ?_)
         intro g75 wq76 H77
         have hln82a:=(H77.rr 7).lenL askE
         have hln82:(ol++[((x58,c):Int × Cho)]).length=ol.length+1:=by simp only [List.length_append,List.length_cons,List.length_nil] <;> omega
         refine l_of (s_appBn (m:=1) (l:=ol) (l2:=[((x58,c):Int × Cho)]) askE H77 7 (j0:=0) rfl rfl ⟨rfl,Nat.le_refl _⟩ (wt0 rfl) rfl rfl rfl rfl rfl rfl Tryz.underlying45 inf110 rfl (by decide) (by omega) ?_)
         intro p78 c79 wq80 H81
         refine w_a ?_
         refine g_nil ?_
         refine g_in ?_
         refine g_then ?_
         refine g_region ?_
         refine w_b (v:=.int .i64 (((i+1:Nat):Int))) (hb:=(b_add (by rw [w64 (by omega)]; omega))) ?_
         refine w_m ?_
         refine w_e ?_
         refine g_rd (i:=(i,po,co,ol,ms,bs,al)) ((i+1),p78,c79,(ol++[((x58,c):Int × Cho)]),(ms.set iq59 ({ m60 with ap:=ap65,ac:=ac66,asked:=m60.asked.filter fun y9=>!(fun x:Cho=>decide (x=c)) y9 }:Mt)),bs67,(delQ ({ A with asked:=al,here:=(A.here++[c]) }:PK).asked x58 (fun x:Cho=>decide (x=c)))) ⟨by omega,hY68,(by rw [take_snocL hx58,delW_snoc,delQ_one,← hal]),((mtM_set (ms:=ms) (m':=({ m60 with ap:=ap65,ac:=ac66,asked:=m60.asked.filter fun y9=>!(fun x:Cho=>decide (x=c)) y9 }:Mt)) (XOK.ndA hXi hI) hq61 rfl rfl).trans hmm),(by rw [take_snocL hx58,List.filter_append,List.filter_cons,if_pos (by simp [hb74]),List.filter_nil,List.map_append,← hol]; rfl),(by first | omega | (simp only [List.length_append,List.length_cons,List.length_nil]; omega)),(H81.tk [7,6,8,3,9,10,11,5,4,12,2,13])⟩
       ·
        refine g_cf hb57 ?_
        refine g_exit ?_
        rw [List.take_of_length_le (by omega)] at hal hol
        rw [hro9,delW_all] at hal
        subst hal
        have hE:(A.hereE k c)=0:=by unfold PK.hereE; rw [if_neg (by have h9:=(boE_0 hb7).2; omega),if_neg (fun h9=>h9 hb7),if_neg (fun h9=>h9 hb16),if_neg hno9]; exact if_neg (fun h9=>h9 hka9)
        have hA9:A.hereA k c=({ A with asked:=(dropC A.asked c),here:=(A.here++[c]) }:PK):=if_pos hE
        have hI3:PKI (j+1) ({ A with asked:=(dropC A.asked c),here:=(A.here++[c]) }:PK):=by have h9:=hI.here k c; rwa [hA9] at h9
        iterate 2 refine g_then_exit ?_
        refine g_in_hit ?_
        refine g_then ?_
        refine w_s ?_
        refine w_r3 ?_
        refine w_1 H56 10 ?_
        have H83:S wq55 [(XI ({ X with ms:=ms,bs:=bs }:XP) ({ A with asked:=(dropC A.asked c),here:=(A.here++[c]) }:PK)),Rw 110 4 po ol.length co (fl askL ol),Rw 3 1 pz49 r.asked.length cz50 (fl intL r.asked),Ob g4 (.cells #[.int .i64 0] 30 (0,0)),Ob g1 (.cells #[.int .i64 (c.pc),.int .i64 (c.bg),.int .i64 (c.ln)] 44 (0,0)),Old w (fps [(XI X A)])]:=S.big (L:=[_,_,_,_,_,_,_]) (H56.tk [3,4,5,6,7,8,1,0,2,9,10,11])
        refine l_of (s_cl (whole_x ({ X with ms:=ms,bs:=bs }:XP) ({ A with asked:=(dropC A.asked c),here:=(A.here++[c]) }:PK) (j+1) hXi hI3 c.pc (boE_0 hb7).2 _ (H83.tk [0])) ?_)
        rintro _ wq84 ⟨rfl,H85⟩
        replace H85:S _ [_,_,_,_,_,_]:=H83.abI (new:=[_]) [0] H85 rfl
        have H86:S wq84 [Ob X.g (.cells #[.map (some X.mg),.int .i64 ((A.n:Int)),.int .i64 ((A.pz:Int)),.int .i64 ((A.la:Int)),.string (A.seed),.bool A.ino,.slice X.hp A.had.length X.hc,.slice X.wp A.wish.length X.wc,.map (some X.bg)] 85 (0,0)),Rw 4 1 X.hp A.had.length X.hc (fl boolL A.had),Rw 40 2 X.wp A.wish.length X.wc (fl wisL A.wish),Mp (Value.int .i64) ptV okI X.mg (mtM ms),(Lst MtI ms),Mp plK ptV okP X.bg (bkM bs),(Lst BkI bs),Rw 110 4 po ol.length co (fl askL ol),Rw 3 1 pz49 r.asked.length cz50 (fl intL r.asked),Ob g4 (.cells #[.int .i64 0] 30 (0,0)),Ob g1 (.cells #[.int .i64 (c.pc),.int .i64 (c.bg),.int .i64 (c.ln)] 44 (0,0)),Old w (fps [(XI X A)])]:=S.unbig (L:=[_,_,_,_,_,_,_]) (H85.tk [0,1,2,3,4,5])
        refine b_ret rfl rfl ?_
        refine w_r2 ?_
        refine l_of (w_st #[.int .i64 0] H86 9 ?_)
        intro wq87 H88
        refine w_e ?_
        refine g_wk [(6,_),(7,_),(8,_)] ?_
        refine g_ret ?_
        refine fin_dret ?_
        refine gl_step (by simp) cl38 (caughtx_n g4 _) ?_
        rintro _ _ wq89 ⟨⟨rfl,H90⟩,rfl⟩
        replace H90:=H88.ab0 H90
        refine (?_:GL _ _ _ _ _ _ FrameMode.returning _)
        refine gl_ret [.tmp 6,.tmp 7,.cell 8 30] [.slice po ol.length co,.bool ((({ A with asked:=(dropC A.asked c),here:=(A.here++[c]) }:PK).wholeB c.pc)),.int .i64 0] rfl ⟨rfl,rfl,⟨_,rfl,run_load1 Tryz.underlying30 rfl (H90.cell (k:=9) rfl rfl)⟩,trivial⟩ ?_
        have hL9:(A.hereL k c)=ol:=by unfold PK.hereL; rw [if_pos hE,hol,hro9]
        have hW9:(A.hereW k c)=({ A with asked:=(dropC A.asked c),here:=(A.here++[c]) }:PK).wholeB c.pc:=by unfold PK.hereW; rw [if_pos hE,hA9]
        rw [hL9,hW9,hA9,hE]
        exact ⟨({ X with ms:=ms,bs:=bs }:XP),rfl,hXi,_,_,rfl,(S.big (L:=[_,_,_,_,_,_,_]) (H90.tk [0,1,2,3,4,5,6,7,11])).tk [1,0,2]⟩
      ·
       refine l_of (s_cl (need_f (decide (k∈r.asked)) 20 hb43 _) ?_)
       rintro _ wq91 ⟨rfl,H92⟩
       replace H92:=H42.ab0 H92
       refine b_panic ?_
       refine g_then_panic ?_
       refine fin_dpanic ?_
       refine gl_step (by simp) cl38 (caughtx_p g4 20 (0) [] _ (H92.ob (k:=7) rfl)) ?_
       rintro _ _ wq93 ⟨⟨rfl,H94⟩,rfl⟩
       replace H94:S wq93 [Ob g4 (.cells #[.int .i64 20] 30 (0,0)),Ob X.g (.cells #[.map (some X.mg),.int .i64 ((A.n:Int)),.int .i64 ((A.pz:Int)),.int .i64 ((A.la:Int)),.string (A.seed),.bool A.ino,.slice X.hp A.had.length X.hc,.slice X.wp A.wish.length X.wc,.map (some X.bg)] 85 (0,0)),Rw 4 1 X.hp A.had.length X.hc (fl boolL A.had),Rw 40 2 X.wp A.wish.length X.wc (fl wisL A.wish),Mp (Value.int .i64) ptV okI X.mg (mtM X.ms),(Lst MtI X.ms),Mp plK ptV okP X.bg (bkM X.bs),(Lst BkI X.bs),Ob g1 (.cells #[.int .i64 (c.pc),.int .i64 (c.bg),.int .i64 (c.ln)] 44 (0,0)),Old w (fps [(XI X A)])]:=H92.absorbK (new:=[Ob g4 (.cells #[.int .i64 20] 30 (0,0))]) [7] (by intro g hg; rw [List.mem_singleton] at hg; subst hg; exact ⟨7,rfl,_,rfl,rfl⟩) H94
       refine (?_:GL _ _ _ _ _ _ FrameMode.returning _)
       refine gl_ret [.tmp 6,.tmp 7,.cell 8 30] [.slice none 0 0,.bool false,.int .i64 20] rfl ⟨rfl,rfl,⟨_,rfl,run_load1 Tryz.underlying30 rfl (H94.cell (k:=0) rfl rfl)⟩,trivial⟩ ?_
       have hen9:=hX.bok.ent hb16 hrq hrk
       have hE:(A.hereE k c)=20:=by unfold PK.hereE; rw [if_neg (by have h9:=(boE_0 hb7).2; omega),if_neg (fun h9=>h9 hb7),if_neg (fun h9=>h9 hb16),if_neg (by rintro (h9 | h9); exact absurd (hhad9.symm.trans h9) (by simp_all); exact absurd (hen9.1.trans (decide_eq_true h9)) (by simp_all))]; exact if_pos (by rw [← hen9.2]; exact of_decide_eq_false hb43)
       have hng:¬ ((A.hereE k c)=0):=by rw [hE]; decide
       have hL9:(A.hereL k c)=[]:=if_neg hng
       have hW9:(A.hereW k c)=false:=if_neg hng
       have hA9:A.hereA k c=A:=if_neg hng
       rw [hL9,hW9,hA9,hE]
       exact ⟨X,rfl,hX,none,0,rfl,((S.big (L:=[_,_,_,_,_,_,_]) (H94.tk [1,2,3,4,5,6,7,9])).tk [0,1]).nilFl 110 4 askL⟩
    ·
     refine y_not 13 rfl (wn1 rfl rfl rfl rfl (neg_of hb33)) rfl rfl rfl (by kernel_rfl) (by kernel_rfl) (by kernel_rfl) (by kernel_rfl) ?_
     refine y_not 14 rfl (wn1 rfl rfl rfl rfl (neg_of hb33)) rfl rfl rfl (by kernel_rfl) (by kernel_rfl) (by kernel_rfl) (by kernel_rfl) ?_
     refine y_not 15 rfl (wn1 rfl rfl rfl rfl (neg_of hb33)) rfl rfl rfl (by kernel_rfl) (by kernel_rfl) (by kernel_rfl) (by kernel_rfl) ?_
     refine y_not 16 rfl (wn1 rfl rfl rfl rfl (neg_of hb33)) rfl rfl rfl (by kernel_rfl) (by kernel_rfl) (by kernel_rfl) (by kernel_rfl) ?_
     refine y_not 17 rfl (wn1 rfl rfl rfl rfl (neg_of hb33)) rfl rfl rfl (by kernel_rfl) (by kernel_rfl) (by kernel_rfl) (by kernel_rfl) ?_
     refine w_y (v:=.bool true) 18 rfl (wt1 rfl rfl rfl rfl (neg_of hb28)) rfl rfl rfl (by kernel_rfl) (fun _=>x_pick_t rfl rfl (neg_of hb33) rfl) ?_
     refine w_y (v:=.bool true) 19 rfl (wt0 rfl) rfl rfl rfl (by kernel_rfl) (fun _=>x_pick_t rfl rfl (neg_of hb28) rfl) ?_
     refine y_one (i:=20) (by kernel_rfl) rfl ?_
     refine s_call0 H26 (wt0 rfl) (x_call' rfl rfl cl39) (need_t true 9 rfl _) rfl rfl ?_
     intro wq95 H96
     refine y_k H96 H96 ?_
     refine y_done (by kernel_rfl) ?_
     refine g_then ?_
     refine g_wk [(0,_),(1,_),(5,_),(6,_),(7,_),(8,_),(9,_)] ?_
     refine w_s ?_
     refine w_m ?_
     refine w_b (v:=.bool (((bkM X.bs) c.at).isSome)) (hb:=(b_nePO Tryz.underlying98)) ?_
     refine w_m ?_
     iterate 6 refine w_n hb33 ?_
     refine w_v (v:=.bool false) (x_pick_f rfl rfl hb33 rfl) ?_
     refine l_of (s_cl (need_f false 20 rfl _) ?_)
     rintro _ wq97 ⟨rfl,H98⟩
     replace H98:=H96.ab0 H98
     refine b_panic ?_
     refine g_then_panic ?_
     refine fin_dpanic ?_
     refine gl_step (by simp) cl38 (caughtx_p g4 20 (0) [] _ (H98.ob (k:=7) rfl)) ?_
     rintro _ _ wq99 ⟨⟨rfl,H100⟩,rfl⟩
     replace H100:S wq99 [Ob g4 (.cells #[.int .i64 20] 30 (0,0)),Ob X.g (.cells #[.map (some X.mg),.int .i64 ((A.n:Int)),.int .i64 ((A.pz:Int)),.int .i64 ((A.la:Int)),.string (A.seed),.bool A.ino,.slice X.hp A.had.length X.hc,.slice X.wp A.wish.length X.wc,.map (some X.bg)] 85 (0,0)),Rw 4 1 X.hp A.had.length X.hc (fl boolL A.had),Rw 40 2 X.wp A.wish.length X.wc (fl wisL A.wish),Mp (Value.int .i64) ptV okI X.mg (mtM X.ms),(Lst MtI X.ms),Mp plK ptV okP X.bg (bkM X.bs),(Lst BkI X.bs),Ob g1 (.cells #[.int .i64 (c.pc),.int .i64 (c.bg),.int .i64 (c.ln)] 44 (0,0)),Old w (fps [(XI X A)])]:=H98.absorbK (new:=[Ob g4 (.cells #[.int .i64 20] 30 (0,0))]) [7] (by intro g hg; rw [List.mem_singleton] at hg; subst hg; exact ⟨7,rfl,_,rfl,rfl⟩) H100
     refine (?_:GL _ _ _ _ _ _ FrameMode.returning _)
     refine gl_ret [.tmp 6,.tmp 7,.cell 8 30] [.slice none 0 0,.bool false,.int .i64 20] rfl ⟨rfl,rfl,⟨_,rfl,run_load1 Tryz.underlying30 rfl (H100.cell (k:=0) rfl rfl)⟩,trivial⟩ ?_
     have hfc9:=hX.no (hb16).2.2 hb33
     have hE:(A.hereE k c)=20:=by unfold PK.hereE; rw [if_neg (by have h9:=(boE_0 hb7).2; omega),if_neg (fun h9=>h9 hb7),if_neg (fun h9=>h9 hb16),if_neg (by rintro (h9 | h9); exact absurd (hhad9.symm.trans h9) (by simp_all); exact not_here hfc9 h9)]; exact if_pos (by rw [(freeC_iff.1 hfc9).2]; exact List.not_mem_nil)
     have hng:¬ ((A.hereE k c)=0):=by rw [hE]; decide
     have hL9:(A.hereL k c)=[]:=if_neg hng
     have hW9:(A.hereW k c)=false:=if_neg hng
     have hA9:A.hereA k c=A:=if_neg hng
     rw [hL9,hW9,hA9,hE]
     exact ⟨X,rfl,hX,none,0,rfl,((S.big (L:=[_,_,_,_,_,_,_]) (H100.tk [1,2,3,4,5,6,7,9])).tk [0,1]).nilFl 110 4 askL⟩
  ·
   have H101:S wq13 [(XI X A),Ob g4 (.cells #[.int .i64 0] 30 (0,0)),Ob g1 (.cells #[.int .i64 (c.pc),.int .i64 (c.bg),.int .i64 (c.ln)] 44 (0,0)),Old w (fps [(XI X A)])]:=S.big (L:=[_,_,_,_,_,_,_]) (H15.tk [0,1,2,3,4,5,6,7,8,9])
   refine l_of (s_cl (is_f X A j hX hI c (boE_0 (by assumption)).2 hb16 _ (H101.tk [0])) ?_)
   rintro _ wq102 ⟨rfl,H103⟩
   replace H103:S _ [_,_,_,_]:=H101.abI (new:=[_]) [0] H103 rfl
   have H104:S wq102 [Ob X.g (.cells #[.map (some X.mg),.int .i64 ((A.n:Int)),.int .i64 ((A.pz:Int)),.int .i64 ((A.la:Int)),.string (A.seed),.bool A.ino,.slice X.hp A.had.length X.hc,.slice X.wp A.wish.length X.wc,.map (some X.bg)] 85 (0,0)),Rw 4 1 X.hp A.had.length X.hc (fl boolL A.had),Rw 40 2 X.wp A.wish.length X.wc (fl wisL A.wish),Mp (Value.int .i64) ptV okI X.mg (mtM X.ms),(Lst MtI X.ms),Mp plK ptV okP X.bg (bkM X.bs),(Lst BkI X.bs),Ob g4 (.cells #[.int .i64 0] 30 (0,0)),Ob g1 (.cells #[.int .i64 (c.pc),.int .i64 (c.bg),.int .i64 (c.ln)] 44 (0,0)),Old w (fps [(XI X A)])]:=S.unbig (L:=[_,_,_,_,_,_,_]) (H103.tk [0,1,2,3])
   refine b_panic ?_
   refine g_then_panic ?_
   refine fin_dpanic ?_
   refine gl_step (by simp) cl38 (caughtx_p g4 1 (0) [] _ (H104.ob (k:=7) rfl)) ?_
   rintro _ _ wq105 ⟨⟨rfl,H106⟩,rfl⟩
   replace H106:S wq105 [Ob g4 (.cells #[.int .i64 1] 30 (0,0)),Ob X.g (.cells #[.map (some X.mg),.int .i64 ((A.n:Int)),.int .i64 ((A.pz:Int)),.int .i64 ((A.la:Int)),.string (A.seed),.bool A.ino,.slice X.hp A.had.length X.hc,.slice X.wp A.wish.length X.wc,.map (some X.bg)] 85 (0,0)),Rw 4 1 X.hp A.had.length X.hc (fl boolL A.had),Rw 40 2 X.wp A.wish.length X.wc (fl wisL A.wish),Mp (Value.int .i64) ptV okI X.mg (mtM X.ms),(Lst MtI X.ms),Mp plK ptV okP X.bg (bkM X.bs),(Lst BkI X.bs),Ob g1 (.cells #[.int .i64 (c.pc),.int .i64 (c.bg),.int .i64 (c.ln)] 44 (0,0)),Old w (fps [(XI X A)])]:=H104.absorbK (new:=[Ob g4 (.cells #[.int .i64 1] 30 (0,0))]) [7] (by intro g hg; rw [List.mem_singleton] at hg; subst hg; exact ⟨7,rfl,_,rfl,rfl⟩) H106
   refine (?_:GL _ _ _ _ _ _ FrameMode.returning _)
   refine gl_ret [.tmp 6,.tmp 7,.cell 8 30] [.slice none 0 0,.bool false,.int .i64 1] rfl ⟨rfl,rfl,⟨_,rfl,run_load1 Tryz.underlying30 rfl (H106.cell (k:=0) rfl rfl)⟩,trivial⟩ ?_
   have hE:(A.hereE k c)=1:=by unfold PK.hereE; rw [if_neg (by have h9:=(boE_0 hb7).2; omega),if_neg (fun h9=>h9 hb7),if_pos hb16]
   have hng:¬ ((A.hereE k c)=0):=by rw [hE]; decide
   have hL9:(A.hereL k c)=[]:=if_neg hng
   have hW9:(A.hereW k c)=false:=if_neg hng
   have hA9:A.hereA k c=A:=if_neg hng
   rw [hL9,hW9,hA9,hE]
   exact ⟨X,rfl,hX,none,0,rfl,((S.big (L:=[_,_,_,_,_,_,_]) (H106.tk [1,2,3,4,5,6,7,9])).tk [0,1]).nilFl 110 4 askL⟩
 ·
  have H107:S wq5 [(XI X A),Ob g4 (.cells #[.int .i64 0] 30 (0,0)),Ob g1 (.cells #[.int .i64 (c.pc),.int .i64 (c.bg),.int .i64 (c.ln)] 44 (0,0)),Old w (fps [(XI X A)])]:=S.big (L:=[_,_,_,_,_,_,_]) (H6.tk [2,3,4,5,6,7,8,0,1,9])
  refine l_of (s_cl (both_f X A j hX hI k c.pc hb7 _ (H107.tk [0])) ?_)
  rintro _ wq108 ⟨rfl,H109⟩
  replace H109:S _ [_,_,_,_]:=H107.abI (new:=[_]) [0] H109 rfl
  have H110:S wq108 [Ob X.g (.cells #[.map (some X.mg),.int .i64 ((A.n:Int)),.int .i64 ((A.pz:Int)),.int .i64 ((A.la:Int)),.string (A.seed),.bool A.ino,.slice X.hp A.had.length X.hc,.slice X.wp A.wish.length X.wc,.map (some X.bg)] 85 (0,0)),Rw 4 1 X.hp A.had.length X.hc (fl boolL A.had),Rw 40 2 X.wp A.wish.length X.wc (fl wisL A.wish),Mp (Value.int .i64) ptV okI X.mg (mtM X.ms),(Lst MtI X.ms),Mp plK ptV okP X.bg (bkM X.bs),(Lst BkI X.bs),Ob g4 (.cells #[.int .i64 0] 30 (0,0)),Ob g1 (.cells #[.int .i64 (c.pc),.int .i64 (c.bg),.int .i64 (c.ln)] 44 (0,0)),Old w (fps [(XI X A)])]:=S.unbig (L:=[_,_,_,_,_,_,_]) (H109.tk [0,1,2,3])
  refine b_panic ?_
  refine g_then_panic ?_
  refine fin_dpanic ?_
  refine gl_step (by simp) cl38 (caughtx_p g4 (A.boE k c.pc) (0) [] _ (H110.ob (k:=7) rfl)) ?_
  rintro _ _ wq111 ⟨⟨rfl,H112⟩,rfl⟩
  replace H112:S wq111 [Ob g4 (.cells #[.int .i64 ((A.boE k c.pc))] 30 (0,0)),Ob X.g (.cells #[.map (some X.mg),.int .i64 ((A.n:Int)),.int .i64 ((A.pz:Int)),.int .i64 ((A.la:Int)),.string (A.seed),.bool A.ino,.slice X.hp A.had.length X.hc,.slice X.wp A.wish.length X.wc,.map (some X.bg)] 85 (0,0)),Rw 4 1 X.hp A.had.length X.hc (fl boolL A.had),Rw 40 2 X.wp A.wish.length X.wc (fl wisL A.wish),Mp (Value.int .i64) ptV okI X.mg (mtM X.ms),(Lst MtI X.ms),Mp plK ptV okP X.bg (bkM X.bs),(Lst BkI X.bs),Ob g1 (.cells #[.int .i64 (c.pc),.int .i64 (c.bg),.int .i64 (c.ln)] 44 (0,0)),Old w (fps [(XI X A)])]:=H110.absorbK (new:=[Ob g4 (.cells #[.int .i64 ((A.boE k c.pc))] 30 (0,0))]) [7] (by intro g hg; rw [List.mem_singleton] at hg; subst hg; exact ⟨7,rfl,_,rfl,rfl⟩) H112
  refine (?_:GL _ _ _ _ _ _ FrameMode.returning _)
  refine gl_ret [.tmp 6,.tmp 7,.cell 8 30] [.slice none 0 0,.bool false,.int .i64 ((A.boE k c.pc))] rfl ⟨rfl,rfl,⟨_,rfl,run_load1 Tryz.underlying30 rfl (H112.cell (k:=0) rfl rfl)⟩,trivial⟩ ?_
  have hE:(A.hereE k c)=(A.boE k c.pc):=by exact hereE_b hb7
  have hng:¬ ((A.hereE k c)=0):=by rw [hE]; exact hb7
  have hL9:(A.hereL k c)=[]:=if_neg hng
  have hW9:(A.hereW k c)=false:=if_neg hng
  have hA9:A.hereA k c=A:=if_neg hng
  rw [hL9,hW9,hA9,hE]
  exact ⟨X,rfl,hX,none,0,rfl,((S.big (L:=[_,_,_,_,_,_,_]) (H112.tk [1,2,3,4,5,6,7,9])).tk [0,1]).nilFl 110 4 askL⟩
end Go.Proofs.YthmmfhdpkddniaaGreatDoor
