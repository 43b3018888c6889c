import Derived.Test.YthmmfhdpkddniaaGreatDoorBl
import Derived.Test.YthmmfhdpkddniaaGreatDoorHb
set_option linter.unusedSimpArgs false
set_option linter.unusedVariables false
namespace Go.Proofs.YthmmfhdpkddniaaGreatDoor
open Go.RowKit
theorem bsV_fl (l:List Bool):bsV l=fl boolL l:=by
 induction l with
 | nil=>rfl
 | cons a l ih =>
   show Value.bool a :: bsV l=boolL a++fl boolL l
   rw [ih]; rfl
theorem of_no {m:Nat} {l:List Int} (hl:∀ i∈l,0≤i∧i<(m:Int)) (hd:l.Nodup) {ii:Nat} {x:Int} (hx:l[ii]?=some x):decide ((ofTo m (l.take ii)).getD (x.toNat / 8) 0 / 2 ^ (7 - x.toNat % 8) % 2=1)=false:=by
 have h1:=ofTo_bit (m:=m) (l.take ii) (fun i hi=>hl i (List.mem_of_mem_take hi)) x.toNat
 have hx0:=hl x (List.mem_of_getElem? hx)
 unfold bitA at h1
 rw [bt_nb (ofTo_lt m _)] at h1
 rw [h1,show ((x.toNat:Nat):Int)=x from by omega]
 refine decide_eq_false fun h2=>?_
 obtain ⟨q,hq⟩:=List.getElem?_of_mem h2
 have hq2:=(List.getElem?_eq_some_iff.1 hq).1
 rw [List.length_take] at hq2
 rw [List.getElem?_take_of_lt (by omega)] at hq
 have h3:=(List.getElem?_eq_some_iff.1 hx).1
 have:=(List.getElem?_inj (by omega) hd).1 (hq.trans hx.symm)
 omega
set_option maxRecDepth 20000 in
set_option maxHeartbeats 4000000 in
set_option maxRecDepth 20000 in
set_option maxHeartbeats 4000000 in
theorem of_b (m:Nat) (l:List Int) (lp:Option Addr) (lc:Nat) (hm:m≤4096) (hl:∀ i∈l,0≤i∧i<(m:Int)) (hd:l.Nodup) (hll:l.length≤1099511627776)  (w:World) (HS:S w [Rw 3 1 lp l.length lc (fl intL l)]):Calls Tryz.prog 56 #[.int .i64 ((m:Int)),.slice lp l.length lc] w fun e w'=>e=.returned (.tuple #[.string (nbS (ofTo m l)),.int .i64 0])∧S w' ([Rw 3 1 lp l.length lc (fl intL l)]++[Old w (fps [Rw 3 1 lp l.length lc (fl intL l)])]):=by
 have H00:=HS.beginI
 have H0:S w ([Rw 3 1 lp l.length lc (fl intL l),Old w (fps [Rw 3 1 lp l.length lc (fl intL l)])]):=H00
 have hlm:longN m≤512:=by unfold longN; omega
 refine enter_d 36 Tryz.func56 rfl rfl rfl ?_
 refine g_weak [(0,.int .i64 ((m:Int))),(1,.slice lp l.length lc)] ⟨rfl,rfl,trivial⟩ ?_
 refine g_seq ?_
 refine g_region ?_
 refine l_of (s_val (v:=.string (⟨#[]⟩)) (wt0 rfl) rfl rfl (x_assign rfl rfl) ?_)
 refine l_of (s_alloc H0 (wt0 rfl) rfl rfl rfl ze30 ?_)
 intro g1 wq2 H3
 refine g_nil ?_
 refine g_then ?_
 refine g_seq ?_
 refine g_region ?_
 refine l_of (s_defer (wt0 rfl) rfl (xd_defer rfl rfl rfl) ?_)
 refine g_nil ?_
 refine g_then ?_
 refine g_seq ?_
 refine g_region ?_
 refine l_of (s_val (v:=.int .i64 ((m:Int))) (wt0 rfl) rfl rfl (x_move rfl rfl) ?_)
 refine l_of (s_call (wt0 rfl) (x_call' rfl rfl cl103) (empty_i m hm _) ?_)
 rintro _ wq5 ⟨gb4,rfl,H6⟩
 replace H6:S wq5 [Ob gb4 (.cells (nbV (List.replicate (longN m) 0)) 5 (0,0)),Ob g1 (.cells #[.int .i64 0] 30 (0,0)),Rw 3 1 lp l.length lc (fl intL l),Old w (fps [Rw 3 1 lp l.length lc (fl intL l)])]:=H3.absorb (new:=[Ob gb4 (.cells (nbV (List.replicate (longN m) 0)) 5 (0,0))]) H6
 refine b_ret rfl rfl ?_
 refine l_of (s_alloc H6 (wt0 rfl) rfl rfl rfl ze137 ?_)
 intro g7 wq8 H9
 refine l_of (s_store H9 0 (wt0 rfl) rfl rfl rfl rfl rfl sz137 rfl rfl (cs':=#[.int .i64 ((m:Int)),.slice (some ⟨gb4,0,none⟩) ((longN m)) ((longN m))]) rfl ?_)
 intro wq10 H11
 refine g_nil ?_
 refine g_then ?_
 refine g_seq ?_
 refine g_seq ?_
 refine g_region ?_
 refine l_of (s_val (v:=.slice lp l.length lc) (wt0 rfl) rfl rfl (x_move rfl rfl) ?_)
 refine l_of (s_val (v:=.int .i64 ((l.length:Int))) (wt0 rfl) rfl rfl (x_lenl rfl rfl Tryz.underlying59) ?_)
 refine l_of (s_val (v:=.int .i64 0) (wt0 rfl) rfl rfl (x_move rfl rfl) ?_)
 refine g_nil ?_
 refine g_then ?_
 refine g_block ?_
 refine g_loop (ι:=Nat) (fun ii=>[(0,.int .i64 ((m:Int))),(5,.pointer (some ⟨g1,0,none⟩)),(6,.pointer (some ⟨g7,0,none⟩)),(11,.slice lp l.length lc),(12,.int .i64 ((l.length:Int))),(13,.int .i64 ((ii:Int)))]) (fun ii wx=>(ii≤l.length)∧S wx [Ob gb4 (.cells (nbV (ofTo m (l.take ii))) 5 (0,0)),Ob g7 (.cells #[.int .i64 ((m:Int)),.slice (some ⟨gb4,0,none⟩) ((longN m)) ((longN m))] 137 (0,0)),Ob g1 (.cells #[.int .i64 0] 30 (0,0)),Rw 3 1 lp l.length lc (fl intL l),Old w (fps [Rw 3 1 lp l.length lc (fl intL l)])]) (fun ii=>l.length - ii) (0) ⟨rfl,rfl,rfl,rfl,rfl,rfl,trivial⟩ ⟨Nat.zero_le _,(H11.takes [1,0,2,3,4] (by decide))⟩ ?_
 rintro ii wq12 ⟨hii,H13⟩
 replace H13:S wq12 [Ob gb4 (.cells (nbV (ofTo m (l.take ii))) 5 (0,0)),Ob g7 (.cells #[.int .i64 ((m:Int)),.slice (some ⟨gb4,0,none⟩) ((longN m)) ((longN m))] 137 (0,0)),Ob g1 (.cells #[.int .i64 0] 30 (0,0)),Rw 3 1 lp l.length lc (fl intL l),Old w (fps [Rw 3 1 lp l.length lc (fl intL l)])]:=H13
 refine g_weak [(0,.int .i64 ((m:Int))),(5,.pointer (some ⟨g1,0,none⟩)),(6,.pointer (some ⟨g7,0,none⟩)),(11,.slice lp l.length lc),(12,.int .i64 ((l.length:Int))),(13,.int .i64 ((ii:Int)))] ⟨rfl,rfl,rfl,rfl,rfl,rfl,trivial⟩ ?_
 refine g_seq ?_
 refine g_region ?_
 refine l_of (s_val (v:=.bool (decide (((ii:Int):Int)<(l.length:Int)))) (wt0 rfl) rfl rfl (x_bin rfl rfl rfl b_lss) ?_)
 refine g_nil ?_
 refine g_then ?_
 refine g_seq ?_
 by_cases hb14:((ii:Int):Int)<(l.length:Int)
 · skip
   refine g_cond_t rfl (decide_eq_true hb14) ?_
   refine g_skip ?_
   refine g_then ?_
   refine g_seq ?_
   refine g_block ?_
   refine g_seq ?_
   refine g_region ?_
   refine l_of (s_val (v:=.pointer ((lp).map fun q=>q.add (ii * 1))) (wt0 rfl) rfl rfl (x_idxR ii (H13.rwReads (k:=3) rfl) rfl rfl rfl Tryz.underlying59 sz3 (by omega)) ?_)
   have hlq:=(H13.rwReads (k:=3) rfl).lenL intE
   obtain ⟨x15,hx15⟩:=ex_at (l:=l) (j:=ii) (by omega)
   clear hlq
   have hxq9:=hl x15 (List.mem_of_getElem? hx15)
   refine l_of (s_val (v:=.int .i64 x15) (wt0 rfl) rfl rfl (x_loadR1 ii (H13.rwReads (k:=3) rfl) (by omega) rfl rfl Tryz.underlying3 rfl (intE.flAt1 hx15 rfl)) ?_)
   refine l_of (s_val (v:=.int .i64 x15) (wt0 rfl) rfl rfl (x_assign rfl rfl) ?_)
   refine g_nil ?_
   refine g_then ?_
   refine g_seq ?_
   refine g_region ?_
   refine l_of (s_val (v:=.int .i64 x15) (wt0 rfl) rfl rfl (x_move rfl rfl) ?_)
   refine l_of (s_val (v:=.bool (decide ((x15:Int)<0))) (wt0 rfl) rfl rfl (x_bin rfl rfl rfl b_lss) ?_)
   refine l_of (s_val (v:=.bool (decide ((x15:Int)<0))) (wt0 rfl) rfl rfl (x_move rfl rfl) ?_)
   refine l_of (s_val (v:=.int .i64 x15) (wt1 rfl rfl rfl rfl (decide_eq_false (by omega))) rfl rfl (x_move rfl rfl) ?_)
   refine l_of (s_val (v:=.int .i64 ((m:Int))) (wt1 rfl rfl rfl rfl (decide_eq_false (by omega))) rfl rfl (x_move rfl rfl) ?_)
   refine l_of (s_val (v:=.bool (decide (((m:Int):Int)≤x15))) (wt1 rfl rfl rfl rfl (decide_eq_false (by omega))) rfl rfl (x_bin rfl rfl rfl b_geq) ?_)
   refine l_of (s_val (v:=.bool (decide (((m:Int):Int)≤x15))) (wt0 rfl) rfl rfl (x_pick_f rfl rfl (decide_eq_false (by omega)) rfl) ?_)
   refine l_of (s_call (wt0 rfl) (x_call' rfl rfl cl112) (fail_r _ _ (decide_eq_false (by omega)) _) ?_)
   rintro _ wq16 ⟨rfl,H17⟩
   replace H17:S wq16 [Ob gb4 (.cells (nbV (ofTo m (l.take ii))) 5 (0,0)),Ob g7 (.cells #[.int .i64 ((m:Int)),.slice (some ⟨gb4,0,none⟩) ((longN m)) ((longN m))] 137 (0,0)),Ob g1 (.cells #[.int .i64 0] 30 (0,0)),Rw 3 1 lp l.length lc (fl intL l),Old w (fps [Rw 3 1 lp l.length lc (fl intL l)])]:=H13.absorb (new:=[]) H17
   refine b_ret rfl rfl ?_
   refine g_nil ?_
   refine g_then ?_
   refine g_seq ?_
   refine g_region ?_
   refine l_of (s_val (v:=.agg #[.int .i64 ((m:Int)),.slice (some ⟨gb4,0,none⟩) ((longN m)) ((longN m))]) (wt0 rfl) rfl rfl (x_loadA H17 1 rfl rfl Tryz.underlying137 rfl sz137 rfl rfl rfl) ?_)
   refine l_of (s_val (v:=.int .i64 x15) (wt0 rfl) rfl rfl (x_move rfl rfl) ?_)
   have hxr9:=hl x15 (List.mem_of_getElem? hx15)
   have hhs18:=has_b m gb4 (longN m) (longN m) x15.toNat ((ofTo m (l.take ii)).getD (x15.toNat / 8) 0) wq16 (getD_lt (ofTo_lt m _) _) (by unfold longN; omega) (by omega) (H17.cell (k:=0) rfl (nbV_at (by rw [ofTo_len]; unfold longN; omega)))
   rw [show ((x15.toNat:Nat):Int)=x15 from by omega,of_no hl hd hx15] at hhs18
   refine l_of (s_call (wt0 rfl) (x_call' rfl rfl cl113) (hhs18) ?_)
   rintro _ wq19 ⟨rfl,H20⟩
   replace H20:S wq19 [Ob gb4 (.cells (nbV (ofTo m (l.take ii))) 5 (0,0)),Ob g7 (.cells #[.int .i64 ((m:Int)),.slice (some ⟨gb4,0,none⟩) ((longN m)) ((longN m))] 137 (0,0)),Ob g1 (.cells #[.int .i64 0] 30 (0,0)),Rw 3 1 lp l.length lc (fl intL l),Old w (fps [Rw 3 1 lp l.length lc (fl intL l)])]:=H17.absorb (new:=[]) H20
   refine b_ret rfl rfl ?_
   refine l_of (s_call (wt0 rfl) (x_call' rfl rfl cl112) (fail_r _ _ rfl _) ?_)
   rintro _ wq21 ⟨rfl,H22⟩
   replace H22:S wq21 [Ob gb4 (.cells (nbV (ofTo m (l.take ii))) 5 (0,0)),Ob g7 (.cells #[.int .i64 ((m:Int)),.slice (some ⟨gb4,0,none⟩) ((longN m)) ((longN m))] 137 (0,0)),Ob g1 (.cells #[.int .i64 0] 30 (0,0)),Rw 3 1 lp l.length lc (fl intL l),Old w (fps [Rw 3 1 lp l.length lc (fl intL l)])]:=H20.absorb (new:=[]) H22
   refine b_ret rfl rfl ?_
   refine g_nil ?_
   refine g_then ?_
   refine g_weak [(0,.int .i64 ((m:Int))),(5,.pointer (some ⟨g1,0,none⟩)),(6,.pointer (some ⟨g7,0,none⟩)),(8,.int .i64 x15),(11,.slice lp l.length lc),(12,.int .i64 ((l.length:Int))),(13,.int .i64 ((ii:Int)))] ⟨rfl,rfl,rfl,rfl,rfl,rfl,rfl,trivial⟩ ?_
   refine g_region ?_
   refine l_of (s_val (v:=.agg #[.int .i64 ((m:Int)),.slice (some ⟨gb4,0,none⟩) ((longN m)) ((longN m))]) (wt0 rfl) rfl rfl (x_loadA H22 1 rfl rfl Tryz.underlying137 rfl sz137 rfl rfl rfl) ?_)
   refine l_of (s_val (v:=.int .i64 x15) (wt0 rfl) rfl rfl (x_move rfl rfl) ?_)
   have hst23:=set_b m gb4 (longN m) x15.toNat (ofTo m (l.take ii)) (ofTo_lt m _) (by rw [ofTo_len]; exact Nat.le_refl _) (by rw [ofTo_len]; unfold longN; omega) (by omega) wq21 (H22.takes [0] (by decide))
   rw [show ((x15.toNat:Nat):Int)=x15 from by omega,ofTo_len] at hst23
   refine l_of (s_call (wt0 rfl) (x_call' rfl rfl cl114) (hst23) ?_)
   rintro _ wq24 ⟨rfl,H25⟩
   replace H25:S wq24 [Ob gb4 (.cells (nbV (bitStep (ofTo m (l.take ii)) x15.toNat)) 5 (0,0)),Ob g7 (.cells #[.int .i64 ((m:Int)),.slice (some ⟨gb4,0,none⟩) ((longN m)) ((longN m))] 137 (0,0)),Ob g1 (.cells #[.int .i64 0] 30 (0,0)),Rw 3 1 lp l.length lc (fl intL l),Old w (fps [Rw 3 1 lp l.length lc (fl intL l)])]:=H22.absorbI (new:=[Ob gb4 (.cells (nbV (bitStep (ofTo m (l.take ii)) x15.toNat)) 5 (0,0))]) [0] H25
   refine b_ret rfl rfl ?_
   refine g_nil ?_
   refine g_in ?_
   refine g_then ?_
   refine g_region ?_
   refine l_of (s_val (v:=.int .i64 (((ii+1:Nat):Int))) (wt0 rfl) rfl rfl (x_bin rfl rfl rfl (b_add (by rw [w64 (by omega)]; omega))) ?_)
   refine l_of (s_val (v:=.int .i64 (((ii+1:Nat):Int))) (wt0 rfl) rfl rfl (x_move rfl rfl) ?_)
   refine g_nil ?_
   refine g_then ?_
   refine g_round (i:=(ii)) ((ii+1)) ?_ ?_ ?_
   · exact ⟨rfl,rfl,rfl,rfl,rfl,rfl,trivial⟩
   · exact ⟨by omega,(by rw [ofTo_snoc hx15]; exact H25.takes [0,1,2,3,4] (by decide))⟩
   · (try dsimp only); omega
 · skip
   refine g_cond_f rfl (decide_eq_false hb14) ?_
   refine g_exit ?_
   refine g_then_exit ?_
   refine g_then_exit ?_
   refine g_in_hit ?_
   refine g_then ?_
   refine g_seq ?_
   refine g_region ?_
   refine l_of (s_val (v:=.pointer (some ⟨g7,1,none⟩)) (wt0 rfl) rfl rfl (x_fieldAddr rfl rfl fo137_1 rfl) ?_)
   refine l_of (s_val (v:=.slice (some ⟨gb4,0,none⟩) ((longN m)) ((longN m))) (wt0 rfl) rfl rfl (x_load1 H13 1 rfl rfl Tryz.underlying113 rfl rfl rfl) ?_)
   have hii9:l.take ii=l:=List.take_of_length_le (by omega)
   rw [hii9] at H13
   refine l_of (s_val (v:=.string ((nbS (ofTo m l)))) (wt0 rfl) rfl rfl (x_bytes (l:=(ofTo m l).map UInt8.ofNat) rfl rfl Tryz.underlying113 Tryz.underlying9 Tryz.underlying5 (by rw [List.length_map,ofTo_len]) (hc_ob (k:=0) H13 rfl (nbV_bytes (ofTo_lt m _)))) ?_)
   refine l_of (s_val (v:=.string ((nbS (ofTo m l)))) (wt0 rfl) rfl rfl (x_assign rfl rfl) ?_)
   refine l_of (s_store H13 2 (wt0 rfl) rfl rfl rfl rfl rfl sz30 rfl rfl (cs':=#[.int .i64 0]) rfl ?_)
   intro wq26 H27
   refine g_nil ?_
   refine g_then ?_
   refine g_ret ?_
   refine fin_dret ?_
   refine gl_step (by simp) cl102 (caughtb_n g1 _) ?_
   rintro _ _ wq28 ⟨⟨rfl,H29⟩,rfl⟩
   replace H29:S wq28 [Ob gb4 (.cells (nbV (ofTo m l)) 5 (0,0)),Ob g7 (.cells #[.int .i64 ((m:Int)),.slice (some ⟨gb4,0,none⟩) ((longN m)) ((longN m))] 137 (0,0)),Ob g1 (.cells #[.int .i64 0] 30 (0,0)),Rw 3 1 lp l.length lc (fl intL l),Old w (fps [Rw 3 1 lp l.length lc (fl intL l)])]:=H27.absorb (new:=[]) H29
   refine (?_:GL _ _ _ _ _ _ FrameMode.returning _)
   refine gl_ret [.tmp 4,.cell 5 30] [.string ((nbS (ofTo m l))),.int .i64 0] rfl ⟨rfl,⟨_,rfl,run_load1 Tryz.underlying30 rfl (H29.cell (k:=2) rfl rfl)⟩,trivial⟩ ?_
   exact ⟨rfl,H29.takes [3,4] (by decide)⟩
theorem newX (n:Nat) (hn:n≤4096) (w:World):Calls Tryz.prog 40 #[.int .i64 (n:Int)] w fun e w'=>e=.returned (.tuple #[.string (fieldS (List.replicate n false)),.int .i64 0])∧S w' [Old w no]:=by
 have h:=new_b (n:Int) w
 rwa [newS_f hn] at h
theorem validX (n:Nat) (s:ByteArray) (w:World):Calls Tryz.prog 41 #[.int .i64 (n:Int),.string s] w fun e w'=>e=.returned (.bool (validF (n:Int) s))∧S w' [Old w no]:=valid_b (n:Int) s w
theorem hasX (n:Nat) (l:List Bool) (i:Int) (hn:n≤4096) (hl:l.length=n) (hi:0≤i∧i<(n:Int)) (w:World):Calls Tryz.prog 153 #[.int .i64 (n:Int),.string (fieldS l),.int .i64 i] w fun e w'=>e=.returned (.tuple #[.bool (bitAt l i),.int .i64 0])∧S w' [Old w no]:=by
 have h:=has_bits n (fieldS l) i hn (Vf.fieldS hl) w
 have hln:longN l.length=(l.length+7) / 8:=rfl
 rw [(has_in (s:=fieldS l) hi).1,(has_in (s:=fieldS l) hi).2,fieldS_bit (by omega)] at h
 exact h
theorem ofX (h:List Bool) (n:Nat) (hh:h.length=n) (hn:n≤4096) (lp:Option Addr) (lc:Nat) (w:World) (HS:S w [Rw 3 1 lp ((trueIdx h).length) lc (fl intL (trueIdx h))]):Calls Tryz.prog 56 #[.int .i64 (n:Int),.slice lp (trueIdx h).length lc] w fun e w'=>e=.returned (.tuple #[.string (fieldS h),.int .i64 0])∧S w' ([Rw 3 1 lp ((trueIdx h).length) lc (fl intL (trueIdx h))]++[Old w (fps [Rw 3 1 lp ((trueIdx h).length) lc (fl intL (trueIdx h))])]):=by
 subst hh
 have hl:(trueIdx h).length≤h.length:=by unfold trueIdx; rw [List.length_map]; have:=List.length_filter_le (fun i=>h.getD i false) (List.range h.length); rw [List.length_range] at this; exact this
 have h9:=of_b h.length (trueIdx h) lp lc hn trueIdx_in (trueIdx_nodup h) (by omega) w HS
 rwa [ofTo_field] at h9
theorem fieldR (l:List Bool) (n c:Nat) (p:Option Addr) (hn:n=l.length) (hm:n≤4096) (w:World) (hr:Reads w p n c 1 (fl boolL l)):Calls Tryz.prog 21 #[.slice p n c] w fun e w'=>e=.returned (.string (fieldS l))∧S w' [Old w no]:=by
 have h:=fieldB_r l n c p hn hm w (by rw [bsV_fl]; exact hr)
 rwa [fieldT_eq] at h
theorem fullR (n:Nat) (hn:n≤4096) (w:World):Calls Tryz.prog 11 #[.int .i64 (n:Int)] w fun e w'=>e=.returned (.tuple #[.string (fieldS (List.replicate n true)),.int .i64 0])∧S w' [Old w no]:=by
 have h:=full_r (n:Int) w
 rwa [fullS_f hn] at h
end Go.Proofs.YthmmfhdpkddniaaGreatDoor
