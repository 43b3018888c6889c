import Derived.Test.YtpbjekdjebjbkaaGreatDoorFm
import Derived.Test.YtpbjekdjebjbkaaGreatDoorLh
set_option maxRecDepth 20000
set_option maxHeartbeats 4000000
set_option linter.unusedSimpArgs false
set_option linter.unusedVariables false
namespace Go.Proofs.YtpbjekdjebjbkaaGreatDoor
open Go.RowKit
theorem cl123:callable Tryz.prog 123=true:=by kernel_rfl
theorem fo111_2:foO Tryz.prog 111 2=some 2:=by kernel_rfl
theorem fo111_3:foO Tryz.prog 111 3=some 3:=by kernel_rfl
theorem sz176:szO Tryz.prog 176=some 4:=by kernel_rfl
def qR (x:Rv):Bool:=(x.intr && !x.seed) && !x.snb
def ncB (x:Rv):Bool:=!x.chk
def ncN (x:Rv):Int:=if ncB x=true then 0 else 1
def c1 (x y:Rv):Int:=if y.frm - x.frm ≠ 0 then y.frm - x.frm else if ncN x - ncN y ≠ 0 then ncN x - ncN y else if x.since - y.since ≠ 0 then x.since - y.since else x.id - y.id
noncomputable def sorted1 (l:List Rv):List Rv:=srt Rv.zero c1 (l.filter qR)
noncomputable def reg1 (l:List Rv) (slots:Int):List Rv:=(sorted1 l).take (min (sorted1 l).length (slots - 1).toNat)
noncomputable def way1 (round slots:Int) (seed:ByteArray) (l:List Rv):List Rv:=fillL slots (reg1 l slots) (optL round seed l)
theorem sorted1_len (l:List Rv):(sorted1 l).length≤l.length:=by unfold sorted1; rw [srt_len]; exact List.length_filter_le _ _
abbrev DLi0 (x:Rv):Array Value:=#[.int .i64 (x.id),.bool x.intr,.bool x.chk,.int .i64 (x.frm),.int .i64 (x.to),.int .i64 (x.lt),.int .i64 (x.since),.bool x.snb,.bool x.now,.bool x.seed]
theorem reg_s (x:Rv)  (w:World):Calls Tryz.prog 122 #[.agg (DLi0 x)] w fun e w'=>e=.returned (.bool (qR x))∧S w' [Old w no]:=by
 have H0:=S.old w
 refine enter 10 Tryz.func122 rfl rfl rfl ?_
 refine g_wk [(0,_)] ?_
 refine w_s ?_
 refine l_of (s_box H0 (wt0 rfl) rfl rfl rfl rfl ?_)
 intro g1 wq2 H3
 refine w_k3 ?_
 refine w_v (v:=.agg (DLi0 x)) (x_loadA H3 0 rfl rfl Tryz.underlying111 rfl sz111 rfl rfl rfl) ?_
 refine l_of (s_call0 H3 (wt0 rfl) (x_call' rfl rfl cl123) (wants_s x _) rfl rfl ?_)
 intro wq4 H5
 refine w_m ?_
 rcases Bool.eq_false_or_eq_true ((qW x)) with hb6 | hb6
 ·
  refine w_g hb6 (xf 7) ?_
  refine w_g hb6 (xl H5 0) ?_
  refine w_g hb6 (x_not (b:=x.snb) rfl rfl) ?_
  refine w_v (x_pick_t rfl rfl hb6 rfl) ?_
  refine w_k3 ?_
  refine fin_r [.tmp 2] [.bool (!(x.snb))] ?_
  exact ⟨by unfold qR; unfold qW at *; simp_all [tupled],H5.mask [false,true]⟩
 ·
  iterate 3 refine w_n hb6 ?_
  refine w_v (x_pick_f rfl rfl hb6 rfl) ?_
  refine w_k3 ?_
  refine fin_r [.tmp 2] [.bool false] ?_
  exact ⟨by unfold qR; unfold qW at *; simp_all [tupled],H5.mask [false,true]⟩
theorem reg_f (D:Rv→Prop):FunC Tryz.prog 122 #[] #[] (Big []) (fun x:Rv=>[x.v]) (fun x=>.bool (qR x)) D:=
 FunC.pure (by kernel_rfl) fun x _ w=>reg_s x w
theorem nch_s (x:Rv)  (w:World):Calls Tryz.prog 128 #[.agg (DLi0 x)] w fun e w'=>e=.returned (.bool (ncB x))∧S w' [Old w no]:=by
 have H0:=S.old w
 refine enter 6 Tryz.func128 rfl rfl rfl ?_
 refine g_wk [(0,_)] ?_
 refine w_s ?_
 refine l_of (s_box H0 (wt0 rfl) rfl rfl rfl rfl ?_)
 intro g1 wq2 H3
 refine w_k5 ?_
 refine w_v (x_not (b:=x.chk) rfl rfl) ?_
 refine w_k3 ?_
 refine fin_r [.tmp 2] [.bool (!(x.chk))] ?_
 exact ⟨by unfold ncB; simp [tupled],H3.mask [false,true]⟩
theorem nch_f (D:Rv→Prop):FunC Tryz.prog 128 #[] #[] (Big []) (fun x:Rv=>[x.v]) (fun x=>.bool (ncB x)) D:=
 FunC.pure (by kernel_rfl) fun x _ w=>nch_s x w
theorem byFrom_s (x:Rv)  (w:World):Calls Tryz.prog 126 #[.agg (DLi0 x)] w fun e w'=>e=.returned (.int .i64 x.frm)∧S w' [Old w no]:=by
 have H0:=S.old w
 refine enter 5 Tryz.func126 rfl rfl rfl ?_
 refine g_wk [(0,_)] ?_
 refine w_s ?_
 refine l_of (s_box H0 (wt0 rfl) rfl rfl rfl rfl ?_)
 intro g1 wq2 H3
 refine w_k8 ?_
 refine fin_r [.tmp 2] [.int .i64 (x.frm)] ?_
 exact ⟨rfl,H3.mask [false,true]⟩
theorem byFrom_f (D:Rv→Prop):FunC Tryz.prog 126 #[] #[] (Big []) (fun x:Rv=>[x.v]) (fun x=>.int .i64 (Rv.frm x)) D:=
 FunC.pure (by kernel_rfl) fun x _ w=>byFrom_s x w
theorem bySince_s (x:Rv)  (w:World):Calls Tryz.prog 130 #[.agg (DLi0 x)] w fun e w'=>e=.returned (.int .i64 x.since)∧S w' [Old w no]:=by
 have H0:=S.old w
 refine enter 5 Tryz.func130 rfl rfl rfl ?_
 refine g_wk [(0,_)] ?_
 refine w_s ?_
 refine l_of (s_box H0 (wt0 rfl) rfl rfl rfl rfl ?_)
 intro g1 wq2 H3
 refine w_k8 ?_
 refine fin_r [.tmp 2] [.int .i64 (x.since)] ?_
 exact ⟨rfl,H3.mask [false,true]⟩
theorem bySince_f (D:Rv→Prop):FunC Tryz.prog 130 #[] #[] (Big []) (fun x:Rv=>[x.v]) (fun x=>.int .i64 (Rv.since x)) D:=
 FunC.pure (by kernel_rfl) fun x _ w=>bySince_s x w
theorem way1_s (round slots:Int) (seed:ByteArray) (l:List Rv) (p:Option Addr) (n c:Nat) (hn2:n≤20) (hval:∀ x∈l,validR x=true) (hsd:seed.size≤200) (hrd:0≤round∧round≤200) (hsl:0≤slots∧slots≤100)  (w:World) (hr:Reads w p n c 10 (fl rvL l)) (ht:PowTab w):Calls Tryz.prog 120 #[.agg #[.int .i64 round,.int .i64 slots,.string seed,.slice p n c]] w fun e w'=>∃ p' c',e=.returned (.slice p' (way1 round slots seed l).length c')∧S w' ([Rw 111 10 p' (way1 round slots seed l).length c' (fl rvL (way1 round slots seed l))]++[Old w no]):=by
 have H0:=S.old w
 have hnl:=hr.lenL rvE
 have hle1a:=srt_len Rv.zero c1 (l.filter qR)
 have hle1b:=List.length_filter_le qR l
 refine enter 21 Tryz.func120 rfl rfl rfl ?_
 refine g_wk [(0,_)] ?_
 refine w_s ?_
 refine l_of (s_box H0 (wt0 rfl) rfl rfl rfl rfl ?_)
 intro g1 wq2 H3
 refine w_k2 ?_
 refine g_seq ?_
 refine g_anyY [] (fun wx=>S wx [Ob g1 (.cells #[.int .i64 round,.int .i64 slots,.string seed,.slice p n c] 176 (0,0))]) (fun wx=>S wx [Ob g1 (.cells #[.int .i64 round,.int .i64 slots,.string seed,.slice p n c] 176 (0,0))]) [] (by kernel_rfl) H3 (fun wq4 H5=>?_)
 refine y_p 0 rfl (fun _=>xf 3) ?_
 refine y_t 1 rfl (H5.mask [true,false]) (fun _ H=>xl H 0) ?_
 refine y_one (i:=2) (by kernel_rfl) rfl ?_
 refine s_cl (more_s 126 #[] #[] _) ?_
 rintro _ wq7 ⟨bl6,rfl,H8⟩
 replace H8:S _ [_,_,_]:=H5.ab (new:=[_]) H8 rfl
 refine b_ret rfl rfl ?_
 refine y_k (H8.mask [false,true,false]) (H8.mask [false,true,false]) ?_
 refine y_one (i:=3) (by kernel_rfl) rfl ?_
 refine s_cl (ahead_s 128 #[] #[] _) ?_
 rintro _ wq11 ⟨bl9,bl10,rfl,H12⟩
 replace H12:S _ [_,_,_,_,_]:=H8.ab (new:=[_,_]) H12 rfl
 refine b_ret rfl rfl ?_
 have cm1:=H12.mask [false,false,false,true,false]
 refine y_k cm1 cm1 ?_
 refine y_one (i:=4) (by kernel_rfl) rfl ?_
 refine s_cl (less_s 130 #[] #[] _) ?_
 rintro _ wq14 ⟨bl13,rfl,H15⟩
 replace H15:S _ [_,_,_,_,_,_]:=H12.ab (new:=[_]) H15 rfl
 refine b_ret rfl rfl ?_
 have cm2:=H15.mask [false,false,false,false,true,false]
 refine y_k cm2 cm2 ?_
 refine y_one (i:=5) (by kernel_rfl) rfl ?_
 refine s_cl (less_s 131 #[] #[] _) ?_
 rintro _ wq17 ⟨bl16,rfl,H18⟩
 replace H18:S _ [_,_,_,_,_,_,_]:=H15.ab (new:=[_]) H18 rfl
 refine b_ret rfl rfl ?_
 have cm3:=H18.mask [false,false,false,false,false,true,false]
 refine y_k cm3 cm3 ?_
 refine y_one (i:=6) (by kernel_rfl) rfl ?_
 refine s_b1 ze180 #[.func (.func 150) #[] #[.pointer (some ⟨bl6,0,none⟩)],.func (.func 152) #[] #[.pointer (some ⟨bl9,0,none⟩)],.func (.func 152) #[] #[.pointer (some ⟨bl13,0,none⟩)],.func (.func 152) #[] #[.pointer (some ⟨bl16,0,none⟩)]] H18 ?_
 intro g19 wq20 H21
 have cm4:=H21.mask [false,false,false,false,false,false,true,false]
 refine y_k cm4 cm4 ?_
 refine y_one (i:=7) (by kernel_rfl) rfl ?_
 refine s_cl (by_s (some ⟨g19,0,none⟩) 4 4 _) ?_
 rintro _ wq23 ⟨bl22,rfl,H24⟩
 replace H24:S _ [_,_,_,_,_,_,_,_,_]:=H21.ab (new:=[_]) H24 rfl
 refine b_ret rfl rfl ?_
 have cm5:=H24.mask [false,false,false,false,false,false,false,true,false]
 refine y_k cm5 cm5 ?_
 refine y_one (i:=8) (by kernel_rfl) rfl ?_
 have H25:S _ [_,_,_,_,_,_,_,_,_,_]:=H24.addNil
 have H26:S _ [_,_,_,_,_,_,_,_,_]:=S.big (L:=[_,_]) (H25.tk [7,0,1,2,3,4,5,6,8,9])
 have H27:S _ [_,_,_,_,_,_,_,_,_,_]:=H26.addNil
 have H28:S _ [_,_,_,_,_,_,_,_,_]:=S.big (L:=[_,_]) (H27.tk [7,0,1,2,3,4,5,6,8,9])
 have H29:S _ [_,_,_,_,_,_,_,_]:=S.big (L:=[_,_]) (H28.tk [6,0,1,2,3,4,5,7,8])
 have H30:S _ [_,_,_,_,_,_,_,_,_]:=H29.addNil
 have H31:S _ [_,_,_,_,_,_,_,_]:=S.big (L:=[_,_]) (H30.tk [6,0,1,2,3,4,5,7,8])
 have H32:S _ [_,_,_,_,_,_,_,_,_]:=H31.addNil
 have H33:S _ [_,_,_,_,_,_,_,_]:=S.big (L:=[_,_]) (H32.tk [6,0,1,2,3,4,5,7,8])
 have H34:S _ [_,_,_]:=S.big (L:=[_,_,_,_,_,_]) (H33.tk [4,5,3,2,1,0,6,7])
 have H35:S _ [_,_,_,_]:=H34.addNil
 refine s_cl (which_s l p n c (by omega) 122 #[] #[] (Big []) qR (fun _=>True) (reg_f _) 149 #[] #[.pointer (some ⟨bl22,0,none⟩)] (Big [Ob bl22 (.cells #[.slice (some ⟨g19,0,none⟩) (4) (4)] 189 (0,0)),Ob g19 (.cells #[.func (.func 150) #[] #[.pointer (some ⟨bl6,0,none⟩)],.func (.func 152) #[] #[.pointer (some ⟨bl9,0,none⟩)],.func (.func 152) #[] #[.pointer (some ⟨bl13,0,none⟩)],.func (.func 152) #[] #[.pointer (some ⟨bl16,0,none⟩)]] 180 (0,0)),(Big [Ob bl6 (.cells #[.func (.func 126) #[] #[]] 135 (0,0)),(Big [])]),(Big [Ob bl9 (.cells #[.func (.func 151) #[] #[.pointer (some ⟨bl10,0,none⟩)]] 135 (0,0)),(Big [Ob bl10 (.cells #[.func (.func 128) #[] #[]] 134 (0,0)),(Big [])])]),(Big [Ob bl13 (.cells #[.func (.func 130) #[] #[]] 135 (0,0)),(Big [])]),(Big [Ob bl16 (.cells #[.func (.func 131) #[] #[]] 135 (0,0)),(Big [])])]) c1 DV (by1_4f bl22 g19 DV 150 #[] #[.pointer (some ⟨bl6,0,none⟩)] (Big [Ob bl6 (.cells #[.func (.func 126) #[] #[]] 135 (0,0)),(Big [])]) (fun x y:Rv=>Rv.frm y - Rv.frm x) (more1_f bl6 126 #[] #[] (Big []) Rv.frm DV (byFrom_f DV) (fun x y h1 h2=>by unfold DV at h1 h2; omega)) 152 #[] #[.pointer (some ⟨bl9,0,none⟩)] (Big [Ob bl9 (.cells #[.func (.func 151) #[] #[.pointer (some ⟨bl10,0,none⟩)]] 135 (0,0)),(Big [Ob bl10 (.cells #[.func (.func 128) #[] #[]] 134 (0,0)),(Big [])])]) (fun x y:Rv=>ncN x - ncN y) (less1_f bl9 151 #[] #[.pointer (some ⟨bl10,0,none⟩)] (Big [Ob bl10 (.cells #[.func (.func 128) #[] #[]] 134 (0,0)),(Big [])]) ncN DV (ahead1_f bl10 128 #[] #[] (Big []) ncB DV (nch_f DV)) (fun x y _ _=>by unfold ncN; split <;> split <;> omega)) 152 #[] #[.pointer (some ⟨bl13,0,none⟩)] (Big [Ob bl13 (.cells #[.func (.func 130) #[] #[]] 135 (0,0)),(Big [])]) (fun x y:Rv=>Rv.since x - Rv.since y) (less1_f bl13 130 #[] #[] (Big []) Rv.since DV (bySince_f DV) (fun x y h1 h2=>by unfold DV at h1 h2; omega)) 152 #[] #[.pointer (some ⟨bl16,0,none⟩)] (Big [Ob bl16 (.cells #[.func (.func 131) #[] #[]] 135 (0,0)),(Big [])]) (fun x y:Rv=>Rv.id x - Rv.id y) (less1_f bl16 131 #[] #[] (Big []) Rv.id DV (byID_f DV) (fun x y h1 h2=>by unfold DV at h1 h2; omega))) (fun _ _=>trivial) (fun x hx=>validR_D (hval x hx)) _ (H35.tk [0,1]) (H35.staysOld (i:=3) (k1:=0) (k2:=1) rfl rfl rfl (by decide) (by decide) hr (by decide) (fun _ _ _ h=>h))) ?_
 rintro _ wq36 ⟨pw1,cw1,rfl,H37⟩
 replace H37:S _ [_,_,_,_,_]:=H35.abI (new:=[_,_,_]) [0,1] H37 rfl
 have H38:S _ [_,_,_,_,_,_,_,_,_,_]:=S.unbig (H37.tk [2,0,1,3,4])
 have H39:S _ [_,_,_,_,_,_,_,_,_,_,_]:=S.unbig (H38.tk [2,0,1,3,4,5,6,7,8,9])
 have H40:S _ [_,_,_,_,_,_,_,_,_,_,_,_]:=S.unbig (H39.tk [4,0,1,2,3,5,6,7,8,9,10])
 have H41:S _ [_,_,_,_,_,_,_,_,_,_,_,_,_]:=S.unbig (H40.tk [1,0,2,3,4,5,6,7,8,9,10,11])
 have H42:S _ [_,_,_,_,_,_,_,_,_,_,_,_,_,_]:=S.unbig (H41.tk [7,0,1,2,3,4,5,6,8,9,10,11,12])
 have H43:S _ [_,_,_,_,_,_,_,_,_,_,_,_,_,_,_]:=S.unbig (H42.tk [9,0,1,2,3,4,5,6,7,8,10,11,12,13])
 refine b_ret rfl rfl ?_
 have cm6:=H43.mask [false,false,false,false,false,false,false,false,false,false,false,false,false,true,false]
 refine y_k cm6 cm6 ?_
 refine y_p 9 rfl (fun _=>xa) ?_
 refine y_done (by kernel_rfl) ?_
 refine w_0 ?_
 refine g_seq ?_
 refine g_anyY [] (fun wx=>S wx [Ob g1 (.cells #[.int .i64 round,.int .i64 slots,.string seed,.slice p n c] 176 (0,0))]) (fun wx=>S wx [Ob g1 (.cells #[.int .i64 round,.int .i64 slots,.string seed,.slice p n c] 176 (0,0))]) [] (by kernel_rfl) H43 (fun wq44 H45=>?_)
 have cm7:=H45.mask [false,false,false,false,false,false,false,false,false,false,false,false,false,true,false]
 refine y_t (v:=.agg #[.int .i64 round,.int .i64 slots,.string seed,.slice p n c]) 0 rfl cm7 (fun _ H=>x_loadA H 0 rfl rfl Tryz.underlying176 rfl sz176 rfl rfl rfl) ?_
 refine y_p 1 rfl (fun _=>xm) ?_
 refine y_p 2 rfl (fun _=>xf 1) ?_
 refine y_t 3 rfl cm7 (fun _ H=>xl H 0) ?_
 refine y_p (v:=.int .i64 (slots - 1)) 4 rfl (fun _=>x_bin rfl rfl rfl (b_sub (w64 (by omega)))) ?_
 refine y_one (i:=5) (by kernel_rfl) rfl ?_
 refine s_call0 H45 (wt0 rfl) (x_call' rfl rfl cl134) (front_s (srt Rv.zero c1 (l.filter qR)) pw1 ((srt Rv.zero c1 (l.filter qR)).length) cw1 (by omega) (slots - 1) _ (H45.rr 11)) rfl rfl ?_
 intro wq46 H47
 have cm8:=H47.mask [false,false,false,false,false,false,false,false,false,false,false,false,false,true,false]
 refine y_k cm8 cm8 ?_
 refine y_one (i:=6) (by kernel_rfl) rfl ?_
 have hct:=List.length_take_le (min (srt Rv.zero c1 (l.filter qR)).length (slots - 1).toNat) (srt Rv.zero c1 (l.filter qR))
 refine s_cl (clone_r ((srt Rv.zero c1 (l.filter qR)).take (min (srt Rv.zero c1 (l.filter qR)).length (slots - 1).toNat)) pw1 (min (srt Rv.zero c1 (l.filter qR)).length (slots - 1).toNat) cw1 (by omega) _ ((H47.rr 11).takeL rvE (min (srt Rv.zero c1 (l.filter qR)).length (slots - 1).toNat) (Nat.min_le_left _ _))) ?_
 rintro _ wq48 ⟨pk1,ck1,rfl,H49⟩
 replace H49:S _ [_,_,_,_,_,_,_,_,_,_,_,_,_,_,_,_]:=H47.ab (new:=[_]) H49 rfl
 refine b_ret rfl rfl ?_
 have cm9:=H49.mask [false,false,false,false,false,false,false,false,false,false,false,false,false,false,true,false]
 refine y_k cm9 cm9 ?_
 refine y_one (i:=7) (by kernel_rfl) rfl ?_
 refine s_cl (filled_s round slots seed hsd hrd l p n c (by omega) hval ((srt Rv.zero c1 (l.filter qR)).take (min (srt Rv.zero c1 (l.filter qR)).length (slots - 1).toNat)) pk1 ck1 (by omega) _ (H49.tk [0]) (H49.apartOld (i:=15) (k:=0) rfl rfl (by decide) hr (by decide) (fun _ _ _ h=>h)) (H49.tabA (i:=15) (k:=0) rfl rfl (by decide) ht)) ?_
 rintro _ wq50 ⟨pf1,cf1,rfl,H51⟩
 replace H51:S _ [_,_,_,_,_,_,_,_,_,_,_,_,_,_,_,_]:=H49.abI (new:=[_]) [0] H51 rfl
 refine b_ret rfl rfl ?_
 have cm10:=H51.mask [false,false,false,false,false,false,false,false,false,false,false,false,false,false,true,false]
 refine y_k cm10 cm10 ?_
 refine y_p 8 rfl (fun _=>xa) ?_
 refine y_done (by kernel_rfl) ?_
 refine w_k2 ?_
 refine fin_r [.tmp 2] [.slice pf1 ((fillL slots ((srt Rv.zero c1 (l.filter qR)).take (min (srt Rv.zero c1 (l.filter qR)).length (slots - 1).toNat)) (optL round seed l)).length) cf1] ?_
 exact ⟨_,_,rfl,H51.tk [0,15]⟩
theorem cl120:callable Tryz.prog 120=true:=by kernel_rfl
noncomputable def ids1 (round slots:Int) (seed:ByteArray) (l:List Rv):List Int:=sortI ((way1 round slots seed l).map Rv.id)
noncomputable def rndE (round slots:Int) (seed:ByteArray) (l:List Rv):Int:=if ¬ askE seed l=0 then askE seed l else if round<0∨slots<0∨100<slots then 7 else 0
noncomputable def got1 (round slots:Int) (seed:ByteArray) (l:List Rv):List Int:=if rndE round slots seed l=0 then ids1 round slots seed l else []
theorem way1_len (round slots:Int) (seed:ByteArray) (l:List Rv):(way1 round slots seed l).length≤l.length+l.length:=by
 unfold way1 reg1
 have h1:=fill_len slots ((sorted1 l).take (min (sorted1 l).length (slots - 1).toNat)) (optL round seed l)
 have h2:=optL_len round seed l
 have h3:=sorted1_len l
 rw [List.length_take] at h1
 omega
theorem decided1_s (round slots:Int) (seed:ByteArray) (l:List Rv) (p:Option Addr) (n c:Nat) (hn2:n≤20) (hval:∀ x∈l,validR x=true) (hsd:seed.size≤200) (hrd:0≤round∧round≤200) (hsl:0≤slots∧slots≤100)  (w:World) (hr:Reads w p n c 10 (fl rvL l)) (ht:PowTab w):Calls Tryz.prog 115 #[.int .i64 1,.int .i64 round,.int .i64 slots,.string seed,.slice p n c] w fun e w'=>∃ p' c',e=.returned (.slice p' (ids1 round slots seed l).length c')∧S w' ([Rw 3 1 p' (ids1 round slots seed l).length c' (fl intL (ids1 round slots seed l))]++[Old w no]):=by
 have H0:=S.old w
 have hnl:=hr.lenL rvE
 have hwl:=way1_len round slots seed l
 refine enter 22 Tryz.func115 rfl rfl rfl ?_
 refine g_wk [(0,_),(1,_),(2,_),(3,_),(4,_)] ?_
 refine w_s ?_
 refine w_k3 ?_
 refine l_of (s_call0 H0 (wt0 rfl) (x_call' rfl rfl cl118) (ways_s _) rfl rfl ?_)
 intro wq1 H2
 refine w_m ?_
 refine w_b (v:=.int .i64 0) (hb:=(b_sub (r:=0) (by decide))) ?_
 refine w_v (v:=.func (.func 120) #[] #[]) (x_indexW 0 rfl rfl rfl Tryz.underlying173 sz172 Tryz.underlying172 rfl ⟨by decide,by decide⟩ rfl) ?_
 refine w_r4 ?_
 refine w_v (v:=.agg #[.int .i64 round,.int .i64 slots,.string seed,.slice p n c]) (x_build (vs:=[.int .i64 round,.int .i64 slots,.string seed,.slice p n c]) rfl rfl (cells:=#[.int .i64 round,.int .i64 slots,.string seed,.slice p n c]) (by kernel_rfl)) ?_
 refine l_of (s_call (wt0 rfl) (x_call rfl rfl rfl cl120) (way1_s round slots seed l p n c hn2 hval hsd hrd hsl _ (H2.exReads (k:=0) rfl hr (fun _ _ _ h=>h)) (H2.tab (k:=0) rfl ht)) ?_)
 rintro _ wq3 ⟨pw,cw,rfl,H4⟩
 replace H4:S _ [_,_]:=H2.ab (new:=[_]) H4 rfl
 refine b_ret rfl rfl ?_
 refine l_of (s_cl (ids_s (way1 round slots seed l) pw ((way1 round slots seed l).length) cw (by omega) _ (H4.rr 0)) ?_)
 rintro _ wq7 ⟨p5,c6,rfl,H8⟩
 replace H8:S _ [_,_,_]:=H4.ab (new:=[_]) H8 rfl
 refine b_ret rfl rfl ?_
 refine w_k3 ?_
 refine fin_r [.tmp 10] [.slice p5 ((sortI ((way1 round slots seed l).map Rv.id)).length) c6] ?_
 exact ⟨_,_,rfl,H8.tk [0,2]⟩
end Go.Proofs.YtpbjekdjebjbkaaGreatDoor
