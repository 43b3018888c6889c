import Derived.Test.YtpbjekdjebjbkaaGreatDoorFm
import Derived.Test.YtpbjekdjebjbkaaGreatDoorLb
import Derived.Test.YtpbjekdjebjbkaaGreatDoorHc
import Derived.Test.YtpbjekdjebjbkaaGreatDoorGi
import Derived.Test.YtpbjekdjebjbkaaGreatDoorGw
set_option maxRecDepth 20000
set_option maxHeartbeats 4000000
set_option linter.unusedSimpArgs false
set_option linter.unusedVariables false
namespace Go.Proofs.YtpbjekdjebjbkaaGreatDoor
open Go.RowKit
theorem cl182:callable Tryz.prog 182=true:=by kernel_rfl
theorem cl187:callable Tryz.prog 187=true:=by kernel_rfl
theorem cl76:callable Tryz.prog 76=true:=by kernel_rfl
theorem cl84:callable Tryz.prog 84=true:=by kernel_rfl
theorem fo111_6:foO Tryz.prog 111 6=some 6:=by kernel_rfl
def oldS (s:ByteArray):ByteArray:=(sumS ((⟨#[111,108,100,58]⟩:ByteArray)++s)).extract 0 20
def nameS (round:Int) (seed:ByteArray) (x:Rv):ByteArray:=(((seed++⟨#[58]⟩)++itS (round / 3))++⟨#[58]⟩)++itS x.id
def luckS (round:Int) (seed:ByteArray) (x:Rv):ByteArray:=
 if round - x.since<3 then minSt (minSt (oldS (nameS round seed x)) (oldS (nameS round seed x++⟨#[97]⟩))) (oldS (nameS round seed x++⟨#[98]⟩)) else oldS (nameS round seed x)
theorem old_h (s:ByteArray) (hs:s.size≤1048576) (w:World):Calls Tryz.prog 182 #[.string s] w fun e w'=>e=.returned (.string (oldS s))∧S w' [Old w no]:=by
 have H0:=S.old w
 have hz4:(⟨#[111,108,100,58]⟩:ByteArray).size=4:=rfl
 refine enter 7 Tryz.func182 rfl rfl rfl ?_
 refine g_wk [(0,_)] ?_
 refine w_s ?_
 refine w_k4 ?_
 have hsz1:((⟨#[111,108,100,58]⟩:ByteArray)++s).size=(⟨#[111,108,100,58]⟩:ByteArray).size+s.size:=ByteArray.size_append
 refine w_b (v:=.string ((⟨#[111,108,100,58]⟩:ByteArray)++s)) (hb:=(b_cat (by omega))) ?_
 refine l_of (s_call0 H0 (wt0 rfl) (x_call' rfl rfl cl187) (sum_h _ (by omega) _) rfl rfl ?_)
 intro wq2 H3
 have hss:=sumS_size ((⟨#[111,108,100,58]⟩:ByteArray)++s)
 refine w_v (v:=.string ((oldS s))) (x_slices 0 20 rfl rfl Tryz.underlying9 (.inl ⟨rfl,rfl⟩) (.inr ⟨_,_,_,rfl,rfl,by omega⟩) (by omega)) ?_
 refine w_k3 ?_
 refine fin_r [.tmp 2] [.string ((oldS s))] ?_
 exact ⟨rfl,H3.mask [true]⟩
theorem old_r (s:ByteArray) (hs:s.size≤1048576) (w:World):Calls Tryz.prog 76 #[.string s] w fun e w'=>e=.returned (.string (oldS s))∧S w' [Old w no]:=by
 have H0:=S.old w
 have hz4:(⟨#[111,108,100,58]⟩:ByteArray).size=4:=rfl
 refine enter 7 Tryz.func76 rfl rfl rfl ?_
 refine g_wk [(0,_)] ?_
 refine w_s ?_
 refine w_k4 ?_
 have hsz1:((⟨#[111,108,100,58]⟩:ByteArray)++s).size=(⟨#[111,108,100,58]⟩:ByteArray).size+s.size:=ByteArray.size_append
 refine w_b (v:=.string ((⟨#[111,108,100,58]⟩:ByteArray)++s)) (hb:=(b_cat (by omega))) ?_
 refine l_of (s_call0 H0 (wt0 rfl) (x_call' rfl rfl cl84) (sum_r _ (by omega) _) rfl rfl ?_)
 intro wq2 H3
 have hss:=sumS_size ((⟨#[111,108,100,58]⟩:ByteArray)++s)
 refine w_v (v:=.string ((oldS s))) (x_slices 0 20 rfl rfl Tryz.underlying9 (.inl ⟨rfl,rfl⟩) (.inr ⟨_,_,_,rfl,rfl,by omega⟩) (by omega)) ?_
 refine w_k3 ?_
 refine fin_r [.tmp 2] [.string ((oldS s))] ?_
 exact ⟨rfl,H3.mask [true]⟩
abbrev DLf0 (x:Rv):Array Value:=#[.int .i64 (x.id),.bool x.intr,.bool x.chk,.int .i64 (x.frm),.int .i64 (x.to),.int .i64 (x.lt),.int .i64 (x.since),.bool x.snb,.bool x.now,.bool x.seed]
theorem drawn1_s (b1 b2:Nat) (w0:World) (ht:PowTab w0) (seed:ByteArray) (round:Int) (hsd:seed.size≤200) (hrd:0≤round∧round≤200) (x:Rv) (hx:DV x)  (w:World) (HS:S w [Ob b1 (.cells #[.string seed] 9 (0,0)),Ob b2 (.cells #[.int .i64 round] 3 (0,0)),Old w0 no]):Calls Tryz.prog 181 #[.agg (DLf0 x),.pointer (some ⟨b1,0,none⟩),.pointer (some ⟨b2,0,none⟩)] w fun e w'=>e=.returned (.string (luckS round seed x))∧S w' ([Ob b1 (.cells #[.string seed] 9 (0,0)),Ob b2 (.cells #[.int .i64 round] 3 (0,0)),Old w0 no]++[Old w (fps [Ob b1 (.cells #[.string seed] 9 (0,0)),Ob b2 (.cells #[.int .i64 round] 3 (0,0)),Old w0 no])]):=by
 have H0:=HS.beginI
 have hz1:(⟨#[58]⟩:ByteArray).size=1:=rfl
 have hz2:(⟨#[97]⟩:ByteArray).size=1:=rfl
 have hz3:(⟨#[98]⟩:ByteArray).size=1:=rfl
 unfold DV at hx
 refine enter 34 Tryz.func181 rfl rfl rfl ?_
 refine g_wk [(0,_),(1,_),(2,_)] ?_
 refine w_s ?_
 refine l_of (s_box H0 (wt0 rfl) rfl rfl rfl rfl ?_)
 intro g1 wq2 H3
 refine w_k2 ?_
 refine g_seq ?_
 refine g_anyY [] (fun wx=>S wx [Ob g1 (.cells (DLf0 x) 111 (0,0)),Ob b1 (.cells #[.string seed] 9 (0,0)),Ob b2 (.cells #[.int .i64 round] 3 (0,0))]) (fun wx=>S wx [Ob g1 (.cells (DLf0 x) 111 (0,0)),Ob b1 (.cells #[.string seed] 9 (0,0)),Ob b2 (.cells #[.int .i64 round] 3 (0,0))]) [] (by kernel_rfl) H3 (fun wq4 H5=>?_)
 have cm1:=H5.mask [true,true,true,false,false]
 refine y_t 0 rfl cm1 (fun _ H=>xl H 1) ?_
 have hsz6:(seed++(⟨#[58]⟩:ByteArray)).size=seed.size+(⟨#[58]⟩:ByteArray).size:=ByteArray.size_append
 refine y_p (v:=.string (seed++(⟨#[58]⟩:ByteArray))) 1 rfl (fun _=>x_bin rfl rfl rfl (b_cat (by omega))) ?_
 refine y_t 2 rfl cm1 (fun _ H=>xl H 2) ?_
 refine y_p (v:=.int .i64 (round / 3)) 3 rfl (fun _=>x_bin rfl rfl rfl (b_quo (by omega) (quo64 (by omega)))) ?_
 refine y_p 7 rfl (fun _=>xf 0) ?_
 refine y_t 8 rfl cm1 (fun _ H=>xl H 0) ?_
 refine y_one (i:=4) (by kernel_rfl) rfl ?_
 refine s_cl (itoa_s (round / 3) (by omega) (by omega) _ (H5.tab (k:=3) rfl ht)) ?_
 rintro _ wq8 ⟨rfl,H9⟩
 replace H9:=H5.ab0 H9
 have hit7:=itS_size (n:=round / 3) (by omega) (by omega)
 refine b_ret rfl rfl ?_
 have cm2:=H9.mask [true,true,true,false,false]
 refine y_k cm2 cm2 ?_
 have hsz10:((seed++(⟨#[58]⟩:ByteArray))++(itS (round / 3))).size=(seed++(⟨#[58]⟩:ByteArray)).size+(itS (round / 3)).size:=ByteArray.size_append
 refine y_p (v:=.string ((seed++(⟨#[58]⟩:ByteArray))++(itS (round / 3)))) 5 rfl (fun _=>x_bin rfl rfl rfl (b_cat (by omega))) ?_
 have hsz11:(((seed++(⟨#[58]⟩:ByteArray))++(itS (round / 3)))++(⟨#[58]⟩:ByteArray)).size=((seed++(⟨#[58]⟩:ByteArray))++(itS (round / 3))).size+(⟨#[58]⟩:ByteArray).size:=ByteArray.size_append
 refine y_p (v:=.string (((seed++(⟨#[58]⟩:ByteArray))++(itS (round / 3)))++(⟨#[58]⟩:ByteArray))) 6 rfl (fun _=>x_bin rfl rfl rfl (b_cat (by omega))) ?_
 refine y_one (i:=9) (by kernel_rfl) rfl ?_
 refine s_cl (itoa_s x.id (by omega) (by omega) _ (H9.tab (k:=3) rfl ht)) ?_
 rintro _ wq13 ⟨rfl,H14⟩
 replace H14:=H9.ab0 H14
 have hit12:=itS_size (n:=x.id) (by omega) (by omega)
 refine b_ret rfl rfl ?_
 have cm3:=H14.mask [true,true,true,false,false]
 refine y_k cm3 cm3 ?_
 have hsz15:((((seed++(⟨#[58]⟩:ByteArray))++(itS (round / 3)))++(⟨#[58]⟩:ByteArray))++(itS x.id)).size=(((seed++(⟨#[58]⟩:ByteArray))++(itS (round / 3)))++(⟨#[58]⟩:ByteArray)).size+(itS x.id).size:=ByteArray.size_append
 refine y_p (v:=.string ((((seed++(⟨#[58]⟩:ByteArray))++(itS (round / 3)))++(⟨#[58]⟩:ByteArray))++(itS x.id))) 10 rfl (fun _=>x_bin rfl rfl rfl (b_cat (by omega))) ?_
 refine y_p 11 rfl (fun _=>xa) ?_
 refine y_done (by kernel_rfl) ?_
 refine w_k3 ?_
 refine l_of (s_call0 H14 (wt0 rfl) (x_call' rfl rfl cl182) (old_h ((((seed++(⟨#[58]⟩:ByteArray))++(itS (round / 3)))++(⟨#[58]⟩:ByteArray))++(itS x.id)) (by omega) _) rfl rfl ?_)
 intro wq16 H17
 refine w_k7 ?_
 refine w_b (v:=.int .i64 (round - x.since)) (hb:=(b_sub (w64 (by omega)))) ?_
 refine w_k2 ?_
 by_cases hb18:(round - x.since:Int)<3
 ·
  refine g_ct hb18 ?_
  refine w_k3 ?_
  have hsz19:(((((seed++(⟨#[58]⟩:ByteArray))++(itS (round / 3)))++(⟨#[58]⟩:ByteArray))++(itS x.id))++(⟨#[97]⟩:ByteArray)).size=((((seed++(⟨#[58]⟩:ByteArray))++(itS (round / 3)))++(⟨#[58]⟩:ByteArray))++(itS x.id)).size+(⟨#[97]⟩:ByteArray).size:=ByteArray.size_append
  refine w_b (v:=.string (((((seed++(⟨#[58]⟩:ByteArray))++(itS (round / 3)))++(⟨#[58]⟩:ByteArray))++(itS x.id))++(⟨#[97]⟩:ByteArray))) (hb:=(b_cat (by omega))) ?_
  refine l_of (s_call0 H17 (wt0 rfl) (x_call' rfl rfl cl182) (old_h (((((seed++(⟨#[58]⟩:ByteArray))++(itS (round / 3)))++(⟨#[58]⟩:ByteArray))++(itS x.id))++(⟨#[97]⟩:ByteArray)) (by omega) _) rfl rfl ?_)
  intro wq20 H21
  refine w_m ?_
  have hsz22:(((((seed++(⟨#[58]⟩:ByteArray))++(itS (round / 3)))++(⟨#[58]⟩:ByteArray))++(itS x.id))++(⟨#[98]⟩:ByteArray)).size=((((seed++(⟨#[58]⟩:ByteArray))++(itS (round / 3)))++(⟨#[58]⟩:ByteArray))++(itS x.id)).size+(⟨#[98]⟩:ByteArray).size:=ByteArray.size_append
  refine w_b (v:=.string (((((seed++(⟨#[58]⟩:ByteArray))++(itS (round / 3)))++(⟨#[58]⟩:ByteArray))++(itS x.id))++(⟨#[98]⟩:ByteArray))) (hb:=(b_cat (by omega))) ?_
  refine l_of (s_call0 H21 (wt0 rfl) (x_call' rfl rfl cl182) (old_h (((((seed++(⟨#[58]⟩:ByteArray))++(itS (round / 3)))++(⟨#[58]⟩:ByteArray))++(itS x.id))++(⟨#[98]⟩:ByteArray)) (by omega) _) rfl rfl ?_)
  intro wq23 H24
  refine w_v (v:=.string ((minSt (minSt (oldS ((((seed++(⟨#[58]⟩:ByteArray))++(itS (round / 3)))++(⟨#[58]⟩:ByteArray))++(itS x.id))) (oldS (((((seed++(⟨#[58]⟩:ByteArray))++(itS (round / 3)))++(⟨#[58]⟩:ByteArray))++(itS x.id))++(⟨#[97]⟩:ByteArray)))) (oldS (((((seed++(⟨#[58]⟩:ByteArray))++(itS (round / 3)))++(⟨#[58]⟩:ByteArray))++(itS x.id))++(⟨#[98]⟩:ByteArray)))))) (x_min3S rfl rfl rfl rfl) ?_
  refine w_k7 ?_
  refine fin_r [.tmp 4] [.string ((minSt (minSt (oldS ((((seed++(⟨#[58]⟩:ByteArray))++(itS (round / 3)))++(⟨#[58]⟩:ByteArray))++(itS x.id))) (oldS (((((seed++(⟨#[58]⟩:ByteArray))++(itS (round / 3)))++(⟨#[58]⟩:ByteArray))++(itS x.id))++(⟨#[97]⟩:ByteArray)))) (oldS (((((seed++(⟨#[58]⟩:ByteArray))++(itS (round / 3)))++(⟨#[58]⟩:ByteArray))++(itS x.id))++(⟨#[98]⟩:ByteArray)))))] ?_
  exact ⟨by unfold luckS nameS; rw [if_pos hb18]; rfl,H24.tk [1,2,3,4]⟩
 ·
  refine g_cf hb18 ?_
  refine w_k7 ?_
  refine fin_r [.tmp 4] [.string ((oldS ((((seed++(⟨#[58]⟩:ByteArray))++(itS (round / 3)))++(⟨#[58]⟩:ByteArray))++(itS x.id))))] ?_
  exact ⟨by unfold luckS nameS; rw [if_neg hb18]; rfl,H17.tk [1,2,3,4]⟩
theorem drawn1_f (b1 b2:Nat) (w0:World) (ht:PowTab w0) (seed:ByteArray) (round:Int) (hsd:seed.size≤200) (hrd:0≤round∧round≤200):FunC Tryz.prog 181 #[] #[.pointer (some ⟨b1,0,none⟩),.pointer (some ⟨b2,0,none⟩)] (Big [Ob b1 (.cells #[.string seed] 9 (0,0)),Ob b2 (.cells #[.int .i64 round] 3 (0,0)),Old w0 no]) (fun x:Rv=>[x.v]) (fun x=>.string (luckS round seed x)) DV:=
 FunC.ofBig (by kernel_rfl) fun z hb w HS=>drawn1_s b1 b2 w0 ht seed round hsd hrd _ hb w HS
theorem luck_r (seed:ByteArray) (round:Int) (hsd:seed.size≤200) (hrd:0≤round∧round≤200) (x:Rv) (hx:DV x)  (w:World) (ht:PowTab w):Calls Tryz.prog 72 #[.int .i64 round,.string seed,.agg (DLf0 x)] w fun e w'=>e=.returned (.string (luckS round seed x))∧S w' [Old w no]:=by
 have H0:=S.old w
 have hz1:(⟨#[58]⟩:ByteArray).size=1:=rfl
 have hz2:(⟨#[97]⟩:ByteArray).size=1:=rfl
 have hz3:(⟨#[98]⟩:ByteArray).size=1:=rfl
 unfold DV at hx
 refine enter 36 Tryz.func72 rfl rfl rfl ?_
 refine g_wk [(0,_),(1,_),(2,_)] ?_
 refine w_s ?_
 refine l_of (s_box H0 (wt0 rfl) rfl rfl rfl rfl ?_)
 intro g1 wq2 H3
 refine w_k2 ?_
 refine g_seq ?_
 refine g_anyY [] (fun wx=>S wx [Ob g1 (.cells (DLf0 x) 111 (0,0))]) (fun wx=>S wx [Ob g1 (.cells (DLf0 x) 111 (0,0))]) [] (by kernel_rfl) H3 (fun wq4 H5=>?_)
 refine y_p 0 rfl (fun _=>xm) ?_
 have hsz6:(seed++(⟨#[58]⟩:ByteArray)).size=seed.size+(⟨#[58]⟩:ByteArray).size:=ByteArray.size_append
 refine y_p (v:=.string (seed++(⟨#[58]⟩:ByteArray))) 1 rfl (fun _=>x_bin rfl rfl rfl (b_cat (by omega))) ?_
 refine y_p 2 rfl (fun _=>xm) ?_
 refine y_p (v:=.int .i64 (round / 3)) 3 rfl (fun _=>x_bin rfl rfl rfl (b_quo (by omega) (quo64 (by omega)))) ?_
 refine y_p 7 rfl (fun _=>xf 0) ?_
 refine y_t 8 rfl (H5.mask [true,false]) (fun _ H=>xl H 0) ?_
 refine y_one (i:=4) (by kernel_rfl) rfl ?_
 refine s_cl (itoa_s (round / 3) (by omega) (by omega) _ (H5.tab (k:=1) rfl ht)) ?_
 rintro _ wq8 ⟨rfl,H9⟩
 replace H9:=H5.ab0 H9
 have hit7:=itS_size (n:=round / 3) (by omega) (by omega)
 refine b_ret rfl rfl ?_
 refine y_k (H9.mask [true,false]) (H9.mask [true,false]) ?_
 have hsz10:((seed++(⟨#[58]⟩:ByteArray))++(itS (round / 3))).size=(seed++(⟨#[58]⟩:ByteArray)).size+(itS (round / 3)).size:=ByteArray.size_append
 refine y_p (v:=.string ((seed++(⟨#[58]⟩:ByteArray))++(itS (round / 3)))) 5 rfl (fun _=>x_bin rfl rfl rfl (b_cat (by omega))) ?_
 have hsz11:(((seed++(⟨#[58]⟩:ByteArray))++(itS (round / 3)))++(⟨#[58]⟩:ByteArray)).size=((seed++(⟨#[58]⟩:ByteArray))++(itS (round / 3))).size+(⟨#[58]⟩:ByteArray).size:=ByteArray.size_append
 refine y_p (v:=.string (((seed++(⟨#[58]⟩:ByteArray))++(itS (round / 3)))++(⟨#[58]⟩:ByteArray))) 6 rfl (fun _=>x_bin rfl rfl rfl (b_cat (by omega))) ?_
 refine y_one (i:=9) (by kernel_rfl) rfl ?_
 refine s_cl (itoa_s x.id (by omega) (by omega) _ (H9.tab (k:=1) rfl ht)) ?_
 rintro _ wq13 ⟨rfl,H14⟩
 replace H14:=H9.ab0 H14
 have hit12:=itS_size (n:=x.id) (by omega) (by omega)
 refine b_ret rfl rfl ?_
 refine y_k (H14.mask [true,false]) (H14.mask [true,false]) ?_
 have hsz15:((((seed++(⟨#[58]⟩:ByteArray))++(itS (round / 3)))++(⟨#[58]⟩:ByteArray))++(itS x.id)).size=(((seed++(⟨#[58]⟩:ByteArray))++(itS (round / 3)))++(⟨#[58]⟩:ByteArray)).size+(itS x.id).size:=ByteArray.size_append
 refine y_p (v:=.string ((((seed++(⟨#[58]⟩:ByteArray))++(itS (round / 3)))++(⟨#[58]⟩:ByteArray))++(itS x.id))) 10 rfl (fun _=>x_bin rfl rfl rfl (b_cat (by omega))) ?_
 refine y_p 11 rfl (fun _=>xa) ?_
 refine y_done (by kernel_rfl) ?_
 refine w_k3 ?_
 refine l_of (s_call0 H14 (wt0 rfl) (x_call' rfl rfl cl76) (old_r ((((seed++(⟨#[58]⟩:ByteArray))++(itS (round / 3)))++(⟨#[58]⟩:ByteArray))++(itS x.id)) (by omega) _) rfl rfl ?_)
 intro wq16 H17
 refine w_k7 ?_
 refine w_b (v:=.int .i64 (round - x.since)) (hb:=(b_sub (w64 (by omega)))) ?_
 refine w_k2 ?_
 by_cases hb18:(round - x.since:Int)<3
 ·
  refine g_ct hb18 ?_
  refine w_k3 ?_
  have hsz19:(((((seed++(⟨#[58]⟩:ByteArray))++(itS (round / 3)))++(⟨#[58]⟩:ByteArray))++(itS x.id))++(⟨#[97]⟩:ByteArray)).size=((((seed++(⟨#[58]⟩:ByteArray))++(itS (round / 3)))++(⟨#[58]⟩:ByteArray))++(itS x.id)).size+(⟨#[97]⟩:ByteArray).size:=ByteArray.size_append
  refine w_b (v:=.string (((((seed++(⟨#[58]⟩:ByteArray))++(itS (round / 3)))++(⟨#[58]⟩:ByteArray))++(itS x.id))++(⟨#[97]⟩:ByteArray))) (hb:=(b_cat (by omega))) ?_
  refine l_of (s_call0 H17 (wt0 rfl) (x_call' rfl rfl cl76) (old_r (((((seed++(⟨#[58]⟩:ByteArray))++(itS (round / 3)))++(⟨#[58]⟩:ByteArray))++(itS x.id))++(⟨#[97]⟩:ByteArray)) (by omega) _) rfl rfl ?_)
  intro wq20 H21
  refine w_m ?_
  have hsz22:(((((seed++(⟨#[58]⟩:ByteArray))++(itS (round / 3)))++(⟨#[58]⟩:ByteArray))++(itS x.id))++(⟨#[98]⟩:ByteArray)).size=((((seed++(⟨#[58]⟩:ByteArray))++(itS (round / 3)))++(⟨#[58]⟩:ByteArray))++(itS x.id)).size+(⟨#[98]⟩:ByteArray).size:=ByteArray.size_append
  refine w_b (v:=.string (((((seed++(⟨#[58]⟩:ByteArray))++(itS (round / 3)))++(⟨#[58]⟩:ByteArray))++(itS x.id))++(⟨#[98]⟩:ByteArray))) (hb:=(b_cat (by omega))) ?_
  refine l_of (s_call0 H21 (wt0 rfl) (x_call' rfl rfl cl76) (old_r (((((seed++(⟨#[58]⟩:ByteArray))++(itS (round / 3)))++(⟨#[58]⟩:ByteArray))++(itS x.id))++(⟨#[98]⟩:ByteArray)) (by omega) _) rfl rfl ?_)
  intro wq23 H24
  refine w_v (v:=.string ((minSt (minSt (oldS ((((seed++(⟨#[58]⟩:ByteArray))++(itS (round / 3)))++(⟨#[58]⟩:ByteArray))++(itS x.id))) (oldS (((((seed++(⟨#[58]⟩:ByteArray))++(itS (round / 3)))++(⟨#[58]⟩:ByteArray))++(itS x.id))++(⟨#[97]⟩:ByteArray)))) (oldS (((((seed++(⟨#[58]⟩:ByteArray))++(itS (round / 3)))++(⟨#[58]⟩:ByteArray))++(itS x.id))++(⟨#[98]⟩:ByteArray)))))) (x_min3S rfl rfl rfl rfl) ?_
  refine w_k7 ?_
  refine fin_r [.tmp 6] [.string ((minSt (minSt (oldS ((((seed++(⟨#[58]⟩:ByteArray))++(itS (round / 3)))++(⟨#[58]⟩:ByteArray))++(itS x.id))) (oldS (((((seed++(⟨#[58]⟩:ByteArray))++(itS (round / 3)))++(⟨#[58]⟩:ByteArray))++(itS x.id))++(⟨#[97]⟩:ByteArray)))) (oldS (((((seed++(⟨#[58]⟩:ByteArray))++(itS (round / 3)))++(⟨#[58]⟩:ByteArray))++(itS x.id))++(⟨#[98]⟩:ByteArray)))))] ?_
  exact ⟨by unfold luckS nameS; rw [if_pos hb18]; rfl,H24.mask [false,true]⟩
 ·
  refine g_cf hb18 ?_
  refine w_k7 ?_
  refine fin_r [.tmp 6] [.string ((oldS ((((seed++(⟨#[58]⟩:ByteArray))++(itS (round / 3)))++(⟨#[58]⟩:ByteArray))++(itS x.id))))] ?_
  exact ⟨by unfold luckS nameS; rw [if_neg hb18]; rfl,H17.mask [false,true]⟩
theorem cl170:callable Tryz.prog 170=true:=by kernel_rfl
theorem fo111_9:foO Tryz.prog 111 9=some 9:=by kernel_rfl
theorem ze204:zeO Tryz.prog 204=some (.nilFunc):=by kernel_rfl
def qW (x:Rv):Bool:=x.intr && !x.seed
def cO (round:Int) (seed:ByteArray) (x y:Rv):Int:=cmpSt (luckS round seed x) (luckS round seed y)
noncomputable def optL (round:Int) (seed:ByteArray) (l:List Rv):List Rv:=srt Rv.zero (cO round seed) (l.filter qW)
theorem optL_len (round:Int) (seed:ByteArray) (l:List Rv):(optL round seed l).length≤l.length:=by unfold optL; rw [srt_len]; exact List.length_filter_le _ _
def encR (x:Rv):Array Value:=#[x.v]
theorem S.noI {w:World} {a:Item} {L:List Item} (h:S w (a :: L)):S w (a :: Big [] :: L):=by
 have h1:S w (Big [] :: a :: L):=h.addNil
 exact h1.perm (List.Perm.swap ..)
abbrev DLg0 (x:Rv):Array Value:=#[.int .i64 (x.id),.bool x.intr,.bool x.chk,.int .i64 (x.frm),.int .i64 (x.to),.int .i64 (x.lt),.int .i64 (x.since),.bool x.snb,.bool x.now,.bool x.seed]
theorem wants_s (x:Rv)  (w:World):Calls Tryz.prog 123 #[.agg (DLg0 x)] w fun e w'=>e=.returned (.bool (qW x))∧S w' [Old w no]:=by
 have H0:=S.old w
 refine enter 10 Tryz.func123 rfl rfl rfl ?_
 refine g_wk [(0,_)] ?_
 refine w_s ?_
 refine l_of (s_box H0 (wt0 rfl) rfl rfl rfl rfl ?_)
 intro g1 wq2 H3
 refine w_k6 ?_
 rcases Bool.eq_false_or_eq_true (x.intr) with hb4 | hb4
 ·
  refine w_g hb4 (xf 9) ?_
  refine w_g hb4 (xl H3 0) ?_
  refine w_g hb4 (x_not (b:=x.seed) rfl rfl) ?_
  refine w_v (x_pick_t rfl rfl hb4 rfl) ?_
  refine w_k3 ?_
  refine fin_r [.tmp 2] [.bool (!(x.seed))] ?_
  exact ⟨by unfold qW; simp [hb4,tupled],H3.mask [false,true]⟩
 ·
  iterate 3 refine w_n hb4 ?_
  refine w_v (x_pick_f rfl rfl hb4 rfl) ?_
  refine w_k3 ?_
  refine fin_r [.tmp 2] [.bool false] ?_
  exact ⟨by unfold qW; simp [hb4,tupled],H3.mask [false,true]⟩
theorem wants_f (D:Rv→Prop):FunC Tryz.prog 123 #[] #[] (Big []) (fun x:Rv=>[x.v]) (fun x=>.bool (qW x)) D:=
 FunC.pure (by kernel_rfl) fun x _ w=>wants_s x w
abbrev DLg1 (y:Rv):Array Value:=#[.int .i64 (y.id),.bool y.intr,.bool y.chk,.int .i64 (y.frm),.int .i64 (y.to),.int .i64 (y.lt),.int .i64 (y.since),.bool y.snb,.bool y.now,.bool y.seed]
theorem opt1_s (b:Nat) (gf:Nat) (figf cagf:Array Value) (X:Item) (f:Rv→ByteArray) (D:Rv→Prop) (hf:FunC Tryz.prog gf figf cagf X (fun x:Rv=>[x.v]) (fun x=>.string (f x)) D) (x y:Rv) (hx:D x) (hy:D y)  (w:World) (HS:S w [Ob b (.cells #[.func (.func gf) figf cagf] 204 (0,0)),X]):Calls Tryz.prog 169 #[.agg (DLg0 x),.agg (DLg1 y),.pointer (some ⟨b,0,none⟩)] w fun e w'=>e=.returned (.int .i64 (cmpSt (f x) (f y)))∧S w' ([Ob b (.cells #[.func (.func gf) figf cagf] 204 (0,0)),X]++[Old w (fps [Ob b (.cells #[.func (.func gf) figf cagf] 204 (0,0)),X])]):=by
 have H0:=HS.beginI
 refine enter 13 Tryz.func169 rfl rfl rfl ?_
 refine g_wk [(0,_),(1,_),(2,_)] ?_
 refine w_s ?_
 refine l_of (s_box H0 (wt0 rfl) rfl rfl rfl rfl ?_)
 intro g1 wq2 H3
 refine l_of (s_box H3 (wt0 rfl) rfl rfl rfl rfl ?_)
 intro g4 wq5 H6
 refine w_k2 ?_
 refine g_seq ?_
 refine g_anyY [] (fun wx=>S wx [Ob g4 (.cells (DLg1 y) 111 (0,0)),Ob g1 (.cells (DLg0 x) 111 (0,0)),Ob b (.cells #[.func (.func gf) figf cagf] 204 (0,0))]) (fun wx=>S wx [Ob g4 (.cells (DLg1 y) 111 (0,0)),Ob g1 (.cells (DLg0 x) 111 (0,0)),Ob b (.cells #[.func (.func gf) figf cagf] 204 (0,0))]) [] (by kernel_rfl) H6 (fun wq7 H8=>?_)
 have cm1:=H8.mask [true,true,true,false,false]
 refine y_t 0 rfl cm1 (fun _ H=>xl H 2) ?_
 refine y_t (v:=.agg (DLg0 x)) 1 rfl cm1 (fun _ H=>x_loadA H 1 rfl rfl Tryz.underlying111 rfl sz111 rfl rfl rfl) ?_
 refine y_t 3 rfl cm1 (fun _ H=>xl H 2) ?_
 refine y_t (v:=.agg (DLg1 y)) 4 rfl cm1 (fun _ H=>x_loadA H 0 rfl rfl Tryz.underlying111 rfl sz111 rfl rfl rfl) ?_
 refine y_one (i:=2) (by kernel_rfl) rfl ?_
 refine s_call (wt0 rfl) (x_call rfl rfl rfl hf.ok) (hf.does x (hx) _ (H8.tk [3])) ?_
 rintro _ wq9 ⟨rfl,H10⟩
 replace H10:S _ [_,_,_,_,_]:=H8.abI (new:=[_]) [3] H10 rfl
 refine b_ret rfl rfl ?_
 have cm2:=H10.mask [false,true,true,true,false]
 refine y_k cm2 cm2 ?_
 refine y_one (i:=5) (by kernel_rfl) rfl ?_
 refine s_call (wt0 rfl) (x_call rfl rfl rfl hf.ok) (hf.does y (hy) _ (H10.tk [0])) ?_
 rintro _ wq11 ⟨rfl,H12⟩
 replace H12:S _ [_,_,_,_,_]:=H10.abI (new:=[_]) [0] H12 rfl
 refine b_ret rfl rfl ?_
 have cm3:=H12.mask [false,true,true,true,false]
 refine y_k cm3 cm3 ?_
 refine y_one (i:=6) (by kernel_rfl) rfl ?_
 refine s_call0 H12 (wt0 rfl) (x_call' rfl rfl cl170) (compare_s (f x) (f y) _) rfl rfl ?_
 intro wq13 H14
 have cm4:=H14.mask [false,true,true,true,false]
 refine y_k cm4 cm4 ?_
 refine y_p 7 rfl (fun _=>xa) ?_
 refine y_done (by kernel_rfl) ?_
 refine w_k2 ?_
 refine fin_r [.tmp 5] [.int .i64 ((cmpSt (f x) (f y)))] ?_
 exact ⟨rfl,H14.tk [3,0,4]⟩
theorem opt1_f (b:Nat) (gf:Nat) (figf cagf:Array Value) (X:Item) (f:Rv→ByteArray) (D:Rv→Prop) (hf:FunC Tryz.prog gf figf cagf X (fun x:Rv=>[x.v]) (fun x=>.string (f x)) D):FunC Tryz.prog 169 #[] #[.pointer (some ⟨b,0,none⟩)] (Big [Ob b (.cells #[.func (.func gf) figf cagf] 204 (0,0)),X]) (fun p:Rv × Rv=>[p.1.v,p.2.v]) (fun p=>.int .i64 (cmpSt (f p.1) (f p.2))) (fun p=>D p.1∧D p.2):=
 FunC.ofBig (by kernel_rfl) fun z hb w HS=>opt1_s b gf figf cagf X f D hf _ _ hb.1 hb.2 w HS
theorem drawn_s (round:Int) (seed:ByteArray)  (w:World):Calls Tryz.prog 167 #[.int .i64 round,.string seed] w fun e w'=>∃ b1 b2,e=.returned (.func (.func 181) #[] #[.pointer (some ⟨b1,0,none⟩),.pointer (some ⟨b2,0,none⟩)])∧S w' ([Ob b1 (.cells #[.string seed] 9 (0,0)),Ob b2 (.cells #[.int .i64 round] 3 (0,0))]++[Old w no]):=by
 have H0:=S.old w
 refine enter 6 Tryz.func167 rfl rfl rfl ?_
 refine g_wk [(0,_),(1,_)] ?_
 refine w_s ?_
 refine l_of (s_box H0 (wt0 rfl) rfl rfl rfl rfl ?_)
 intro g1 wq2 H3
 refine l_of (s_box H3 (wt0 rfl) rfl rfl rfl rfl ?_)
 intro g4 wq5 H6
 refine w_k3 ?_
 refine w_v (x_makeFunc rfl rfl rfl) ?_
 refine w_k3 ?_
 refine fin_r [.tmp 4] [.func (.func 181) #[] #[.pointer (some ⟨g4,0,none⟩),.pointer (some ⟨g1,0,none⟩)]] ?_
 exact ⟨_,_,rfl,H6.tk [0,1,2]⟩
theorem values_s (q:Option Addr) (k d:Nat)  (w:World):Calls Tryz.prog 168 #[.slice q k d] w fun e w'=>∃ b,e=.returned (.func (.func 183) #[] #[.pointer (some ⟨b,0,none⟩)])∧S w' ([Ob b (.cells #[.slice q k d] 109 (0,0))]++[Old w no]):=by
 have H0:=S.old w
 refine enter 4 Tryz.func168 rfl rfl rfl ?_
 refine g_wk [(0,_)] ?_
 refine w_s ?_
 refine l_of (s_box H0 (wt0 rfl) rfl rfl rfl rfl ?_)
 intro g1 wq2 H3
 refine w_k3 ?_
 refine w_v (x_makeFunc rfl rfl rfl) ?_
 refine w_k3 ?_
 refine fin_r [.tmp 2] [.func (.func 183) #[] #[.pointer (some ⟨g1,0,none⟩)]] ?_
 exact ⟨_,rfl,H3⟩
theorem values_it {n0 b:Nat} {l:List Rv} {p:Option Addr} {n c:Nat} {Y:Item} (hn9:n≤9223372036854775807) (hYr:∀ w',S w' [Y]→Reads w' p n c 10 (fl rvL l)) :
  IterW n0 Tryz.prog 183 #[.pointer (some ⟨b,0,none⟩)] encR (Big [Ob b (.cells #[.slice p n c] 109 (0,0)),Y]) (fun pre x _=>l[pre.length]?=some x) (fun _ _=>True) (fun xs=>xs=l) (fun _=>True) (Big []):=by
 intro l1 J Jx W C0 hOk hY h0 HS
 have H0:S _ [_,_,_]:=(HS.tk [0,2]).unbig
 have hnl:=(hYr _ (H0.tk [1])).lenL rvE
 refine enter_ci 16 Tryz.func183 rfl rfl rfl ?_
 have hL:¬ LetsOut (bodyPost Tryz.prog Tryz.f183 fun e W'=>(∃ v,e=.returned v)∧((∃ xs CC,xs=l∧J xs CC∧S W' [Big [Ob b (.cells #[.slice p n c] 109 (0,0)),Y],CC])∨(∃ pre CC,True∧Jx pre CC∧S W' [Big [Ob b (.cells #[.slice p n c] 109 (0,0)),Y],CC]))):=by
  rintro ⟨_,_,⟨_,h⟩,_⟩
  cases h
 refine g_wk [(0,_),(1,_)] ?_
 refine R.g_seq ?_
 refine R.g_region ?_
 refine R.w_v (fun h=>hL h) (xl H0 0) ?_
 refine R.w_v (fun h=>hL h) x_q ?_
 refine R.w_v (fun h=>hL h) xm ?_
 refine R.g_nil ?_
 refine w_0 ?_
 refine R.g_block ?_
 refine R.g_loop (ι:=Nat × Item) (fun (i,C)=>[(0,.func (.yield l1) #[] #[]),(5,.slice p n c),(6,.int .i64 ((n:Int))),(7,.int .i64 ((i:Int)))]) (fun (i,C) wx=>(i≤n)∧(J (l.take i) C)∧S wx [Ob b (.cells #[.slice p n c] 109 (0,0)),Y,C]) (fun (i,C)=>n - i) (0,C0) ⟨rfl,rfl,rfl,rfl,trivial⟩ ⟨Nat.zero_le _,(by rw [List.take_zero]; exact h0),(H0.tk [0,1,2])⟩ ?_
 rintro ⟨i,C⟩ wq1 ⟨hi,hJ,H2⟩
 refine g_wk [(0,_),(5,_),(6,_),(7,_)] ?_
 refine R.g_seq ?_
 refine R.g_region ?_
 refine R.w_v (fun h=>hL h) (x_bin rfl rfl rfl b_lss) ?_
 refine R.g_nil ?_
 refine w_0 ?_
 refine R.g_seq ?_
 by_cases hb3:((i:Int):Int)<(n:Int)
 ·
  refine R.g_cond_t rfl (decide_eq_true hb3) ?_
  refine R.g_skip ?_
  refine w_0 ?_
  refine R.g_seq ?_
  refine R.g_block ?_
  refine R.g_seq ?_
  refine R.g_region ?_
  refine R.w_v (fun h=>hL h) (x_i i ((hYr _ (H2.tk [1])))) ?_
  obtain ⟨x4,hx4⟩:=((hYr _ (H2.tk [1]))).exL rvE i
  refine R.w_v (fun h=>hL h) (v:=.agg #[.int .i64 (x4.id),.bool x4.intr,.bool x4.chk,.int .i64 (x4.frm),.int .i64 (x4.to),.int .i64 (x4.lt),.int .i64 (x4.since),.bool x4.snb,.bool x4.now,.bool x4.seed]) (x_loadRA (vs:=rvL x4) i ((hYr _ (H2.tk [1]))) (by omega) rfl rfl Tryz.underlying111 rfl sz111 (by rfl) (rvE.flAt hx4)) ?_
  refine R.l_of rfl (fun h=>hL h) (s_alloc H2 (wt0 rfl) rfl rfl rfl ze111 ?_)
  intro g5 wq6 H7
  refine R.l_of rfl (fun h=>hL h) (s_store H7 0 (wt0 rfl) rfl rfl rfl rfl rfl sz111 rfl rfl (cs':=#[.int .i64 (x4.id),.bool x4.intr,.bool x4.chk,.int .i64 (x4.frm),.int .i64 (x4.to),.int .i64 (x4.lt),.int .i64 (x4.since),.bool x4.snb,.bool x4.now,.bool x4.seed]) rfl ?_)
  intro wq8 H9
  refine R.g_nil ?_
  refine w_0 ?_
  refine R.g_seq ?_
  refine R.g_region ?_
  refine R.w_v (fun h=>hL h) xm ?_
  refine R.w_v (fun h=>hL h) (v:=.agg #[.int .i64 (x4.id),.bool x4.intr,.bool x4.chk,.int .i64 (x4.frm),.int .i64 (x4.to),.int .i64 (x4.lt),.int .i64 (x4.since),.bool x4.snb,.bool x4.now,.bool x4.seed]) (x_loadA H9 0 rfl rfl Tryz.underlying111 rfl sz111 rfl rfl rfl) ?_
  have H10:S _ [_,_,_]:=S.noI (S.big (L:=[_,_]) (H9.tk [1,2,3]))
  refine l_yield (wt0 rfl) rfl rfl rfl rfl rfl (hY (l.take i) x4 wq8 _ C hJ (by show l[(l.take i).length]?=_; rw [List.length_take,Nat.min_eq_left (by omega)]; exact hx4) H10) ?_
  rintro _ wq11 (⟨rfl,C9,hJ9,hS2⟩ | ⟨rfl,C9,hJx,hS2⟩)
  ·
   refine ⟨_,rfl,?_⟩
   have H12:S _ [_,_,_]:=S.unbig (hS2.tk [0,2])
   refine R.w_v (fun h=>hL h) (v:=.bool false) (x_not (b:=true) rfl rfl) ?_
   refine R.g_nil ?_
   refine w_0 ?_
   refine R.g_cond_f rfl rfl ?_
   refine R.g_skip ?_
   refine w_k2 ?_
   refine R.g_region ?_
   refine R.w_v (fun h=>hL h) (v:=.int .i64 (((i+1:Nat):Int))) (x_bin rfl rfl rfl (b_add (by rw [w64 (by omega)]; omega))) ?_
   refine R.w_v (fun h=>hL h) xm ?_
   refine R.g_nil ?_
   refine w_0 ?_
   refine g_rd (i:=(i,C)) ((i+1),C9) ⟨by omega,(by rw [take_snocL hx4]; exact hJ9),(H12.tk [0,1,2])⟩
  ·
   refine ⟨_,rfl,?_⟩
   have H13:S _ [_,_,_]:=S.unbig (hS2.tk [0,2])
   refine R.w_v (fun h=>hL h) (v:=.bool true) (x_not (b:=false) rfl rfl) ?_
   refine R.g_nil ?_
   refine w_0 ?_
   refine R.g_cond_t rfl rfl ?_
   refine R.g_ret ?_
   refine w_k4 ?_
   refine fin_ret [] [] rfl trivial ?_
   exact ⟨⟨_,rfl⟩,.inr ⟨_,_,trivial,hJx,(S.big (L:=[_,_]) (H13.tk [0,1,2]))⟩⟩
 ·
  refine R.g_cond_f rfl (decide_eq_false hb3) ?_
  refine R.g_exit ?_
  refine w_k3 ?_
  refine fin_end [] [] rfl trivial ?_
  rw [List.take_of_length_le (by omega)] at hJ
  exact ⟨⟨_,rfl⟩,.inl ⟨_,_,rfl,hJ,(S.big (L:=[_,_]) (H2.tk [0,1,2]))⟩⟩
theorem optimistic_s (seed:ByteArray) (round:Int) (hsd:seed.size≤200) (hrd:0≤round∧round≤200) (l:List Rv) (p:Option Addr) (n c:Nat) (hn2:n≤20) (hval:∀ x∈l,validR x=true)  (w:World) (hr:Reads w p n c 10 (fl rvL l)) (ht:PowTab w):Calls Tryz.prog 153 #[.int .i64 round,.string seed,.slice p n c] w fun e w'=>∃ b p' c',e=.returned (.func (.func 183) #[] #[.pointer (some ⟨b,0,none⟩)])∧S w' ([Ob b (.cells #[.slice p' (optL round seed l).length c'] 109 (0,0)),Rw 111 10 p' (optL round seed l).length c' (fl rvL (optL round seed l))]++[Old w no]):=by
 have H0:=S.old w
 have hnl:=hr.lenL rvE
 refine enter 15 Tryz.func153 rfl rfl rfl ?_
 refine g_wk [(0,_),(1,_),(2,_)] ?_
 refine w_s ?_
 refine w_k5 ?_
 refine l_of (s_cl (drawn_s round seed _) ?_)
 rintro _ wq1 ⟨bs,br,rfl,H2⟩
 replace H2:S _ [_,_,_]:=H0.ab (new:=[_,_]) H2 rfl
 refine b_ret rfl rfl ?_
 refine l_of (s_alloc H2 (wt0 rfl) rfl rfl rfl ze204 ?_)
 intro g3 wq4 H5
 refine l_of (w_st #[.func (.func 181) #[] #[.pointer (some ⟨bs,0,none⟩),.pointer (some ⟨br,0,none⟩)]] H5 0 ?_)
 intro wq6 H7
 refine w_k3 ?_
 refine w_v (x_makeFunc rfl rfl rfl) ?_
 have H8:S _ [_,_]:=S.big (L:=[_,_,_]) (H7.tk [1,2,3,0])
 have H9:S _ [_]:=S.big (L:=[_,_]) (H8.tk [1,0])
 have H10:S _ [_,_]:=H9.addNil
 refine l_of (s_cl (which_s l p n c (by omega) 123 #[] #[] (Big []) qW (fun _=>True) (wants_f _) 169 #[] #[.pointer (some ⟨g3,0,none⟩)] (Big [Ob g3 (.cells #[.func (.func 181) #[] #[.pointer (some ⟨bs,0,none⟩),.pointer (some ⟨br,0,none⟩)]] 204 (0,0)),(Big [Ob bs (.cells #[.string seed] 9 (0,0)),Ob br (.cells #[.int .i64 round] 3 (0,0)),Old w no])]) (cO round seed) DV (opt1_f g3 181 #[] #[.pointer (some ⟨bs,0,none⟩),.pointer (some ⟨br,0,none⟩)] (Big [Ob bs (.cells #[.string seed] 9 (0,0)),Ob br (.cells #[.int .i64 round] 3 (0,0)),Old w no]) (luckS round seed) DV (drawn1_f bs br w ht seed round hsd hrd)) (fun _ _=>trivial) (fun x hx=>validR_D (hval x hx)) _ (H10.tk [0,1]) (fun w9 h9=>(S.unbig ((S.unbig (h9.tk [1])).tk [1])).exReads (k:=2) rfl hr (fun _ _ _ h=>h))) ?_)
 rintro _ wq11 ⟨pw,cw,rfl,H12⟩
 replace H12:S _ [_,_,_]:=H10.abI (new:=[_,_,_]) [0,1] H12 rfl
 have H13:S _ [_,_,_,_]:=S.unbig (H12.tk [2,0,1])
 have H14:S _ [_,_,_,_,_,_]:=S.unbig (H13.tk [1,0,2,3])
 refine b_ret rfl rfl ?_
 refine l_of (s_cl (values_s pw ((srt Rv.zero (cO round seed) (l.filter qW)).length) cw _) ?_)
 rintro _ wq16 ⟨bv15,rfl,H17⟩
 replace H17:S _ [_,_,_,_,_,_,_]:=H14.ab (new:=[_]) H17 rfl
 refine b_ret rfl rfl ?_
 refine w_k3 ?_
 refine fin_r [.tmp 6] [.func (.func 183) #[] #[.pointer (some ⟨bv15,0,none⟩)]] ?_
 exact ⟨_,_,_,rfl,H17.tk [0,5,3]⟩
theorem cl153:callable Tryz.prog 153=true:=by kernel_rfl
theorem cl154:callable Tryz.prog 154=true:=by kernel_rfl
theorem sz109:szO Tryz.prog 109=some 1:=by kernel_rfl
def fillT (slots:Int) (L:List Rv) (x:Rv):List Rv:=if ((L.length:Int)<slots∧x.id ∉ L.map Rv.id) then L++[x] else L
def fillL (slots:Int) (lt:List Rv) (l:List Rv):List Rv:=l.foldl (fillT slots) lt
theorem fill_snoc (slots:Int) (lt l:List Rv) (x:Rv):fillL slots lt (l++[x])=fillT slots (fillL slots lt l) x:=by unfold fillL; rw [List.foldl_append]; rfl
theorem fill_len (slots:Int) (lt:List Rv):∀ l:List Rv,(fillL slots lt l).length≤lt.length+l.length:=fun l=>by
 induction l generalizing lt with
 | nil=>exact Nat.le_refl _
 | cons x l ih =>
   have h:=ih (fillT slots lt x)
   have h2:(fillT slots lt x).length≤lt.length+1:=by unfold fillT; split <;> simp
   have e:fillL slots lt (x :: l)=fillL slots (fillT slots lt x) l:=rfl
   rw [e,List.length_cons]; omega
def TabA (w:World) (X:Item):Prop:=∀ w',S w' [X,Old w (fps [X])]→PowTab w'
theorem S.tabA {w w0:World} {L:List Item} {i k:Nat} {X:Item} (h:S w L) (hi:L[i]?=some (Old w0 no)) (hk:L[k]?=some X) (hne:i ≠ k) (ht:PowTab w0):TabA w X:=fun w' h'=>trivial
theorem filled_s (round slots:Int) (seed:ByteArray) (hsd:seed.size≤200) (hrd:0≤round∧round≤200) (l:List Rv) (p:Option Addr) (n c:Nat) (hn2:n≤20) (hval:∀ x∈l,validR x=true) (lt:List Rv) (p0:Option Addr) (c0:Nat) (hlt:lt.length≤1000)  (w:World) (HS:S w [Rw 111 10 p0 lt.length c0 (fl rvL lt)]) (hap:Apart w (Rw 111 10 p0 lt.length c0 (fl rvL lt)) p n c 10 (fl rvL l)) (hta:TabA w (Rw 111 10 p0 lt.length c0 (fl rvL lt))):Calls Tryz.prog 132 #[.agg #[.int .i64 round,.int .i64 slots,.string seed,.slice p n c],.slice p0 lt.length c0] w fun e w'=>∃ p' c',e=.returned (.slice p' (fillL slots lt (optL round seed l)).length c')∧S w' ([Rw 111 10 p' (fillL slots lt (optL round seed l)).length c' (fl rvL (fillL slots lt (optL round seed l)))]++[Old w (fps [Rw 111 10 p0 lt.length c0 (fl rvL lt)])]):=by
 have H0:=HS.beginI
 have hnl:=(hap _ H0).lenL rvE
 have hol:=optL_len round seed l
 refine enter_m 30 Tryz.func132 rfl rfl rfl ?_
 have hL:¬ LetsOut (bodyPostM (WF none) 9 Tryz.prog Tryz.f132 fun e w'=>∃ p' c',e=.returned (.slice p' (fillL slots lt (optL round seed l)).length c')∧S w' ([Rw 111 10 p' (fillL slots lt (optL round seed l)).length c' (fl rvL (fillL slots lt (optL round seed l)))]++[Old w (fps [Rw 111 10 p0 lt.length c0 (fl rvL lt)])])):=by
  rintro ⟨_,_,h⟩
  simp only [bodyPostM,reduceCtorEq,false_and,and_false,exists_false,or_false,or_self,exists_const] at h
 refine g_wk [(0,_),(1,_)] ?_
 refine R.g_seq ?_
 refine R.g_region ?_
 refine R.l_of rfl (fun h=>hL h) (s_box H0 (wt0 rfl) rfl rfl rfl rfl ?_)
 intro g1 wq2 H3
 refine R.l_of rfl (fun h=>hL h) (s_box H3 (wt0 rfl) rfl rfl rfl rfl ?_)
 intro g4 wq5 H6
 refine R.w_v (fun h=>hL h) xa ?_
 refine R.g_nil ?_
 refine w_0 ?_
 iterate 2 refine R.g_seq ?_
 refine R.g_region ?_
 refine R.w_v (fun h=>hL h) x_f ?_
 refine R.w_v (fun h=>hL h) (xl H6 1) ?_
 refine R.w_v (fun h=>hL h) x_f ?_
 refine R.w_v (fun h=>hL h) (xl H6 1) ?_
 refine R.w_v (fun h=>hL h) x_f ?_
 refine R.w_v (fun h=>hL h) (xl H6 1) ?_
 refine R.l_of rfl (fun h=>hL h) (s_call (wt0 rfl) (x_call' rfl rfl cl153) (optimistic_s seed round hsd hrd l p n c (by omega) hval _ ((hap _ (H6.tk [2,3]))) (hta _ (H6.tk [2,3]))) ?_)
 rintro _ wq10 ⟨bo7,po8,co9,rfl,H11⟩
 replace H11:S _ [_,_,_,_,_,_]:=H6.ab (new:=[_,_]) H11 rfl
 refine b_ret rfl rfl ?_
 refine R.g_nil ?_
 refine w_0 ?_
 refine R.g_block ?_
 have H12:S _ [_,_,_,_,_]:=S.big (L:=[_,_]) (H11.tk [0,1,2,3,4,5])
 have H13:S _ [_,_,_,_,_]:=H12.tk [0,1,3,2,4]
 have H14:=S.noI (H13.tk [0,1,2,3,4])
 refine g_rangeW (α:=Rv) (ι:=Nat) (encs:=encR) (base:=(Big [Ob bo7 (.cells #[.slice po8 ((optL round seed l).length) co9] 109 (0,0)),Rw 111 10 po8 ((optL round seed l).length) co9 (fl rvL (optL round seed l))])) (by omega) rfl (by kernel_rfl) (values_it (b:=bo7) (l:=(optL round seed l)) (p:=po8) (n:=(optL round seed l).length) (c:=co9) (Y:=Rw 111 10 po8 ((optL round seed l).length) co9 (fl rvL (optL round seed l))) (by omega) (fun w9 h9=>h9.rr 0)) (fun _=>rfl) rfl (fun pre Lx=>∃ (pj:Option Addr),∃ (cj:Nat),(True)∧Lx=[Ob g4 (.cells #[.slice pj ((fillL slots lt pre).length) cj] 109 (0,0)),Rw 111 10 pj ((fillL slots lt pre).length) cj (fl rvL (fillL slots lt pre)),Ob g1 (.cells #[.int .i64 round,.int .i64 slots,.string seed,.slice p n c] 176 (0,0)),Old w (fps [Rw 111 10 p0 lt.length c0 (fl rvL lt)])]) (fun pre Lx=>False) (fun p ia=>[(2,.pointer (some ⟨g1,0,none⟩)),(3,.pointer (some ⟨g4,0,none⟩)),(5,.pointer (some ⟨ia,0,none⟩))]) (fun p ia=>[Ob ia (.cells #[.int .i64 (p.id),.bool p.intr,.bool p.chk,.int .i64 (p.frm),.int .i64 (p.to),.int .i64 (p.lt),.int .i64 (p.since),.bool p.snb,.bool p.now,.bool p.seed] 111 (0,0))]) (fun _ _ _ _ _=>trivial) ⟨p0,c0,trivial,rfl⟩ H14 ?_ ?_ ?_ ?_
 ·
  rintro l1 p Ly W15 H16
  have hL:¬ LetsOut (fun (_:Exit) (_:Act) (_:World)=>False):=fun ⟨_,_,h⟩=>h
  refine g_wk [(2,_),(3,_),(13,_)] ?_
  refine R.g_region ?_
  refine R.l_of rfl (fun h=>hL h) (s_alloc H16 (wt0 rfl) rfl rfl rfl ze111 ?_)
  intro g17 wq18 H19
  refine R.l_of rfl (fun h=>hL h) (s_store H19 0 (wt0 rfl) rfl rfl rfl rfl rfl sz111 rfl rfl (cs':=#[.int .i64 (p.id),.bool p.intr,.bool p.chk,.int .i64 (p.frm),.int .i64 (p.to),.int .i64 (p.lt),.int .i64 (p.since),.bool p.snb,.bool p.now,.bool p.seed]) rfl ?_)
  intro wq20 H21
  refine R.g_nil ?_
  refine w_0 ?_
  exact rw_assign g17 ⟨rfl,rfl,rfl,trivial⟩ H21
 ·
  rintro l1 pr x ia II Kx _ W22 ⟨pj,cj,hJ,rfl⟩ hphi H23
  have H24:=S.unbig (H23.tk [3,0,1,2,4,5,6,7])
  refine g_wk [(2,_),(3,_),(5,_)] ?_
  have hfl:=fill_len slots lt pr
  have hpl:=(List.getElem?_eq_some_iff.1 hphi).1
  refine R.g_block ?_
  refine R.g_seq ?_
  refine R.g_region ?_
  refine R.w_v (fun ⟨_,_,h⟩=>h) (xl H24 4) ?_
  refine R.w_v (fun ⟨_,_,h⟩=>h) x_q ?_
  refine R.w_v (fun ⟨_,_,h⟩=>h) x_f ?_
  refine R.w_v (fun ⟨_,_,h⟩=>h) (xl H24 6) ?_
  refine R.w_v (fun ⟨_,_,h⟩=>h) (x_bin rfl rfl rfl b_lss) ?_
  refine R.w_v (fun ⟨_,_,h⟩=>h) xm ?_
  by_cases hb25:(((fillL slots lt pr).length:Int):Int)<slots
  ·
   refine R.l_of rfl (fun ⟨_,_,h⟩=>h) (s_val (v:=.slice pj ((fillL slots lt pr).length) cj) (wt1 rfl rfl rfl rfl (decide_eq_true hb25)) rfl rfl (x_load1 H24 4 rfl rfl Tryz.underlying109 rfl rfl rfl) ?_)
   refine R.l_of rfl (fun ⟨_,_,h⟩=>h) (s_val (v:=.agg #[.int .i64 (x.id),.bool x.intr,.bool x.chk,.int .i64 (x.frm),.int .i64 (x.to),.int .i64 (x.lt),.int .i64 (x.since),.bool x.snb,.bool x.now,.bool x.seed]) (wt1 rfl rfl rfl rfl (decide_eq_true hb25)) rfl rfl (x_loadA H24 0 rfl rfl Tryz.underlying111 rfl sz111 rfl rfl rfl) ?_)
   refine R.l_of rfl (fun ⟨_,_,h⟩=>h) (s_call (wt1 rfl rfl rfl rfl (decide_eq_true hb25)) (x_call' rfl rfl cl154) (has_s (fillL slots lt pr) pj ((fillL slots lt pr).length) cj (by omega) x _ (H24.rr 5)) ?_)
   rintro _ wq26 ⟨rfl,H27⟩
   replace H27:=H24.ab0 H27
   refine b_ret rfl rfl ?_
   refine R.l_of rfl (fun ⟨_,_,h⟩=>h) (s_val (v:=.bool (!((decide (x.id∈(fillL slots lt pr).map Rv.id))))) (wt1 rfl rfl rfl rfl (decide_eq_true hb25)) rfl rfl (x_not (b:=(decide (x.id∈(fillL slots lt pr).map Rv.id))) rfl rfl) ?_)
   refine R.w_v (fun ⟨_,_,h⟩=>h) (v:=.bool (!((decide (x.id∈(fillL slots lt pr).map Rv.id))))) (x_pick_t rfl rfl (decide_eq_true hb25) rfl) ?_
   refine R.g_nil ?_
   refine w_0 ?_
   rcases Bool.eq_false_or_eq_true ((decide (x.id∈(fillL slots lt pr).map Rv.id))) with hb28 | hb28
   ·
    refine R.g_cond_f rfl (neg_of hb28) ?_
    refine R.g_skip ?_
    refine w_0 ?_
    have hfs:fillL slots lt (pr++[x])=(fillL slots lt pr):=(by rw [fill_snoc]; unfold fillT; rw [if_neg (fun h=>h.2 (of_decide_eq_true hb28))])
    have H29:S wq26 [(Big [Ob bo7 (.cells #[.slice po8 ((optL round seed l).length) co9] 109 (0,0)),Rw 111 10 po8 ((optL round seed l).length) co9 (fl rvL (optL round seed l))]),II,Kx,Ob g4 (.cells #[.slice pj ((fillL slots lt (pr++[x])).length) cj] 109 (0,0)),Rw 111 10 pj ((fillL slots lt (pr++[x])).length) cj (fl rvL (fillL slots lt (pr++[x]))),Ob g1 (.cells #[.int .i64 round,.int .i64 slots,.string seed,.slice p n c] 176 (0,0)),Old w (fps [Rw 111 10 p0 lt.length c0 (fl rvL lt)])]:=by rw [hfs]; exact H27.tk [1,2,3,4,5,6,7]
    exact rs_next ⟨pj,cj,trivial,rfl⟩ H29
   ·
    refine R.g_cond_t rfl (neg_of hb28) ?_
    refine R.g_region ?_
    refine R.w_v (fun ⟨_,_,h⟩=>h) (xl H27 4) ?_
    refine R.w_v (fun ⟨_,_,h⟩=>h) (v:=.agg #[.int .i64 (x.id),.bool x.intr,.bool x.chk,.int .i64 (x.frm),.int .i64 (x.to),.int .i64 (x.lt),.int .i64 (x.since),.bool x.snb,.bool x.now,.bool x.seed]) (x_loadA H27 0 rfl rfl Tryz.underlying111 rfl sz111 rfl rfl rfl) ?_
    refine R.l_of rfl (fun ⟨_,_,h⟩=>h) (s_buildSlice H27 (wt0 rfl) rfl rfl rfl (vs:=[.agg #[.int .i64 (x.id),.bool x.intr,.bool x.chk,.int .i64 (x.frm),.int .i64 (x.to),.int .i64 (x.lt),.int .i64 (x.since),.bool x.snb,.bool x.now,.bool x.seed]]) rfl Tryz.underlying109 sz111 ze111 rfl rfl (cells:=#[.int .i64 (x.id),.bool x.intr,.bool x.chk,.int .i64 (x.frm),.int .i64 (x.to),.int .i64 (x.lt),.int .i64 (x.since),.bool x.snb,.bool x.now,.bool x.seed]) (by kernel_rfl) ?_)
    intro g30 wq31 H32
    have hln37a:=(H32.rr 6).lenL rvE
    have hln37:((fillL slots lt pr)++[x]).length=((fillL slots lt pr).length)+1:=by simp only [List.length_append,List.length_cons,List.length_nil] <;> omega
    refine R.l_of rfl (fun ⟨_,_,h⟩=>h) (s_appBn (m:=1) (l:=(fillL slots lt pr)) (l2:=[x]) rvE H32 6 (j0:=0) rfl rfl ⟨rfl,Nat.le_refl _⟩ (wt0 rfl) rfl rfl rfl rfl rfl rfl Tryz.underlying109 inf111 rfl (by decide) (by omega) ?_)
    intro p33 c34 wq35 H36
    refine R.l_of rfl (fun ⟨_,_,h⟩=>h) (s_store H36 5 (wt0 rfl) rfl rfl rfl rfl rfl sz109 rfl rfl (cs':=#[.slice p33 (((fillL slots lt pr)++[x]).length) c34]) rfl ?_)
    intro wq38 H39
    refine R.g_nil ?_
    refine w_0 ?_
    have hfs:fillL slots lt (pr++[x])=((fillL slots lt pr)++[x]):=(by rw [fill_snoc]; unfold fillT; rw [if_pos ⟨hb25,of_decide_eq_false hb28⟩])
    have H40:S wq38 [(Big [Ob bo7 (.cells #[.slice po8 ((optL round seed l).length) co9] 109 (0,0)),Rw 111 10 po8 ((optL round seed l).length) co9 (fl rvL (optL round seed l))]),II,Kx,Ob g4 (.cells #[.slice p33 ((fillL slots lt (pr++[x])).length) c34] 109 (0,0)),Rw 111 10 p33 ((fillL slots lt (pr++[x])).length) c34 (fl rvL (fillL slots lt (pr++[x]))),Ob g1 (.cells #[.int .i64 round,.int .i64 slots,.string seed,.slice p n c] 176 (0,0)),Old w (fps [Rw 111 10 p0 lt.length c0 (fl rvL lt)])]:=by rw [hfs]; exact H39.tk [2,3,4,5,6,7,8]
    exact rs_next ⟨p33,c34,trivial,rfl⟩ H40
  ·
   refine R.l_of rfl (fun ⟨_,_,h⟩=>h) (s_not (wn1 rfl rfl rfl rfl (decide_eq_false hb25)) rfl rfl ?_)
   refine R.l_of rfl (fun ⟨_,_,h⟩=>h) (s_not (wn1 rfl rfl rfl rfl (decide_eq_false hb25)) rfl rfl ?_)
   refine R.l_of rfl (fun ⟨_,_,h⟩=>h) (s_not (wn1 rfl rfl rfl rfl (decide_eq_false hb25)) rfl rfl ?_)
   refine R.l_of rfl (fun ⟨_,_,h⟩=>h) (s_not (wn1 rfl rfl rfl rfl (decide_eq_false hb25)) rfl rfl ?_)
   refine R.w_v (fun ⟨_,_,h⟩=>h) (v:=.bool false) (x_pick_f rfl rfl (decide_eq_false hb25) rfl) ?_
   refine R.g_nil ?_
   refine w_0 ?_
   refine R.g_cond_f rfl rfl ?_
   refine R.g_skip ?_
   refine w_0 ?_
   have hfs:fillL slots lt (pr++[x])=(fillL slots lt pr):=(by rw [fill_snoc]; unfold fillT; rw [if_neg (fun h=>hb25 h.1)])
   have H41:S W22 [(Big [Ob bo7 (.cells #[.slice po8 ((optL round seed l).length) co9] 109 (0,0)),Rw 111 10 po8 ((optL round seed l).length) co9 (fl rvL (optL round seed l))]),II,Kx,Ob g4 (.cells #[.slice pj ((fillL slots lt (pr++[x])).length) cj] 109 (0,0)),Rw 111 10 pj ((fillL slots lt (pr++[x])).length) cj (fl rvL (fillL slots lt (pr++[x]))),Ob g1 (.cells #[.int .i64 round,.int .i64 slots,.string seed,.slice p n c] 176 (0,0)),Old w (fps [Rw 111 10 p0 lt.length c0 (fl rvL lt)])]:=by rw [hfs]; exact H24.tk [1,2,3,4,5,6,7]
   exact rs_next ⟨pj,cj,trivial,rfl⟩ H41
 ·
  rintro D xs _ W42 rfl ⟨pj,cj,hJ,rfl⟩ H43
  refine w_k2 ?_
  refine R.g_seq ?_
  refine R.g_region ?_
  refine R.w_v (fun h=>hL h) (xl H43 2) ?_
  refine R.w_v (fun h=>hL h) xa ?_
  refine R.g_nil ?_
  refine w_0 ?_
  refine R.g_ret ?_
  refine fin_mark H43 0 rfl [.tmp 4] [.slice pj ((fillL slots lt (optL round seed l)).length) cj] rfl (fun wq44 H45=>⟨⟨rfl,trivial⟩,?_⟩)
  exact ⟨_,_,rfl,H45.tk [3,5]⟩
 · rintro D pr _ W _ h; exact h.elim
end Go.Proofs.YtpbjekdjebjbkaaGreatDoor
