import Derived.Test.YtpbjekdjebjbkaaGreatDoorFm
import Derived.Test.YtpbjekdjebjbkaaGreatDoorTx
set_option maxRecDepth 20000
set_option maxHeartbeats 4000000
set_option linter.unusedSimpArgs false
set_option linter.unusedVariables false
namespace Go.Proofs.YtpbjekdjebjbkaaGreatDoor
open Go.RowKit
theorem got_at {w:World} {X:GM} {g0:Nat} (h:GOK X.A) (hg:X.g=g0) (i:Int) {v:Int} (hv:0≤i∧X.A.got[i.toNat]?=some v) (HS:S w [X.I]):Calls Tryz.prog 23 #[.pointer (some ⟨g0,0,none⟩),.int .i64 i] w fun e w'=>e=.returned (.tuple #[.int .i64 v,.int .i64 0])∧S w' ([X.I]++[Old w (fps [X.I])]):=by
 have hi:=(List.getElem?_eq_some_iff.1 hv.2).1
 rw [h.gt.1] at hi
 have h1:=got_g h hg i HS
 rw [askN_0.2 (fun x hx=>by rw [List.mem_singleton.1 hx]; omega),if_pos rfl,getD_atT hv.2] at h1
 exact h1
theorem light_s (sd:ByteArray) (l:List Pl) (p:Option Addr) (n c:Nat) (rn:Int)  (w:World):Calls Tryz.prog 5 #[.string sd,.slice p n c,.int .i64 rn] w fun e w'=>e=.returned (.bool (decide (n≤9∧sd.size≤120∧rn≤30)))∧S w' [Old w no]:=by
 have H0:=S.old w
 refine enter 19 Tryz.func5 rfl rfl rfl ?_
 refine g_wk [(0,_),(1,_),(2,_)] ?_
 refine w_s ?_
 refine w_k7 ?_
 by_cases hb1:((n:Int):Int)≤9
 ·
  refine w_g (decide_eq_true hb1) xm ?_
  refine w_g (decide_eq_true hb1) (x_lens rfl rfl Tryz.underlying9) ?_
  refine w_g (decide_eq_true hb1) (x_bin rfl rfl rfl b_leq) ?_
  refine w_v (x_pick_t rfl rfl (decide_eq_true hb1) rfl) ?_
  refine w_m ?_
  by_cases hb2:((sd.size:Int):Int)≤120
  ·
   refine w_g (decide_eq_true hb2) xm ?_
   refine w_g (decide_eq_true hb2) (x_bin rfl rfl rfl b_leq) ?_
   refine w_v (x_pick_t rfl rfl (decide_eq_true hb2) rfl) ?_
   refine w_k3 ?_
   refine fin_r [.tmp 6] [.bool (decide ((rn:Int)≤30))] ?_
   exact ⟨by first | (rw [decide_eq_true (show (n≤9∧sd.size≤120∧rn≤30) from ⟨by omega,by omega,by omega⟩)]; rfl) | (rw [decide_eq_false (show ¬ (n≤9∧sd.size≤120∧rn≤30) from fun h=>by omega)]; rfl) | (rw [decide_eq_decide.2 (show (n≤9∧sd.size≤120∧rn≤30) ↔ rn≤30 from ⟨fun h=>h.2.2,fun h=>⟨by omega,by omega,h⟩⟩)]; rfl),H0.mask [true]⟩
  ·
   iterate 2 refine w_n (decide_eq_false hb2) ?_
   refine w_v (x_pick_f rfl rfl (decide_eq_false hb2) rfl) ?_
   refine w_k3 ?_
   refine fin_r [.tmp 6] [.bool false] ?_
   exact ⟨by first | (rw [decide_eq_true (show (n≤9∧sd.size≤120∧rn≤30) from ⟨by omega,by omega,by omega⟩)]; rfl) | (rw [decide_eq_false (show ¬ (n≤9∧sd.size≤120∧rn≤30) from fun h=>by omega)]; rfl) | (rw [decide_eq_decide.2 (show (n≤9∧sd.size≤120∧rn≤30) ↔ rn≤30 from ⟨fun h=>h.2.2,fun h=>⟨by omega,by omega,h⟩⟩)]; rfl),H0.mask [true]⟩
 ·
  iterate 3 refine w_n (decide_eq_false hb1) ?_
  refine w_v (x_pick_f rfl rfl (decide_eq_false hb1) rfl) ?_
  refine w_m ?_
  iterate 2 refine w_n rfl ?_
  refine w_v (x_pick_f rfl rfl rfl rfl) ?_
  refine w_k3 ?_
  refine fin_r [.tmp 6] [.bool false] ?_
  exact ⟨by first | (rw [decide_eq_true (show (n≤9∧sd.size≤120∧rn≤30) from ⟨by omega,by omega,by omega⟩)]; rfl) | (rw [decide_eq_false (show ¬ (n≤9∧sd.size≤120∧rn≤30) from fun h=>by omega)]; rfl) | (rw [decide_eq_decide.2 (show (n≤9∧sd.size≤120∧rn≤30) ↔ rn≤30 from ⟨fun h=>h.2.2,fun h=>⟨by omega,by omega,h⟩⟩)]; rfl),H0.mask [true]⟩
theorem awake_s  (w:World):Calls Tryz.prog 6 #[] w fun e w'=>e=.returned (.bool true)∧S w' [Old w no]:=by
 have H0:=S.old w
 refine enter 50 Tryz.func6 rfl rfl rfl ?_
 refine g_wk [] ?_
 refine w_s ?_
 refine w_k3 ?_
 refine w_v (v:=.agg #[.int .i64 3,.int .i64 10]) (x_build (vs:=[.int .i64 3,.int .i64 10]) rfl rfl (cells:=#[.int .i64 3,.int .i64 10]) (by kernel_rfl)) ?_
 refine w_v (v:=.agg #[.int .i64 3,.int .i64 20]) (x_build (vs:=[.int .i64 3,.int .i64 20]) rfl rfl (cells:=#[.int .i64 3,.int .i64 20]) (by kernel_rfl)) ?_
 refine l_of (s_b1 ze27 #[.int .i64 3,.int .i64 10,.int .i64 3,.int .i64 20] H0 ?_)
 intro g1 wq2 H3
 have H4:S wq2 [Rw 27 2 (some ⟨g1,0,none⟩) 2 2 (fl plL ([(⟨3,10⟩:Pl),(⟨3,20⟩:Pl)])),Old w no]:=S.obFl plE H3 (k:=0) rfl rfl (by decide) rfl
 refine l_of (s_cl (new_any (⟨#[]⟩:ByteArray) ([(⟨3,10⟩:Pl),(⟨3,20⟩:Pl)]) (some ⟨g1,0,none⟩) 2 2 (by decide) _ (H4.rr 0)) ?_)
 rintro ee7 wq5 hor8
 rcases hor8 with ⟨rfl,hEX,H6⟩ | ⟨X,rfl,hEX,hAX,hMX,hlX,H6⟩
 ·
  exact absurd ex_newE hEX
 ·
  replace H6:S _ [_,_,_]:=H4.ab (new:=[_]) H6 rfl
  have H9:S _ [_,_,_,_]:=S.lstNil H6 RdI
  refine b_ret rfl rfl ?_
  refine w_k9 ?_
  refine w_b (v:=.bool (!decide ((0:Int)=0))) (hb:=b_neq) ?_
  refine w_m ?_
  refine w_g (nf rfl) xm ?_
  refine w_g (v:=.bool false) (nf rfl) (x_bin rfl rfl rfl (b_eqN (r:=false) Tryz.underlying29 rfl)) ?_
  refine w_v (x_pick_f rfl rfl (nf rfl) rfl) ?_
  refine w_e ?_
  refine g_cond_f rfl rfl ?_
  refine w_k4 ?_
  refine l_of (s_cl (play_g hMX 1 (by decide) (by rw [hlX]; decide) rfl (H9.tk [1,0])) ?_)
  rintro _ wq10 ⟨X2,pl2,rfl,hA2,hg2,hl2,hM2,hp2,H11⟩
  replace H11:S _ [_,_,_,_]:=H9.abI (new:=[_,_]) [1,0] H11 rfl
  refine b_ret rfl rfl ?_
  refine w_k4 ?_
  refine l_of (s_cl (got_at hM2.ok hg2 0 (v:=20) ⟨by decide,by rw [hA2,hAX]; exact (congrArg (fun l:List Int=>l[0]?) ex_got)⟩ (H11.tk [0])) ?_)
  rintro _ wq12 ⟨rfl,H13⟩
  replace H13:S _ [_,_,_,_]:=H11.abI (new:=[_]) [0] H13 rfl
  refine b_ret rfl rfl ?_
  refine w_k8 ?_
  refine l_of (s_cl (got_at hM2.ok hg2 1 (v:=10) ⟨by decide,by rw [hA2,hAX]; exact (congrArg (fun l:List Int=>l[1]?) ex_got)⟩ (H13.tk [0])) ?_)
  rintro _ wq14 ⟨rfl,H15⟩
  replace H15:S _ [_,_,_,_]:=H13.abI (new:=[_]) [0] H15 rfl
  refine b_ret rfl rfl ?_
  refine w_k10 ?_
  refine w_g (decide_eq_true rfl) xm ?_
  refine w_g (decide_eq_true rfl) (x_bin rfl rfl rfl b_eql) ?_
  refine w_v (x_pick_t rfl rfl (decide_eq_true rfl) rfl) ?_
  refine w_m ?_
  refine w_g (decide_eq_true rfl) xm ?_
  refine w_g (decide_eq_true rfl) (x_bin rfl rfl rfl b_eql) ?_
  refine w_v (x_pick_t rfl rfl (decide_eq_true rfl) rfl) ?_
  refine w_m ?_
  refine w_g (decide_eq_true rfl) xm ?_
  refine w_g (decide_eq_true rfl) (x_bin rfl rfl rfl b_eql) ?_
  refine w_v (x_pick_t rfl rfl (decide_eq_true rfl) rfl) ?_
  refine w_m ?_
  refine w_g (decide_eq_true rfl) xm ?_
  refine w_g (decide_eq_true rfl) (x_bin rfl rfl rfl b_eql) ?_
  refine w_v (x_pick_t rfl rfl (decide_eq_true rfl) rfl) ?_
  refine w_k2 ?_
  refine g_wk [(0,_)] ?_
  refine g_ret ?_
  refine fin_r [.tmp 0] [.bool (decide ((10:Int)=10))] ?_
  exact ⟨rfl,H15.mask [false,false,false,true]⟩
end Go.Proofs.YtpbjekdjebjbkaaGreatDoor
