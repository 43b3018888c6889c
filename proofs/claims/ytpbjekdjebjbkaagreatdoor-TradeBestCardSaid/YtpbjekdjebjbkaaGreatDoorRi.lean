import Derived.Test.YtpbjekdjebjbkaaGreatDoorFm
import Derived.Test.YtpbjekdjebjbkaaGreatDoorRe
set_option maxRecDepth 20000
set_option maxHeartbeats 4000000
set_option linter.unusedSimpArgs false
set_option linter.unusedVariables false
namespace Go.Proofs.YtpbjekdjebjbkaaGreatDoor
open Go.RowKit
def whatE (rt:Int) (W:List Int):List Int:=List.replicate W.length (rt / (W.length:Int))
theorem rep_snoc (n:Nat) (x:Int):List.replicate n x++[x]=List.replicate (n+1) x:=by rw [List.replicate_succ']
def mirW (f:Int→Int) (s:(List Int × List Int) × Int) (i:Int):(List Int × List Int) × Int:=((s.1.1++[i],s.1.2++[min (f i) s.2]),s.2 - min (f i) s.2)
structure TyW where
 who:List Int
 what:List Int
 left:Int
 stop:Bool
def tyW (m:Int→Int) (s:TyW) (i:Int):TyW:=if s.stop=true then s else if s.left<m i then { s with stop:=true } else ⟨s.who++[i],s.what++[m i],s.left - m i,false⟩
theorem tyW_stay (m:Int→Int):∀ (l:List Int) {s:TyW},s.stop=true→l.foldl (tyW m) s=s
 | [],s,_=>rfl
 | a :: l,s,h=>by
   rw [List.foldl_cons,show tyW m s a=s from by unfold tyW; rw [if_pos h]]
   exact tyW_stay m l h
theorem tyW_brk {m:Int→Int} {l:List Int} {i:Nat} {x:Int} {s s0:TyW} (hx:l[i]?=some x) (hs:s=(l.take i).foldl (tyW m) s0) (hst:s.stop=false) (hlt:s.left<m x):l.foldl (tyW m) s0={ s with stop:=true }:=by
 have e:l=l.take (i+1)++l.drop (i+1):=(List.take_append_drop _ _).symm
 rw [e,take_snocT hx,List.foldl_append,List.foldl_append,← hs]
 show (l.drop (i+1)).foldl (tyW m) (tyW m s x)=_
 rw [show tyW m s x={ s with stop:=true } from by unfold tyW; rw [if_neg (by rw [hst]; decide),if_pos hlt]]
 exact tyW_stay m _ rfl
theorem oth_nodup (n:Nat) (me:Int):(othV n me).Nodup:=by
 unfold othV
 refine List.Pairwise.sublist List.filter_sublist ?_
 rw [List.pairwise_map]
 exact List.pairwise_lt_range.imp fun h e=>by omega
theorem fairR_len {sd:ByteArray} {n:Nat} {G:List (List (List Int))} {me:Int} (h:n≤9):(fairR sd n G me).length≤40:=by
 unfold fairR
 rw [sortI_len,List.length_map]
 have hl:((othV n me).map (rvR G me)).length≤19:=by rw [List.length_map]; have:=othV_len n me; omega
 rw [← way1_eq hl (by rw [rvR_ids]; exact oth_nodup n me)]
 have h1:=way1_len (G.length:Int) 4 ((sd++⟨#[32]⟩)++itS me) ((othV n me).map (rvR G me))
 have h2:=othV_len n me
 rw [List.length_map] at h1
 omega
theorem chosen_1 (g:Nat) (sd:ByteArray) (lp:Option Addr) (lc:Nat) (ps:List Pl) (rp:Option Addr) (rc:Nat) (gs:List Rd) (xp:Option Addr) (xc:Nat) (xs:List (Ro Int)) (yp:Option Addr) (yc:Nat) (ys:List (Ro Int)) (pl:List Rd) (hG:GsOK ps.length pl gs) (hgl:gs.length≤200) (hnp:ps.length≤9) (h2p:2≤ps.length) (hsd:sd.size≤100) (me:Int) (hme:0≤me∧me<ps.length) (pm:Pl) (hpm:ps[me.toNat]?=some pm) (rt:Int) (hrt:pm.rt=rt) (hr0:0≤rt∧rt≤1000000) (hst:pm.st=1)  (w:World) (HS:S w [Ob g (.cells #[.string sd,.slice lp ps.length lc,.slice rp gs.length rc,.slice xp xs.length xc,.slice yp ys.length yc] 66 (0,0)),Rw 27 2 lp ps.length lc (fl plL ps),Rw 39 1 rp gs.length rc (fl rowL gs),(Pool pl),Rw 43 1 xp xs.length xc (fl rowL xs),(Lst BwI xs)]):Calls Tryz.prog 34 #[.pointer (some ⟨g,0,none⟩),.int .i64 me] w fun e w'=>∃ p' c' q' d',e=.returned (.tuple #[.slice p' (fairR sd ps.length (gs.map Rd.v) me).length c',.slice q' (whatE rt (fairR sd ps.length (gs.map Rd.v) me)).length d'])∧S w' ([Rw 3 1 p' (fairR sd ps.length (gs.map Rd.v) me).length c' (fl intL (fairR sd ps.length (gs.map Rd.v) me)),Rw 3 1 q' (whatE rt (fairR sd ps.length (gs.map Rd.v) me)).length d' (fl intL (whatE rt (fairR sd ps.length (gs.map Rd.v) me))),Ob g (.cells #[.string sd,.slice lp ps.length lc,.slice rp gs.length rc,.slice xp xs.length xc,.slice yp ys.length yc] 66 (0,0)),Rw 27 2 lp ps.length lc (fl plL ps),Rw 39 1 rp gs.length rc (fl rowL gs),(Pool pl),Rw 43 1 xp xs.length xc (fl rowL xs),(Lst BwI xs)]++[Old w (fps [Ob g (.cells #[.string sd,.slice lp ps.length lc,.slice rp gs.length rc,.slice xp xs.length xc,.slice yp ys.length yc] 66 (0,0)),Rw 27 2 lp ps.length lc (fl plL ps),Rw 39 1 rp gs.length rc (fl rowL gs),(Pool pl),Rw 43 1 xp xs.length xc (fl rowL xs),(Lst BwI xs)])]):=by
 have H0:=HS.beginI
 have hwl:=fairR_len (sd:=sd) (G:=gs.map Rd.v) (me:=me) hnp
 have hmp:=(List.getElem?_eq_some_iff.1 hpm).1
 refine enter 141 Tryz.func34 rfl rfl rfl ?_
 refine g_wk [(0,_),(1,_)] ?_
 refine w_s ?_
 refine w_r2 ?_
 refine w_es ?_
 refine w_r3 ?_
 refine w_1 H0 0 ?_
 refine w_m ?_
 refine w_v (v:=.pointer ((lp).map fun q=>q.add (((me).toNat) * 2))) (x_i ((me).toNat) (H0.rr 1)) ?_
 refine w_v (v:=.pointer ((lp).map fun q=>q.add (((me).toNat) * 2+1))) (ex_cast (x_fieldAddrG (m:=((me).toNat) * 2) ((H0.rr 1).some (by omega)) rfl rfl fo27_1) rfl) ?_
 obtain ⟨x1,hx1⟩:=(H0.rr 1).exL plE ((me).toNat)
 have hxqx1:x1=pm:=Option.some.inj (hx1.symm.trans hpm)
 have hxsx1:x1.st=1:=by rw [hxqx1]; exact hst
 have hxrx1:x1.rt=rt:=by rw [hxqx1]; exact hrt
 refine w_v (v:=.int .i64 rt) (ex_cast (x_loadF1 (i:=1) (j:=((me).toNat)) plE (H0.rr 1) hx1 rfl rfl Tryz.underlying3 rfl rfl) (by rw [hxrx1])) ?_
 refine w_a ?_
 refine w_es ?_
 refine w_a ?_
 have H2:S w [Rw 3 1 none 0 0 (fl intL ([]:List Int)),Ob g (.cells #[.string sd,.slice lp ps.length lc,.slice rp gs.length rc,.slice xp xs.length xc,.slice yp ys.length yc] 66 (0,0)),Rw 27 2 lp ps.length lc (fl plL ps),Rw 39 1 rp gs.length rc (fl rowL gs),(Pool pl),Rw 43 1 xp xs.length xc (fl rowL xs),(Lst BwI xs),Old w (fps [Ob g (.cells #[.string sd,.slice lp ps.length lc,.slice rp gs.length rc,.slice xp xs.length xc,.slice yp ys.length yc] 66 (0,0)),Rw 27 2 lp ps.length lc (fl plL ps),Rw 39 1 rp gs.length rc (fl rowL gs),(Pool pl),Rw 43 1 xp xs.length xc (fl rowL xs),(Lst BwI xs)])]:=H0.nilFl 3 1 intL
 refine w_a ?_
 refine w_e ?_
 refine g_seq ?_
 refine w_s ?_
 refine w_r3 ?_
 refine w_1 H2 1 ?_
 refine w_m ?_
 refine w_v (v:=.pointer ((lp).map fun q=>q.add (((me).toNat) * 2))) (x_i ((me).toNat) (H2.rr 2)) ?_
 refine w_v (v:=.pointer ((lp).map fun q=>q.add (((me).toNat) * 2+0))) (ex_cast (x_fieldAddrG (m:=((me).toNat) * 2) ((H2.rr 2).some (by omega)) rfl rfl fo27_0) rfl) ?_
 refine w_v (v:=.int .i64 1) (ex_cast (x_loadF1 (i:=0) (j:=((me).toNat)) plE (H2.rr 2) hx1 rfl rfl Tryz.underlying3 rfl rfl) (by rw [hxsx1])) ?_
 refine w_e ?_
 refine w_bs ?_
 refine w_b ?_
 refine w_a ?_
 refine w_e ?_
 refine g_ct rfl ?_
 refine g_region ?_
 refine w_r2 ?_
 refine l_of (s_cl (fair_r g sd lp lc ps rp rc gs xp xc xs yp yc ys pl hG hgl hnp hsd me hme _ (H2.tk [1,3,4])) ?_)
 rintro _ wq5 ⟨pd3,cd4,rfl,H6⟩
 replace H6:S _ [_,_,_,_,_,_,_,_,_]:=H2.abI (new:=[_,_,_,_]) [1,3,4] H6 rfl
 refine b_ret rfl rfl ?_
 refine w_a ?_
 refine g_nil ?_
 refine g_in ?_
 refine g_then ?_
 refine g_seq ?_
 refine w_s ?_
 refine w_m ?_
 refine w_v (v:=.int .i64 (((fairR sd ps.length (gs.map Rd.v) me).length:Int))) x_q ?_
 refine w_m ?_
 refine w_e ?_
 refine g_block ?_
 refine g_loop (ι:=Nat × Option Addr × Nat × List Int) (fun (i,qq,dq,wt9)=>[(6,.int .i64 rt),(7,.slice pd3 ((fairR sd ps.length (gs.map Rd.v) me).length) cd4),(8,.slice qq wt9.length dq),(128,.int .i64 (((fairR sd ps.length (gs.map Rd.v) me).length:Int))),(129,.int .i64 ((i:Int)))]) (fun (i,qq,dq,wt9) wx=>(i≤(fairR sd ps.length (gs.map Rd.v) me).length)∧(wt9=List.replicate i (rt / ((fairR sd ps.length (gs.map Rd.v) me).length:Int)))∧S wx [Rw 3 1 qq wt9.length dq (fl intL wt9),Rw 3 1 pd3 ((fairR sd ps.length (gs.map Rd.v) me).length) cd4 (fl intL (fairR sd ps.length (gs.map Rd.v) me)),Ob g (.cells #[.string sd,.slice lp ps.length lc,.slice rp gs.length rc,.slice xp xs.length xc,.slice yp ys.length yc] 66 (0,0)),Rw 27 2 lp ps.length lc (fl plL ps),Rw 39 1 rp gs.length rc (fl rowL gs),(Pool pl),Rw 43 1 xp xs.length xc (fl rowL xs),(Lst BwI xs),Old w (fps [Ob g (.cells #[.string sd,.slice lp ps.length lc,.slice rp gs.length rc,.slice xp xs.length xc,.slice yp ys.length yc] 66 (0,0)),Rw 27 2 lp ps.length lc (fl plL ps),Rw 39 1 rp gs.length rc (fl rowL gs),(Pool pl),Rw 43 1 xp xs.length xc (fl rowL xs),(Lst BwI xs)])]) (fun (i,qq,dq,wt9)=>((fairR sd ps.length (gs.map Rd.v) me).length) - i) (0,none,0,[]) ⟨rfl,rfl,rfl,rfl,rfl,trivial⟩ ⟨Nat.zero_le _,rfl,(H6.tk [4,0,1,5,2,3,6,7,8])⟩ ?_
 rintro ⟨i,qq,dq,wt9⟩ wq7 ⟨hi,hwt,H8⟩
 refine g_wk [(6,_),(7,_),(8,_),(128,_),(129,_)] ?_
 have hwtl:wt9.length=i:=(by rw [hwt]; exact List.length_replicate)
 refine w_s ?_
 refine w_b ?_
 refine w_e ?_
 refine g_seq ?_
 by_cases hb9:((i:Int):Int)<((fairR sd ps.length (gs.map Rd.v) me).length:Int)
 ·
  refine g_ct hb9 ?_
  refine w_ht ?_
  refine g_seq ?_
  refine g_block ?_
  refine g_region ?_
  refine w_r3 ?_
  refine w_v (v:=.int .i64 (((fairR sd ps.length (gs.map Rd.v) me).length:Int))) x_q ?_
  refine w_b (v:=.int .i64 ((rt / ((fairR sd ps.length (gs.map Rd.v) me).length:Int)))) (hb:=(b_quo (by omega) (quo64 (by omega)))) ?_
  refine l_of (s_buildSlice H8 (wt0 rfl) rfl rfl rfl (vs:=[.int .i64 ((rt / ((fairR sd ps.length (gs.map Rd.v) me).length:Int)))]) rfl Tryz.underlying43 sz3 ze3 rfl rfl (cells:=#[.int .i64 ((rt / ((fairR sd ps.length (gs.map Rd.v) me).length:Int)))]) (by kernel_rfl) ?_)
  intro g10 wq11 H12
  have hln17a:=(H12.rr 1).lenL intE
  have hln17:(wt9++[(rt / ((fairR sd ps.length (gs.map Rd.v) me).length:Int))]).length=wt9.length+1:=by simp only [List.length_append,List.length_cons,List.length_nil] <;> omega
  refine l_of (s_appBn (m:=1) (l:=wt9) (l2:=[(rt / ((fairR sd ps.length (gs.map Rd.v) me).length:Int))]) intE H12 1 (j0:=0) rfl rfl ⟨rfl,Nat.le_refl _⟩ (wt0 rfl) rfl rfl rfl rfl rfl rfl Tryz.underlying43 inf3 rfl (by decide) (by omega) ?_)
  intro p13 c14 wq15 H16
  refine w_a ?_
  refine g_nil ?_
  refine g_in ?_
  refine g_then ?_
  refine g_region ?_
  refine w_b (v:=.int .i64 (((i+1:Nat):Int))) (hb:=(b_add (by rw [w64 (by omega)]; omega))) ?_
  refine w_m ?_
  refine w_e ?_
  refine g_rd (i:=(i,qq,dq,wt9)) ((i+1),p13,c14,(wt9++[(rt / ((fairR sd ps.length (gs.map Rd.v) me).length:Int))])) ⟨by omega,(by rw [hwt,rep_snoc]),(H16.tk [1,2,3,4,5,6,7,8,9])⟩
 ·
  refine g_cf hb9 ?_
  refine g_exit ?_
  iterate 2 refine g_then_exit ?_
  refine g_in_hit ?_
  refine g_then ?_
  refine w_s ?_
  refine w_r4 ?_
  refine w_e ?_
  refine g_ret ?_
  refine fin_r [.tmp 4,.tmp 5] [.slice pd3 ((fairR sd ps.length (gs.map Rd.v) me).length) cd4,.slice qq wt9.length dq] ?_
  have hie:i=(fairR sd ps.length (gs.map Rd.v) me).length:=by omega
  have hv:whatE rt (fairR sd ps.length (gs.map Rd.v) me)=wt9:=by unfold whatE; rw [hwt,hie]
  rw [hv]
  exact ⟨_,_,_,_,rfl,H8.tk [1,0,2,3,4,5,6,7,8]⟩
theorem chosen_3 (g:Nat) (sd:ByteArray) (lp:Option Addr) (lc:Nat) (ps:List Pl) (rp:Option Addr) (rc:Nat) (gs:List Rd) (xp:Option Addr) (xc:Nat) (xs:List (Ro Int)) (yp:Option Addr) (yc:Nat) (ys:List (Ro Int)) (pl:List Rd) (hG:GsOK ps.length pl gs) (hgl:gs.length≤200) (hnp:ps.length≤9) (h2p:2≤ps.length) (hsd:sd.size≤100) (me:Int) (hme:0≤me∧me<ps.length) (pm:Pl) (hpm:ps[me.toNat]?=some pm) (rt:Int) (hrt:pm.rt=rt) (hr0:0≤rt∧rt≤1000000) (hst:pm.st=3)  (w:World) (HS:S w [Ob g (.cells #[.string sd,.slice lp ps.length lc,.slice rp gs.length rc,.slice xp xs.length xc,.slice yp ys.length yc] 66 (0,0)),Rw 27 2 lp ps.length lc (fl plL ps),Rw 39 1 rp gs.length rc (fl rowL gs),(Pool pl),Rw 43 1 xp xs.length xc (fl rowL xs),(Lst BwI xs)]):Calls Tryz.prog 34 #[.pointer (some ⟨g,0,none⟩),.int .i64 me] w fun e w'=>∃ p' c' q' d',e=.returned (.tuple #[.slice p' (othV ps.length me).length c',.slice q' (whatE rt (othV ps.length me)).length d'])∧S w' ([Rw 3 1 p' (othV ps.length me).length c' (fl intL (othV ps.length me)),Rw 3 1 q' (whatE rt (othV ps.length me)).length d' (fl intL (whatE rt (othV ps.length me))),Ob g (.cells #[.string sd,.slice lp ps.length lc,.slice rp gs.length rc,.slice xp xs.length xc,.slice yp ys.length yc] 66 (0,0)),Rw 27 2 lp ps.length lc (fl plL ps),Rw 39 1 rp gs.length rc (fl rowL gs),(Pool pl),Rw 43 1 xp xs.length xc (fl rowL xs),(Lst BwI xs)]++[Old w (fps [Ob g (.cells #[.string sd,.slice lp ps.length lc,.slice rp gs.length rc,.slice xp xs.length xc,.slice yp ys.length yc] 66 (0,0)),Rw 27 2 lp ps.length lc (fl plL ps),Rw 39 1 rp gs.length rc (fl rowL gs),(Pool pl),Rw 43 1 xp xs.length xc (fl rowL xs),(Lst BwI xs)])]):=by
 have H0:=HS.beginI
 have hwl:=othV_len ps.length me
 have hmp:=(List.getElem?_eq_some_iff.1 hpm).1
 refine enter 141 Tryz.func34 rfl rfl rfl ?_
 refine g_wk [(0,_),(1,_)] ?_
 refine w_s ?_
 refine w_r2 ?_
 refine w_es ?_
 refine w_r3 ?_
 refine w_1 H0 0 ?_
 refine w_m ?_
 refine w_v (v:=.pointer ((lp).map fun q=>q.add (((me).toNat) * 2))) (x_i ((me).toNat) (H0.rr 1)) ?_
 refine w_v (v:=.pointer ((lp).map fun q=>q.add (((me).toNat) * 2+1))) (ex_cast (x_fieldAddrG (m:=((me).toNat) * 2) ((H0.rr 1).some (by omega)) rfl rfl fo27_1) rfl) ?_
 obtain ⟨x1,hx1⟩:=(H0.rr 1).exL plE ((me).toNat)
 have hxqx1:x1=pm:=Option.some.inj (hx1.symm.trans hpm)
 have hxsx1:x1.st=3:=by rw [hxqx1]; exact hst
 have hxrx1:x1.rt=rt:=by rw [hxqx1]; exact hrt
 refine w_v (v:=.int .i64 rt) (ex_cast (x_loadF1 (i:=1) (j:=((me).toNat)) plE (H0.rr 1) hx1 rfl rfl Tryz.underlying3 rfl rfl) (by rw [hxrx1])) ?_
 refine w_a ?_
 refine w_es ?_
 refine w_a ?_
 have H2:S w [Rw 3 1 none 0 0 (fl intL ([]:List Int)),Ob g (.cells #[.string sd,.slice lp ps.length lc,.slice rp gs.length rc,.slice xp xs.length xc,.slice yp ys.length yc] 66 (0,0)),Rw 27 2 lp ps.length lc (fl plL ps),Rw 39 1 rp gs.length rc (fl rowL gs),(Pool pl),Rw 43 1 xp xs.length xc (fl rowL xs),(Lst BwI xs),Old w (fps [Ob g (.cells #[.string sd,.slice lp ps.length lc,.slice rp gs.length rc,.slice xp xs.length xc,.slice yp ys.length yc] 66 (0,0)),Rw 27 2 lp ps.length lc (fl plL ps),Rw 39 1 rp gs.length rc (fl rowL gs),(Pool pl),Rw 43 1 xp xs.length xc (fl rowL xs),(Lst BwI xs)])]:=H0.nilFl 3 1 intL
 refine w_a ?_
 refine w_e ?_
 refine g_seq ?_
 refine w_s ?_
 refine w_r3 ?_
 refine w_1 H2 1 ?_
 refine w_m ?_
 refine w_v (v:=.pointer ((lp).map fun q=>q.add (((me).toNat) * 2))) (x_i ((me).toNat) (H2.rr 2)) ?_
 refine w_v (v:=.pointer ((lp).map fun q=>q.add (((me).toNat) * 2+0))) (ex_cast (x_fieldAddrG (m:=((me).toNat) * 2) ((H2.rr 2).some (by omega)) rfl rfl fo27_0) rfl) ?_
 refine w_v (v:=.int .i64 3) (ex_cast (x_loadF1 (i:=0) (j:=((me).toNat)) plE (H2.rr 2) hx1 rfl rfl Tryz.underlying3 rfl rfl) (by rw [hxsx1])) ?_
 refine w_e ?_
 refine w_bs ?_
 refine w_b ?_
 refine w_a ?_
 refine w_e ?_
 refine g_cond_f rfl (by decide) ?_
 refine w_s ?_
 refine w_b ?_
 refine w_a ?_
 refine w_e ?_
 refine g_ct rfl ?_
 refine g_region ?_
 refine w_r2 ?_
 refine l_of (s_cl (others_r g sd lp lc ps rp rc gs xp xc xs yp yc ys hnp me _ (H2.tk [1])) ?_)
 rintro _ wq5 ⟨po3,co4,rfl,H6⟩
 replace H6:S _ [_,_,_,_,_,_,_,_,_]:=H2.abI (new:=[_,_]) [1] H6 rfl
 have hol:=othV_len ps.length me
 refine b_ret rfl rfl ?_
 refine w_a ?_
 refine g_nil ?_
 refine g_in ?_
 refine g_then ?_
 refine g_seq ?_
 refine w_s ?_
 refine w_m ?_
 refine w_v (v:=.int .i64 (((othV ps.length me).length:Int))) x_q ?_
 refine w_m ?_
 refine w_e ?_
 refine g_block ?_
 refine g_loop (ι:=Nat × Option Addr × Nat × List Int) (fun (i,qq,dq,wt9)=>[(6,.int .i64 rt),(7,.slice po3 ((othV ps.length me).length) co4),(8,.slice qq wt9.length dq),(128,.int .i64 (((othV ps.length me).length:Int))),(129,.int .i64 ((i:Int)))]) (fun (i,qq,dq,wt9) wx=>(i≤(othV ps.length me).length)∧(wt9=List.replicate i (rt / ((othV ps.length me).length:Int)))∧S wx [Rw 3 1 qq wt9.length dq (fl intL wt9),Rw 3 1 po3 ((othV ps.length me).length) co4 (fl intL (othV ps.length me)),Ob g (.cells #[.string sd,.slice lp ps.length lc,.slice rp gs.length rc,.slice xp xs.length xc,.slice yp ys.length yc] 66 (0,0)),Rw 27 2 lp ps.length lc (fl plL ps),Rw 39 1 rp gs.length rc (fl rowL gs),(Pool pl),Rw 43 1 xp xs.length xc (fl rowL xs),(Lst BwI xs),Old w (fps [Ob g (.cells #[.string sd,.slice lp ps.length lc,.slice rp gs.length rc,.slice xp xs.length xc,.slice yp ys.length yc] 66 (0,0)),Rw 27 2 lp ps.length lc (fl plL ps),Rw 39 1 rp gs.length rc (fl rowL gs),(Pool pl),Rw 43 1 xp xs.length xc (fl rowL xs),(Lst BwI xs)])]) (fun (i,qq,dq,wt9)=>((othV ps.length me).length) - i) (0,none,0,[]) ⟨rfl,rfl,rfl,rfl,rfl,trivial⟩ ⟨Nat.zero_le _,rfl,(H6.tk [2,0,1,3,4,5,6,7,8])⟩ ?_
 rintro ⟨i,qq,dq,wt9⟩ wq7 ⟨hi,hwt,H8⟩
 refine g_wk [(6,_),(7,_),(8,_),(128,_),(129,_)] ?_
 have hwtl:wt9.length=i:=(by rw [hwt]; exact List.length_replicate)
 refine w_s ?_
 refine w_b ?_
 refine w_e ?_
 refine g_seq ?_
 by_cases hb9:((i:Int):Int)<((othV ps.length me).length:Int)
 ·
  refine g_ct hb9 ?_
  refine w_ht ?_
  refine g_seq ?_
  refine g_block ?_
  refine g_region ?_
  refine w_r3 ?_
  refine w_v (v:=.int .i64 (((othV ps.length me).length:Int))) x_q ?_
  refine w_b (v:=.int .i64 ((rt / ((othV ps.length me).length:Int)))) (hb:=(b_quo (by omega) (quo64 (by omega)))) ?_
  refine l_of (s_buildSlice H8 (wt0 rfl) rfl rfl rfl (vs:=[.int .i64 ((rt / ((othV ps.length me).length:Int)))]) rfl Tryz.underlying43 sz3 ze3 rfl rfl (cells:=#[.int .i64 ((rt / ((othV ps.length me).length:Int)))]) (by kernel_rfl) ?_)
  intro g10 wq11 H12
  have hln17a:=(H12.rr 1).lenL intE
  have hln17:(wt9++[(rt / ((othV ps.length me).length:Int))]).length=wt9.length+1:=by simp only [List.length_append,List.length_cons,List.length_nil] <;> omega
  refine l_of (s_appBn (m:=1) (l:=wt9) (l2:=[(rt / ((othV ps.length me).length:Int))]) intE H12 1 (j0:=0) rfl rfl ⟨rfl,Nat.le_refl _⟩ (wt0 rfl) rfl rfl rfl rfl rfl rfl Tryz.underlying43 inf3 rfl (by decide) (by omega) ?_)
  intro p13 c14 wq15 H16
  refine w_a ?_
  refine g_nil ?_
  refine g_in ?_
  refine g_then ?_
  refine g_region ?_
  refine w_b (v:=.int .i64 (((i+1:Nat):Int))) (hb:=(b_add (by rw [w64 (by omega)]; omega))) ?_
  refine w_m ?_
  refine w_e ?_
  refine g_rd (i:=(i,qq,dq,wt9)) ((i+1),p13,c14,(wt9++[(rt / ((othV ps.length me).length:Int))])) ⟨by omega,(by rw [hwt,rep_snoc]),(H16.tk [1,2,3,4,5,6,7,8,9])⟩
 ·
  refine g_cf hb9 ?_
  refine g_exit ?_
  iterate 2 refine g_then_exit ?_
  refine g_in_hit ?_
  refine g_then ?_
  refine w_s ?_
  refine w_r4 ?_
  refine w_e ?_
  refine g_ret ?_
  refine fin_r [.tmp 4,.tmp 5] [.slice po3 ((othV ps.length me).length) co4,.slice qq wt9.length dq] ?_
  have hie:i=(othV ps.length me).length:=by omega
  have hv:whatE rt (othV ps.length me)=wt9:=by unfold whatE; rw [hwt,hie]
  rw [hv]
  exact ⟨_,_,_,_,rfl,H8.tk [1,0,2,3,4,5,6,7,8]⟩
theorem chosen_4 (g:Nat) (sd:ByteArray) (lp:Option Addr) (lc:Nat) (ps:List Pl) (rp:Option Addr) (rc:Nat) (gs:List Rd) (xp:Option Addr) (xc:Nat) (xs:List (Ro Int)) (yp:Option Addr) (yc:Nat) (ys:List (Ro Int)) (pl:List Rd) (hG:GsOK ps.length pl gs) (hgl:gs.length≤200) (hnp:ps.length≤9) (h2p:2≤ps.length) (hsd:sd.size≤100) (me:Int) (hme:0≤me∧me<ps.length) (pm:Pl) (hpm:ps[me.toNat]?=some pm) (rt:Int) (hrt:pm.rt=rt) (hr0:0≤rt∧rt≤1000000) (hst:pm.st=4)  (w:World) (HS:S w [Ob g (.cells #[.string sd,.slice lp ps.length lc,.slice rp gs.length rc,.slice xp xs.length xc,.slice yp ys.length yc] 66 (0,0)),Rw 27 2 lp ps.length lc (fl plL ps),Rw 39 1 rp gs.length rc (fl rowL gs),(Pool pl),Rw 43 1 xp xs.length xc (fl rowL xs),(Lst BwI xs)]):Calls Tryz.prog 34 #[.pointer (some ⟨g,0,none⟩),.int .i64 me] w fun e w'=>∃ p' c' q' d',e=.returned (.tuple #[.slice p' (keepS (grimB (gs.map Rd.v) me) (othV ps.length me)).length c',.slice q' (whatE rt (keepS (grimB (gs.map Rd.v) me) (othV ps.length me))).length d'])∧S w' ([Rw 3 1 p' (keepS (grimB (gs.map Rd.v) me) (othV ps.length me)).length c' (fl intL (keepS (grimB (gs.map Rd.v) me) (othV ps.length me))),Rw 3 1 q' (whatE rt (keepS (grimB (gs.map Rd.v) me) (othV ps.length me))).length d' (fl intL (whatE rt (keepS (grimB (gs.map Rd.v) me) (othV ps.length me)))),Ob g (.cells #[.string sd,.slice lp ps.length lc,.slice rp gs.length rc,.slice xp xs.length xc,.slice yp ys.length yc] 66 (0,0)),Rw 27 2 lp ps.length lc (fl plL ps),Rw 39 1 rp gs.length rc (fl rowL gs),(Pool pl),Rw 43 1 xp xs.length xc (fl rowL xs),(Lst BwI xs)]++[Old w (fps [Ob g (.cells #[.string sd,.slice lp ps.length lc,.slice rp gs.length rc,.slice xp xs.length xc,.slice yp ys.length yc] 66 (0,0)),Rw 27 2 lp ps.length lc (fl plL ps),Rw 39 1 rp gs.length rc (fl rowL gs),(Pool pl),Rw 43 1 xp xs.length xc (fl rowL xs),(Lst BwI xs)])]):=by
 have H0:=HS.beginI
 have hwl:=Nat.le_trans (keepS_len (grimB (gs.map Rd.v) me) (othV ps.length me)) (othV_len ps.length me)
 have hmp:=(List.getElem?_eq_some_iff.1 hpm).1
 refine enter 141 Tryz.func34 rfl rfl rfl ?_
 refine g_wk [(0,_),(1,_)] ?_
 refine w_s ?_
 refine w_r2 ?_
 refine w_es ?_
 refine w_r3 ?_
 refine w_1 H0 0 ?_
 refine w_m ?_
 refine w_v (v:=.pointer ((lp).map fun q=>q.add (((me).toNat) * 2))) (x_i ((me).toNat) (H0.rr 1)) ?_
 refine w_v (v:=.pointer ((lp).map fun q=>q.add (((me).toNat) * 2+1))) (ex_cast (x_fieldAddrG (m:=((me).toNat) * 2) ((H0.rr 1).some (by omega)) rfl rfl fo27_1) rfl) ?_
 obtain ⟨x1,hx1⟩:=(H0.rr 1).exL plE ((me).toNat)
 have hxqx1:x1=pm:=Option.some.inj (hx1.symm.trans hpm)
 have hxsx1:x1.st=4:=by rw [hxqx1]; exact hst
 have hxrx1:x1.rt=rt:=by rw [hxqx1]; exact hrt
 refine w_v (v:=.int .i64 rt) (ex_cast (x_loadF1 (i:=1) (j:=((me).toNat)) plE (H0.rr 1) hx1 rfl rfl Tryz.underlying3 rfl rfl) (by rw [hxrx1])) ?_
 refine w_a ?_
 refine w_es ?_
 refine w_a ?_
 have H2:S w [Rw 3 1 none 0 0 (fl intL ([]:List Int)),Ob g (.cells #[.string sd,.slice lp ps.length lc,.slice rp gs.length rc,.slice xp xs.length xc,.slice yp ys.length yc] 66 (0,0)),Rw 27 2 lp ps.length lc (fl plL ps),Rw 39 1 rp gs.length rc (fl rowL gs),(Pool pl),Rw 43 1 xp xs.length xc (fl rowL xs),(Lst BwI xs),Old w (fps [Ob g (.cells #[.string sd,.slice lp ps.length lc,.slice rp gs.length rc,.slice xp xs.length xc,.slice yp ys.length yc] 66 (0,0)),Rw 27 2 lp ps.length lc (fl plL ps),Rw 39 1 rp gs.length rc (fl rowL gs),(Pool pl),Rw 43 1 xp xs.length xc (fl rowL xs),(Lst BwI xs)])]:=H0.nilFl 3 1 intL
 refine w_a ?_
 refine w_e ?_
 refine g_seq ?_
 refine w_s ?_
 refine w_r3 ?_
 refine w_1 H2 1 ?_
 refine w_m ?_
 refine w_v (v:=.pointer ((lp).map fun q=>q.add (((me).toNat) * 2))) (x_i ((me).toNat) (H2.rr 2)) ?_
 refine w_v (v:=.pointer ((lp).map fun q=>q.add (((me).toNat) * 2+0))) (ex_cast (x_fieldAddrG (m:=((me).toNat) * 2) ((H2.rr 2).some (by omega)) rfl rfl fo27_0) rfl) ?_
 refine w_v (v:=.int .i64 4) (ex_cast (x_loadF1 (i:=0) (j:=((me).toNat)) plE (H2.rr 2) hx1 rfl rfl Tryz.underlying3 rfl rfl) (by rw [hxsx1])) ?_
 refine w_e ?_
 refine w_bs ?_
 refine w_b ?_
 refine w_a ?_
 refine w_e ?_
 refine g_cond_f rfl (by decide) ?_
 refine w_s ?_
 refine w_b ?_
 refine w_a ?_
 refine w_e ?_
 refine g_cond_f rfl (by decide) ?_
 refine w_s ?_
 refine w_b ?_
 refine w_a ?_
 refine w_e ?_
 refine g_ct rfl ?_
 refine g_region ?_
 refine w_r2 ?_
 refine l_of (s_cl (grim_r g sd lp lc ps rp rc gs xp xc xs yp yc ys pl hG hgl hnp me hme _ (H2.tk [1,3,4])) ?_)
 rintro _ wq5 ⟨pd3,cd4,rfl,H6⟩
 replace H6:S _ [_,_,_,_,_,_,_,_,_]:=H2.abI (new:=[_,_,_,_]) [1,3,4] H6 rfl
 refine b_ret rfl rfl ?_
 refine w_a ?_
 refine g_nil ?_
 refine g_in ?_
 refine g_then ?_
 refine g_seq ?_
 refine w_s ?_
 refine w_m ?_
 refine w_v (v:=.int .i64 (((keepS (grimB (gs.map Rd.v) me) (othV ps.length me)).length:Int))) x_q ?_
 refine w_m ?_
 refine w_e ?_
 refine g_block ?_
 refine g_loop (ι:=Nat × Option Addr × Nat × List Int) (fun (i,qq,dq,wt9)=>[(6,.int .i64 rt),(7,.slice pd3 ((keepS (grimB (gs.map Rd.v) me) (othV ps.length me)).length) cd4),(8,.slice qq wt9.length dq),(128,.int .i64 (((keepS (grimB (gs.map Rd.v) me) (othV ps.length me)).length:Int))),(129,.int .i64 ((i:Int)))]) (fun (i,qq,dq,wt9) wx=>(i≤(keepS (grimB (gs.map Rd.v) me) (othV ps.length me)).length)∧(wt9=List.replicate i (rt / ((keepS (grimB (gs.map Rd.v) me) (othV ps.length me)).length:Int)))∧S wx [Rw 3 1 qq wt9.length dq (fl intL wt9),Rw 3 1 pd3 ((keepS (grimB (gs.map Rd.v) me) (othV ps.length me)).length) cd4 (fl intL (keepS (grimB (gs.map Rd.v) me) (othV ps.length me))),Ob g (.cells #[.string sd,.slice lp ps.length lc,.slice rp gs.length rc,.slice xp xs.length xc,.slice yp ys.length yc] 66 (0,0)),Rw 27 2 lp ps.length lc (fl plL ps),Rw 39 1 rp gs.length rc (fl rowL gs),(Pool pl),Rw 43 1 xp xs.length xc (fl rowL xs),(Lst BwI xs),Old w (fps [Ob g (.cells #[.string sd,.slice lp ps.length lc,.slice rp gs.length rc,.slice xp xs.length xc,.slice yp ys.length yc] 66 (0,0)),Rw 27 2 lp ps.length lc (fl plL ps),Rw 39 1 rp gs.length rc (fl rowL gs),(Pool pl),Rw 43 1 xp xs.length xc (fl rowL xs),(Lst BwI xs)])]) (fun (i,qq,dq,wt9)=>((keepS (grimB (gs.map Rd.v) me) (othV ps.length me)).length) - i) (0,none,0,[]) ⟨rfl,rfl,rfl,rfl,rfl,trivial⟩ ⟨Nat.zero_le _,rfl,(H6.tk [4,0,1,5,2,3,6,7,8])⟩ ?_
 rintro ⟨i,qq,dq,wt9⟩ wq7 ⟨hi,hwt,H8⟩
 refine g_wk [(6,_),(7,_),(8,_),(128,_),(129,_)] ?_
 have hwtl:wt9.length=i:=(by rw [hwt]; exact List.length_replicate)
 refine w_s ?_
 refine w_b ?_
 refine w_e ?_
 refine g_seq ?_
 by_cases hb9:((i:Int):Int)<((keepS (grimB (gs.map Rd.v) me) (othV ps.length me)).length:Int)
 ·
  refine g_ct hb9 ?_
  refine w_ht ?_
  refine g_seq ?_
  refine g_block ?_
  refine g_region ?_
  refine w_r3 ?_
  refine w_v (v:=.int .i64 (((keepS (grimB (gs.map Rd.v) me) (othV ps.length me)).length:Int))) x_q ?_
  refine w_b (v:=.int .i64 ((rt / ((keepS (grimB (gs.map Rd.v) me) (othV ps.length me)).length:Int)))) (hb:=(b_quo (by omega) (quo64 (by omega)))) ?_
  refine l_of (s_buildSlice H8 (wt0 rfl) rfl rfl rfl (vs:=[.int .i64 ((rt / ((keepS (grimB (gs.map Rd.v) me) (othV ps.length me)).length:Int)))]) rfl Tryz.underlying43 sz3 ze3 rfl rfl (cells:=#[.int .i64 ((rt / ((keepS (grimB (gs.map Rd.v) me) (othV ps.length me)).length:Int)))]) (by kernel_rfl) ?_)
  intro g10 wq11 H12
  have hln17a:=(H12.rr 1).lenL intE
  have hln17:(wt9++[(rt / ((keepS (grimB (gs.map Rd.v) me) (othV ps.length me)).length:Int))]).length=wt9.length+1:=by simp only [List.length_append,List.length_cons,List.length_nil] <;> omega
  refine l_of (s_appBn (m:=1) (l:=wt9) (l2:=[(rt / ((keepS (grimB (gs.map Rd.v) me) (othV ps.length me)).length:Int))]) intE H12 1 (j0:=0) rfl rfl ⟨rfl,Nat.le_refl _⟩ (wt0 rfl) rfl rfl rfl rfl rfl rfl Tryz.underlying43 inf3 rfl (by decide) (by omega) ?_)
  intro p13 c14 wq15 H16
  refine w_a ?_
  refine g_nil ?_
  refine g_in ?_
  refine g_then ?_
  refine g_region ?_
  refine w_b (v:=.int .i64 (((i+1:Nat):Int))) (hb:=(b_add (by rw [w64 (by omega)]; omega))) ?_
  refine w_m ?_
  refine w_e ?_
  refine g_rd (i:=(i,qq,dq,wt9)) ((i+1),p13,c14,(wt9++[(rt / ((keepS (grimB (gs.map Rd.v) me) (othV ps.length me)).length:Int))])) ⟨by omega,(by rw [hwt,rep_snoc]),(H16.tk [1,2,3,4,5,6,7,8,9])⟩
 ·
  refine g_cf hb9 ?_
  refine g_exit ?_
  iterate 2 refine g_then_exit ?_
  refine g_in_hit ?_
  refine g_then ?_
  refine w_s ?_
  refine w_r4 ?_
  refine w_e ?_
  refine g_ret ?_
  refine fin_r [.tmp 4,.tmp 5] [.slice pd3 ((keepS (grimB (gs.map Rd.v) me) (othV ps.length me)).length) cd4,.slice qq wt9.length dq] ?_
  have hie:i=(keepS (grimB (gs.map Rd.v) me) (othV ps.length me)).length:=by omega
  have hv:whatE rt (keepS (grimB (gs.map Rd.v) me) (othV ps.length me))=wt9:=by unfold whatE; rw [hwt,hie]
  rw [hv]
  exact ⟨_,_,_,_,rfl,H8.tk [1,0,2,3,4,5,6,7,8]⟩
theorem chosen_5 (g:Nat) (sd:ByteArray) (lp:Option Addr) (lc:Nat) (ps:List Pl) (rp:Option Addr) (rc:Nat) (gs:List Rd) (xp:Option Addr) (xc:Nat) (xs:List (Ro Int)) (yp:Option Addr) (yc:Nat) (ys:List (Ro Int)) (pl:List Rd) (hG:GsOK ps.length pl gs) (hgl:gs.length≤200) (hnp:ps.length≤9) (h2p:2≤ps.length) (hsd:sd.size≤100) (me:Int) (hme:0≤me∧me<ps.length) (pm:Pl) (hpm:ps[me.toNat]?=some pm) (rt:Int) (hrt:pm.rt=rt) (hr0:0≤rt∧rt≤1000000) (hst:pm.st=5)  (w:World) (HS:S w [Ob g (.cells #[.string sd,.slice lp ps.length lc,.slice rp gs.length rc,.slice xp xs.length xc,.slice yp ys.length yc] 66 (0,0)),Rw 27 2 lp ps.length lc (fl plL ps),Rw 39 1 rp gs.length rc (fl rowL gs),(Pool pl),Rw 43 1 xp xs.length xc (fl rowL xs),(Lst BwI xs)]):Calls Tryz.prog 34 #[.pointer (some ⟨g,0,none⟩),.int .i64 me] w fun e w'=>∃ p' c' q' d',e=.returned (.tuple #[.slice p' [nextV ps.length (gs.map Rd.v) me].length c',.slice q' (whatE rt [nextV ps.length (gs.map Rd.v) me]).length d'])∧S w' ([Rw 3 1 p' [nextV ps.length (gs.map Rd.v) me].length c' (fl intL [nextV ps.length (gs.map Rd.v) me]),Rw 3 1 q' (whatE rt [nextV ps.length (gs.map Rd.v) me]).length d' (fl intL (whatE rt [nextV ps.length (gs.map Rd.v) me])),Ob g (.cells #[.string sd,.slice lp ps.length lc,.slice rp gs.length rc,.slice xp xs.length xc,.slice yp ys.length yc] 66 (0,0)),Rw 27 2 lp ps.length lc (fl plL ps),Rw 39 1 rp gs.length rc (fl rowL gs),(Pool pl),Rw 43 1 xp xs.length xc (fl rowL xs),(Lst BwI xs)]++[Old w (fps [Ob g (.cells #[.string sd,.slice lp ps.length lc,.slice rp gs.length rc,.slice xp xs.length xc,.slice yp ys.length yc] 66 (0,0)),Rw 27 2 lp ps.length lc (fl plL ps),Rw 39 1 rp gs.length rc (fl rowL gs),(Pool pl),Rw 43 1 xp xs.length xc (fl rowL xs),(Lst BwI xs)])]):=by
 have H0:=HS.beginI
 have hwl:[nextV ps.length (gs.map Rd.v) me].length=1:=rfl
 have hmp:=(List.getElem?_eq_some_iff.1 hpm).1
 refine enter 141 Tryz.func34 rfl rfl rfl ?_
 refine g_wk [(0,_),(1,_)] ?_
 refine w_s ?_
 refine w_r2 ?_
 refine w_es ?_
 refine w_r3 ?_
 refine w_1 H0 0 ?_
 refine w_m ?_
 refine w_v (v:=.pointer ((lp).map fun q=>q.add (((me).toNat) * 2))) (x_i ((me).toNat) (H0.rr 1)) ?_
 refine w_v (v:=.pointer ((lp).map fun q=>q.add (((me).toNat) * 2+1))) (ex_cast (x_fieldAddrG (m:=((me).toNat) * 2) ((H0.rr 1).some (by omega)) rfl rfl fo27_1) rfl) ?_
 obtain ⟨x1,hx1⟩:=(H0.rr 1).exL plE ((me).toNat)
 have hxqx1:x1=pm:=Option.some.inj (hx1.symm.trans hpm)
 have hxsx1:x1.st=5:=by rw [hxqx1]; exact hst
 have hxrx1:x1.rt=rt:=by rw [hxqx1]; exact hrt
 refine w_v (v:=.int .i64 rt) (ex_cast (x_loadF1 (i:=1) (j:=((me).toNat)) plE (H0.rr 1) hx1 rfl rfl Tryz.underlying3 rfl rfl) (by rw [hxrx1])) ?_
 refine w_a ?_
 refine w_es ?_
 refine w_a ?_
 have H2:S w [Rw 3 1 none 0 0 (fl intL ([]:List Int)),Ob g (.cells #[.string sd,.slice lp ps.length lc,.slice rp gs.length rc,.slice xp xs.length xc,.slice yp ys.length yc] 66 (0,0)),Rw 27 2 lp ps.length lc (fl plL ps),Rw 39 1 rp gs.length rc (fl rowL gs),(Pool pl),Rw 43 1 xp xs.length xc (fl rowL xs),(Lst BwI xs),Old w (fps [Ob g (.cells #[.string sd,.slice lp ps.length lc,.slice rp gs.length rc,.slice xp xs.length xc,.slice yp ys.length yc] 66 (0,0)),Rw 27 2 lp ps.length lc (fl plL ps),Rw 39 1 rp gs.length rc (fl rowL gs),(Pool pl),Rw 43 1 xp xs.length xc (fl rowL xs),(Lst BwI xs)])]:=H0.nilFl 3 1 intL
 refine w_a ?_
 refine w_e ?_
 refine g_seq ?_
 refine w_s ?_
 refine w_r3 ?_
 refine w_1 H2 1 ?_
 refine w_m ?_
 refine w_v (v:=.pointer ((lp).map fun q=>q.add (((me).toNat) * 2))) (x_i ((me).toNat) (H2.rr 2)) ?_
 refine w_v (v:=.pointer ((lp).map fun q=>q.add (((me).toNat) * 2+0))) (ex_cast (x_fieldAddrG (m:=((me).toNat) * 2) ((H2.rr 2).some (by omega)) rfl rfl fo27_0) rfl) ?_
 refine w_v (v:=.int .i64 5) (ex_cast (x_loadF1 (i:=0) (j:=((me).toNat)) plE (H2.rr 2) hx1 rfl rfl Tryz.underlying3 rfl rfl) (by rw [hxsx1])) ?_
 refine w_e ?_
 refine w_bs ?_
 refine w_b ?_
 refine w_a ?_
 refine w_e ?_
 refine g_cond_f rfl (by decide) ?_
 refine w_s ?_
 refine w_b ?_
 refine w_a ?_
 refine w_e ?_
 refine g_cond_f rfl (by decide) ?_
 refine w_s ?_
 refine w_b ?_
 refine w_a ?_
 refine w_e ?_
 refine g_cond_f rfl (by decide) ?_
 refine w_s ?_
 refine w_b ?_
 refine w_a ?_
 refine w_e ?_
 refine g_ct rfl ?_
 refine g_region ?_
 refine w_r2 ?_
 refine l_of (s_cl (best_r g sd lp lc ps rp rc gs xp xc xs yp yc ys pl hG hgl hnp h2p me hme _ (H2.tk [1,3,4])) ?_)
 rintro _ wq5 ⟨pd3,cd4,rfl,H6⟩
 replace H6:S _ [_,_,_,_,_,_,_,_,_]:=H2.abI (new:=[_,_,_,_]) [1,3,4] H6 rfl
 refine b_ret rfl rfl ?_
 refine w_a ?_
 refine g_nil ?_
 refine g_in ?_
 refine g_then ?_
 refine g_seq ?_
 refine w_s ?_
 refine w_m ?_
 refine w_v (v:=.int .i64 (([nextV ps.length (gs.map Rd.v) me].length:Int))) x_q ?_
 refine w_m ?_
 refine w_e ?_
 refine g_block ?_
 refine g_loop (ι:=Nat × Option Addr × Nat × List Int) (fun (i,qq,dq,wt9)=>[(6,.int .i64 rt),(7,.slice pd3 ([nextV ps.length (gs.map Rd.v) me].length) cd4),(8,.slice qq wt9.length dq),(128,.int .i64 (([nextV ps.length (gs.map Rd.v) me].length:Int))),(129,.int .i64 ((i:Int)))]) (fun (i,qq,dq,wt9) wx=>(i≤[nextV ps.length (gs.map Rd.v) me].length)∧(wt9=List.replicate i (rt / ([nextV ps.length (gs.map Rd.v) me].length:Int)))∧S wx [Rw 3 1 qq wt9.length dq (fl intL wt9),Rw 3 1 pd3 ([nextV ps.length (gs.map Rd.v) me].length) cd4 (fl intL ([nextV ps.length (gs.map Rd.v) me])),Ob g (.cells #[.string sd,.slice lp ps.length lc,.slice rp gs.length rc,.slice xp xs.length xc,.slice yp ys.length yc] 66 (0,0)),Rw 27 2 lp ps.length lc (fl plL ps),Rw 39 1 rp gs.length rc (fl rowL gs),(Pool pl),Rw 43 1 xp xs.length xc (fl rowL xs),(Lst BwI xs),Old w (fps [Ob g (.cells #[.string sd,.slice lp ps.length lc,.slice rp gs.length rc,.slice xp xs.length xc,.slice yp ys.length yc] 66 (0,0)),Rw 27 2 lp ps.length lc (fl plL ps),Rw 39 1 rp gs.length rc (fl rowL gs),(Pool pl),Rw 43 1 xp xs.length xc (fl rowL xs),(Lst BwI xs)])]) (fun (i,qq,dq,wt9)=>([nextV ps.length (gs.map Rd.v) me].length) - i) (0,none,0,[]) ⟨rfl,rfl,rfl,rfl,rfl,trivial⟩ ⟨Nat.zero_le _,rfl,(H6.tk [4,0,1,5,2,3,6,7,8])⟩ ?_
 rintro ⟨i,qq,dq,wt9⟩ wq7 ⟨hi,hwt,H8⟩
 refine g_wk [(6,_),(7,_),(8,_),(128,_),(129,_)] ?_
 have hwtl:wt9.length=i:=(by rw [hwt]; exact List.length_replicate)
 refine w_s ?_
 refine w_b ?_
 refine w_e ?_
 refine g_seq ?_
 by_cases hb9:((i:Int):Int)<([nextV ps.length (gs.map Rd.v) me].length:Int)
 ·
  refine g_ct hb9 ?_
  refine w_ht ?_
  refine g_seq ?_
  refine g_block ?_
  refine g_region ?_
  refine w_r3 ?_
  refine w_v (v:=.int .i64 (([nextV ps.length (gs.map Rd.v) me].length:Int))) x_q ?_
  refine w_b (v:=.int .i64 ((rt / ([nextV ps.length (gs.map Rd.v) me].length:Int)))) (hb:=(b_quo (by omega) (quo64 (by omega)))) ?_
  refine l_of (s_buildSlice H8 (wt0 rfl) rfl rfl rfl (vs:=[.int .i64 ((rt / ([nextV ps.length (gs.map Rd.v) me].length:Int)))]) rfl Tryz.underlying43 sz3 ze3 rfl rfl (cells:=#[.int .i64 ((rt / ([nextV ps.length (gs.map Rd.v) me].length:Int)))]) (by kernel_rfl) ?_)
  intro g10 wq11 H12
  have hln17a:=(H12.rr 1).lenL intE
  have hln17:(wt9++[(rt / ([nextV ps.length (gs.map Rd.v) me].length:Int))]).length=wt9.length+1:=by simp only [List.length_append,List.length_cons,List.length_nil] <;> omega
  refine l_of (s_appBn (m:=1) (l:=wt9) (l2:=[(rt / ([nextV ps.length (gs.map Rd.v) me].length:Int))]) intE H12 1 (j0:=0) rfl rfl ⟨rfl,Nat.le_refl _⟩ (wt0 rfl) rfl rfl rfl rfl rfl rfl Tryz.underlying43 inf3 rfl (by decide) (by omega) ?_)
  intro p13 c14 wq15 H16
  refine w_a ?_
  refine g_nil ?_
  refine g_in ?_
  refine g_then ?_
  refine g_region ?_
  refine w_b (v:=.int .i64 (((i+1:Nat):Int))) (hb:=(b_add (by rw [w64 (by omega)]; omega))) ?_
  refine w_m ?_
  refine w_e ?_
  refine g_rd (i:=(i,qq,dq,wt9)) ((i+1),p13,c14,(wt9++[(rt / ([nextV ps.length (gs.map Rd.v) me].length:Int))])) ⟨by omega,(by rw [hwt,rep_snoc]),(H16.tk [1,2,3,4,5,6,7,8,9])⟩
 ·
  refine g_cf hb9 ?_
  refine g_exit ?_
  iterate 2 refine g_then_exit ?_
  refine g_in_hit ?_
  refine g_then ?_
  refine w_s ?_
  refine w_r4 ?_
  refine w_e ?_
  refine g_ret ?_
  refine fin_r [.tmp 4,.tmp 5] [.slice pd3 ([nextV ps.length (gs.map Rd.v) me].length) cd4,.slice qq wt9.length dq] ?_
  have hie:i=[nextV ps.length (gs.map Rd.v) me].length:=by omega
  have hv:whatE rt [nextV ps.length (gs.map Rd.v) me]=wt9:=by unfold whatE; rw [hwt,hie]
  rw [hv]
  exact ⟨_,_,_,_,rfl,H8.tk [1,0,2,3,4,5,6,7,8]⟩
theorem rankV_mem {c:Int→Int→Int}:∀ (l:List Int) {o:List Int} {y:Int},y∈l.foldl (insV c) o→y∈o∨y∈l
 | [],o,y,h=>.inl h
 | a :: l,o,y,h=>by
   rcases rankV_mem l h with h | h
   · rcases insV_mem h with h | rfl
     · exact .inl h
     · exact .inr List.mem_cons_self
   · exact .inr (List.mem_cons_of_mem _ h)
theorem rankV_len {c:Int→Int→Int}:∀ (l:List Int) (o:List Int),(l.foldl (insV c) o).length=o.length+l.length
 | [],o=>rfl
 | a :: l,o=>by
   rw [List.foldl_cons,rankV_len l,insV_len,List.length_cons]; omega
theorem rank_at {c:Int→Int→Int} {n:Nat} {me x:Int} {j:Nat} (h:(rankV c (othV n me))[j]?=some x):(0≤x∧x<n)∧x ≠ me:=by
 rcases rankV_mem _ (List.mem_of_getElem? h) with h | h
 · exact absurd h List.not_mem_nil
 · exact othV_mem.1 h
abbrev DRg0 (g:Nat) (sd:ByteArray) (lp:Option Addr) (ps:List Pl) (lc:Nat) (rp:Option Addr) (gs:List Rd) (rc:Nat) (xp:Option Addr) (xs:List (Ro Int)) (xc:Nat) (yp:Option Addr) (ys:List (Ro Int)) (yc:Nat) (pl:List Rd):=[Ob g (.cells #[.string sd,.slice lp ps.length lc,.slice rp gs.length rc,.slice xp xs.length xc,.slice yp ys.length yc] 66 (0,0)),Rw 27 2 lp ps.length lc (fl plL ps),Rw 39 1 rp gs.length rc (fl rowL gs),(Pool pl),Rw 43 1 xp xs.length xc (fl rowL xs),(Lst BwI xs)]
theorem chosen_2 (g:Nat) (sd:ByteArray) (lp:Option Addr) (lc:Nat) (ps:List Pl) (rp:Option Addr) (rc:Nat) (gs:List Rd) (xp:Option Addr) (xc:Nat) (xs:List (Ro Int)) (yp:Option Addr) (yc:Nat) (ys:List (Ro Int)) (pl:List Rd) (hG:GsOK ps.length pl gs) (hgl:gs.length≤200) (hnp:ps.length≤9) (me:Int) (hme:0≤me∧me<ps.length) (pm:Pl) (hpm:ps[me.toNat]?=some pm) (rt:Int) (hrt:pm.rt=rt) (hr0:0≤rt∧rt≤1000000) (hst:pm.st=2)  (w:World) (HS:S w (DRg0 g sd lp ps lc rp gs rc xp xs xc yp ys yc pl)):Calls Tryz.prog 34 #[.pointer (some ⟨g,0,none⟩),.int .i64 me] w fun e w'=>∃ p' c' q' d',e=.returned (.tuple #[.slice p' ([]:List Int).length c',.slice q' ([]:List Int).length d'])∧S w' ([Rw 3 1 p' ([]:List Int).length c' (fl intL ([]:List Int)),Rw 3 1 q' ([]:List Int).length d' (fl intL ([]:List Int)),Ob g (.cells #[.string sd,.slice lp ps.length lc,.slice rp gs.length rc,.slice xp xs.length xc,.slice yp ys.length yc] 66 (0,0)),Rw 27 2 lp ps.length lc (fl plL ps),Rw 39 1 rp gs.length rc (fl rowL gs),(Pool pl),Rw 43 1 xp xs.length xc (fl rowL xs),(Lst BwI xs)]++[Old w (fps (DRg0 g sd lp ps lc rp gs rc xp xs xc yp ys yc pl))]):=by
 have H0:=HS.beginI
 have hol:=othV_len ps.length me
 have hmp:=(List.getElem?_eq_some_iff.1 hpm).1
 refine enter 141 Tryz.func34 rfl rfl rfl ?_
 refine g_wk [(0,_),(1,_)] ?_
 refine w_s ?_
 refine w_k9 ?_
 refine w_v (x_i ((me).toNat) (H0.rr 1)) ?_
 refine w_v (v:=.pointer ((lp).map fun q=>q.add (((me).toNat) * 2+1))) (ex_cast (x_fieldAddrG (m:=((me).toNat) * 2) ((H0.rr 1).some (by omega)) rfl rfl fo27_1) rfl) ?_
 obtain ⟨x1,hx1⟩:=(H0.rr 1).exL plE ((me).toNat)
 have hxqx1:x1=pm:=Option.some.inj (hx1.symm.trans hpm)
 have hxsx1:x1.st=2:=by rw [hxqx1]; exact hst
 have hxrx1:x1.rt=rt:=by rw [hxqx1]; exact hrt
 refine w_v (v:=.int .i64 rt) (ex_cast (x_loadF1 (i:=1) (j:=((me).toNat)) plE (H0.rr 1) hx1 rfl rfl Tryz.underlying3 rfl rfl) (by rw [hxrx1])) ?_
 refine w_k3 ?_
 have H2:S _ [_,_,_,_,_,_,_,_]:=H0.nilFl 3 1 intL
 refine w_a ?_
 have H3:S _ [_,_,_,_,_,_,_,_,_]:=H2.nilFl 3 1 intL
 refine w_k9 ?_
 refine w_v (x_i ((me).toNat) (H3.rr 3)) ?_
 refine w_v (v:=.pointer ((lp).map fun q=>q.add (((me).toNat) * 2+0))) (ex_cast (x_fieldAddrG (m:=((me).toNat) * 2) ((H3.rr 3).some (by omega)) rfl rfl fo27_0) rfl) ?_
 refine w_v (v:=.int .i64 2) (ex_cast (x_loadF1 (i:=0) (j:=((me).toNat)) plE (H3.rr 3) hx1 rfl rfl Tryz.underlying3 rfl rfl) (by rw [hxsx1])) ?_
 refine w_k6 ?_
 refine g_cond_f rfl (by decide) ?_
 refine w_k4 ?_
 refine g_cond_f rfl (by decide) ?_
 refine w_k4 ?_
 refine g_cond_f rfl (by decide) ?_
 refine w_k4 ?_
 refine g_cond_f rfl (by decide) ?_
 refine w_k4 ?_
 refine g_cond_f rfl (by decide) ?_
 refine w_k4 ?_
 refine g_cond_f rfl (by decide) ?_
 refine w_k10 ?_
 refine g_loop (ι:=Nat) (fun i=>[(6,.int .i64 rt),(7,.slice none 0 0),(8,.slice none 0 0),(128,.int .i64 0),(129,.int .i64 ((i:Int)))]) (fun i wx=>(i≤0)∧S wx [Rw 3 1 none 0 0 (fl intL ([]:List Int)),Rw 3 1 none 0 0 (fl intL ([]:List Int)),Ob g (.cells #[.string sd,.slice lp ps.length lc,.slice rp gs.length rc,.slice xp xs.length xc,.slice yp ys.length yc] 66 (0,0)),Rw 27 2 lp ps.length lc (fl plL ps),Rw 39 1 rp gs.length rc (fl rowL gs),(Pool pl),Rw 43 1 xp xs.length xc (fl rowL xs),(Lst BwI xs),Old w (fps (DRg0 g sd lp ps lc rp gs rc xp xs xc yp ys yc pl))]) (fun i=>0 - i) (0) ⟨rfl,rfl,rfl,rfl,rfl,trivial⟩ ⟨Nat.zero_le _,(H3.tk [0,1,2,3,4,5,6,7,8])⟩ ?_
 rintro i wq4 ⟨hi,H5⟩
 refine g_wk [(6,_),(7,_),(8,_),(128,_),(129,_)] ?_
 refine w_s ?_
 refine w_k2 ?_
 refine g_seq ?_
 refine g_cond_f rfl (decide_eq_false (by omega)) ?_
 refine w_k12 ?_
 refine fin_r [.tmp 4,.tmp 5] [.slice none 0 0,.slice none 0 0] ?_
 exact ⟨none,0,none,0,rfl,H5.tk [0,1,2,3,4,5,6,7,8]⟩
theorem chosen_6 (g:Nat) (sd:ByteArray) (lp:Option Addr) (lc:Nat) (ps:List Pl) (rp:Option Addr) (rc:Nat) (gs:List Rd) (xp:Option Addr) (xc:Nat) (xs:List (Ro Int)) (yp:Option Addr) (yc:Nat) (ys:List (Ro Int)) (pl:List Rd) (hG:GsOK ps.length pl gs) (hgl:gs.length≤200) (hnp:ps.length≤9) (me:Int) (hme:0≤me∧me<ps.length) (pm:Pl) (hpm:ps[me.toNat]?=some pm) (rt:Int) (hrt:pm.rt=rt) (hr0:0≤rt∧rt≤1000000) (hst:pm.st=6) (px:Ro Int) (hpx:xs[me.toNat]?=some px) (hpl:px.l.length=ps.length) (m:Int→Int) (hm:∀ (j:Nat) y,px.l[j]?=some y→¬ (j:Int)=me→y=m j) (hmb:∀ i,0≤m i∧m i≤1000000)  (w:World) (HS:S w [Ob g (.cells #[.string sd,.slice lp ps.length lc,.slice rp gs.length rc,.slice xp xs.length xc,.slice yp ys.length yc] 66 (0,0)),Rw 27 2 lp ps.length lc (fl plL ps),Rw 39 1 rp gs.length rc (fl rowL gs),(Pool pl),Rw 43 1 xp xs.length xc (fl rowL xs),(Lst BwI xs)]):Calls Tryz.prog 34 #[.pointer (some ⟨g,0,none⟩),.int .i64 me] w fun e w'=>∃ p' c' q' d',e=.returned (.tuple #[.slice p' ((rankV (tyrCm (gs.map Rd.v) m me) (othV ps.length me)).foldl (tyW m) (⟨[],[],rt,false⟩:TyW)).who.length c',.slice q' ((rankV (tyrCm (gs.map Rd.v) m me) (othV ps.length me)).foldl (tyW m) (⟨[],[],rt,false⟩:TyW)).what.length d'])∧S w' ([Rw 3 1 p' ((rankV (tyrCm (gs.map Rd.v) m me) (othV ps.length me)).foldl (tyW m) (⟨[],[],rt,false⟩:TyW)).who.length c' (fl intL ((rankV (tyrCm (gs.map Rd.v) m me) (othV ps.length me)).foldl (tyW m) (⟨[],[],rt,false⟩:TyW)).who),Rw 3 1 q' ((rankV (tyrCm (gs.map Rd.v) m me) (othV ps.length me)).foldl (tyW m) (⟨[],[],rt,false⟩:TyW)).what.length d' (fl intL ((rankV (tyrCm (gs.map Rd.v) m me) (othV ps.length me)).foldl (tyW m) (⟨[],[],rt,false⟩:TyW)).what),Ob g (.cells #[.string sd,.slice lp ps.length lc,.slice rp gs.length rc,.slice xp xs.length xc,.slice yp ys.length yc] 66 (0,0)),Rw 27 2 lp ps.length lc (fl plL ps),Rw 39 1 rp gs.length rc (fl rowL gs),(Pool pl),Rw 43 1 xp xs.length xc (fl rowL xs),(Lst BwI xs)]++[Old w (fps [Ob g (.cells #[.string sd,.slice lp ps.length lc,.slice rp gs.length rc,.slice xp xs.length xc,.slice yp ys.length yc] 66 (0,0)),Rw 27 2 lp ps.length lc (fl plL ps),Rw 39 1 rp gs.length rc (fl rowL gs),(Pool pl),Rw 43 1 xp xs.length xc (fl rowL xs),(Lst BwI xs)])]):=by
 have H0:=HS.beginI
 have hol:=othV_len ps.length me
 have hmp:=(List.getElem?_eq_some_iff.1 hpm).1
 have hrkl:(rankV (tyrCm (gs.map Rd.v) m me) (othV ps.length me)).length=(othV ps.length me).length:=(rankV_len _ _).trans (Nat.zero_add _)
 have hmx9:=(List.getElem?_eq_some_iff.1 hpx).1
 refine enter 141 Tryz.func34 rfl rfl rfl ?_
 refine g_wk [(0,_),(1,_)] ?_
 refine w_s ?_
 refine w_k9 ?_
 refine w_v (x_i ((me).toNat) (H0.rr 1)) ?_
 refine w_v (v:=.pointer ((lp).map fun q=>q.add (((me).toNat) * 2+1))) (ex_cast (x_fieldAddrG (m:=((me).toNat) * 2) ((H0.rr 1).some (by omega)) rfl rfl fo27_1) rfl) ?_
 obtain ⟨x1,hx1⟩:=(H0.rr 1).exL plE ((me).toNat)
 have hxqx1:x1=pm:=Option.some.inj (hx1.symm.trans hpm)
 have hxsx1:x1.st=6:=by rw [hxqx1]; exact hst
 have hxrx1:x1.rt=rt:=by rw [hxqx1]; exact hrt
 refine w_v (v:=.int .i64 rt) (ex_cast (x_loadF1 (i:=1) (j:=((me).toNat)) plE (H0.rr 1) hx1 rfl rfl Tryz.underlying3 rfl rfl) (by rw [hxrx1])) ?_
 refine w_k3 ?_
 have H2:S _ [_,_,_,_,_,_,_,_]:=H0.nilFl 3 1 intL
 refine w_a ?_
 have H3:S _ [_,_,_,_,_,_,_,_,_]:=H2.nilFl 3 1 intL
 refine w_k9 ?_
 refine w_v (x_i ((me).toNat) (H3.rr 3)) ?_
 refine w_v (v:=.pointer ((lp).map fun q=>q.add (((me).toNat) * 2+0))) (ex_cast (x_fieldAddrG (m:=((me).toNat) * 2) ((H3.rr 3).some (by omega)) rfl rfl fo27_0) rfl) ?_
 refine w_v (v:=.int .i64 6) (ex_cast (x_loadF1 (i:=0) (j:=((me).toNat)) plE (H3.rr 3) hx1 rfl rfl Tryz.underlying3 rfl rfl) (by rw [hxsx1])) ?_
 refine w_k6 ?_
 refine g_cond_f rfl (by decide) ?_
 refine w_k4 ?_
 refine g_cond_f rfl (by decide) ?_
 refine w_k4 ?_
 refine g_cond_f rfl (by decide) ?_
 refine w_k4 ?_
 refine g_cond_f rfl (by decide) ?_
 refine w_k4 ?_
 refine g_ct rfl ?_
 refine w_k4 ?_
 refine l_of (s_cl (ranked_r g sd lp lc ps rp rc gs xp xc xs yp yc ys pl hG hgl hnp me hme px hpx hpl m hm hmb _ (H3.tk [2,4,5,6,7])) ?_)
 rintro _ wq6 ⟨pd4,cd5,rfl,H7⟩
 replace H7:S _ [_,_,_,_,_,_,_,_,_,_]:=H3.abI (new:=[_,_,_,_,_,_]) [2,4,5,6,7] H7 rfl
 refine b_ret rfl rfl ?_
 refine w_k4 ?_
 refine g_loop (ι:=Nat × Option Addr × Nat × List Int × Option Addr × Nat × List Int × Int) (fun (i,pw,cw,wh,qw,dw,wt9,lf)=>[(0,.pointer (some ⟨g,0,none⟩)),(1,.int .i64 me),(6,.int .i64 lf),(7,.slice pw wh.length cw),(8,.slice qw wt9.length dw),(55,.slice pd4 ((rankV (tyrCm (gs.map Rd.v) m me) (othV ps.length me)).length) cd5),(56,.int .i64 (((rankV (tyrCm (gs.map Rd.v) m me) (othV ps.length me)).length:Int))),(57,.int .i64 ((i:Int)))]) (fun (i,pw,cw,wh,qw,dw,wt9,lf) wx=>(i≤(rankV (tyrCm (gs.map Rd.v) m me) (othV ps.length me)).length)∧((⟨wh,wt9,lf,false⟩:TyW)=((rankV (tyrCm (gs.map Rd.v) m me) (othV ps.length me)).take i).foldl (tyW m) (⟨[],[],rt,false⟩:TyW))∧(0≤lf∧lf≤rt)∧(wh.length=i)∧(wt9.length=i)∧S wx [Rw 3 1 pw wh.length cw (fl intL wh),Rw 3 1 qw wt9.length dw (fl intL wt9),Rw 3 1 pd4 ((rankV (tyrCm (gs.map Rd.v) m me) (othV ps.length me)).length) cd5 (fl intL (rankV (tyrCm (gs.map Rd.v) m me) (othV ps.length me))),Ob g (.cells #[.string sd,.slice lp ps.length lc,.slice rp gs.length rc,.slice xp xs.length xc,.slice yp ys.length yc] 66 (0,0)),Rw 27 2 lp ps.length lc (fl plL ps),Rw 39 1 rp gs.length rc (fl rowL gs),(Pool pl),Rw 43 1 xp xs.length xc (fl rowL xs),(Lst BwI xs),Old w (fps [Ob g (.cells #[.string sd,.slice lp ps.length lc,.slice rp gs.length rc,.slice xp xs.length xc,.slice yp ys.length yc] 66 (0,0)),Rw 27 2 lp ps.length lc (fl plL ps),Rw 39 1 rp gs.length rc (fl rowL gs),(Pool pl),Rw 43 1 xp xs.length xc (fl rowL xs),(Lst BwI xs)])]) (fun (i,pw,cw,wh,qw,dw,wt9,lf)=>((rankV (tyrCm (gs.map Rd.v) m me) (othV ps.length me)).length) - i) (0,none,0,[],none,0,[],rt) ⟨rfl,rfl,rfl,rfl,rfl,rfl,rfl,rfl,trivial⟩ ⟨Nat.zero_le _,rfl,(by omega),rfl,rfl,(H7.tk [6,7,0,1,8,2,3,4,5,9])⟩ ?_
 rintro ⟨i,pw,cw,wh,qw,dw,wt9,lf⟩ wq8 ⟨hi,ho,hlf,hwl,htl,H9⟩
 refine g_wk [(0,_),(1,_),(6,_),(7,_),(8,_),(55,_),(56,_),(57,_)] ?_
 refine w_s ?_
 refine w_k2 ?_
 refine g_seq ?_
 by_cases hb10:((i:Int):Int)<((rankV (tyrCm (gs.map Rd.v) m me) (othV ps.length me)).length:Int)
 ·
  refine g_ct hb10 ?_
  refine w_k5 ?_
  refine w_v (x_i i (H9.rr 2)) ?_
  obtain ⟨x11,hx11⟩:=(H9.rr 2).exL intE i
  have hox9:=rank_at hx11
  refine w_v (x_r i (H9.rr 2) (intE.flAt1 hx11 rfl)) ?_
  refine w_k8 ?_
  refine w_v (x_i ((me).toNat) (H9.rr 7)) ?_
  obtain ⟨x12,hx12⟩:=(H9.rr 7).exL rowE ((me).toNat)
  have hxqx12:x12=px:=Option.some.inj (hx12.symm.trans hpx)
  have hlxx12:x12.l.length=ps.length:=by rw [hxqx12]; exact hpl
  refine w_v (x_r ((me).toNat) (H9.rr 7) (rowE.flAt1 hx12 rfl)) ?_
  refine w_m ?_
  refine w_v (x_i ((x11).toNat) (H9.bwRd (k:=8) rfl hx12)) ?_
  obtain ⟨x13,hx13⟩:=(H9.bwRd (k:=8) rfl hx12).exL intE ((x11).toNat)
  have hmxx13:x13=m x11:=by have h9:=hm (x11).toNat x13 (by rw [← hxqx12]; exact hx13) (by omega); rw [h9]; congr 1; omega
  have hmyx13:=hmb x11
  rw [← hmxx13] at hmyx13
  refine w_v (x_r ((x11).toNat) (H9.bwRd (k:=8) rfl hx12) (intE.flAt1 hx13 rfl)) ?_
  refine w_k8 ?_
  by_cases hb14:(lf:Int)<x13
  ·
   refine g_ct hb14 ?_
   refine w_k16 ?_
   refine fin_r [.tmp 4,.tmp 5] [.slice pw wh.length cw,.slice qw wt9.length dw] ?_
   have hv:=tyW_brk hx11 ho rfl (by rw [← hmxx13]; exact hb14)
   rw [hv]
   exact ⟨_,_,_,_,rfl,H9.tk [0,1,3,4,5,6,7,8,9]⟩
  ·
   refine g_cf hb14 ?_
   refine w_k5 ?_
   refine w_b (v:=.int .i64 (lf - x13)) (hb:=(b_sub (w64 (by omega)))) ?_
   refine w_k5 ?_
   refine l_of (s_b1 ze3 #[.int .i64 x11] H9 ?_)
   intro g15 wq16 H17
   have hln22a:=(H17.rr 1).lenL intE
   have hln22:(wh++[x11]).length=wh.length+1:=by simp only [List.length_append,List.length_cons,List.length_nil] <;> omega
   refine l_of (s_appBn (m:=1) (l:=wh) (l2:=[x11]) intE H17 1 (j0:=0) rfl rfl ⟨rfl,Nat.le_refl _⟩ (wt0 rfl) rfl rfl rfl rfl rfl rfl Tryz.underlying43 inf3 rfl (by decide) (by omega) ?_)
   intro p18 c19 wq20 H21
   refine w_r2 ?_
   refine l_of (s_b1 ze3 #[.int .i64 x13] H21 ?_)
   intro g23 wq24 H25
   have hln30a:=(H25.rr 3).lenL intE
   have hln30:(wt9++[x13]).length=wt9.length+1:=by simp only [List.length_append,List.length_cons,List.length_nil] <;> omega
   refine l_of (s_appBn (m:=1) (l:=wt9) (l2:=[x13]) intE H25 3 (j0:=0) rfl rfl ⟨rfl,Nat.le_refl _⟩ (wt0 rfl) rfl rfl rfl rfl rfl rfl Tryz.underlying43 inf3 rfl (by decide) (by omega) ?_)
   intro p26 c27 wq28 H29
   refine w_k6 ?_
   refine w_i i ?_
   refine w_k2 ?_
   refine g_rd (i:=(i,pw,cw,wh,qw,dw,wt9,lf)) ((i+1),p18,c19,(wh++[x11]),p26,c27,(wt9++[x13]),(lf - x13)) ⟨by omega,(by rw [take_snocT hx11,List.foldl_append,← ho,List.foldl_cons,List.foldl_nil]; unfold tyW; rw [if_neg Bool.false_ne_true,if_neg (by rw [← hmxx13]; exact hb14),← hmxx13]),(by omega),(by rw [List.length_append,hwl]; rfl),(by rw [List.length_append,htl]; rfl),(H29.tk [2,3,4,5,6,7,8,9,10,11])⟩
 ·
  refine g_cf hb10 ?_
  refine w_k14 ?_
  refine fin_r [.tmp 4,.tmp 5] [.slice pw wh.length cw,.slice qw wt9.length dw] ?_
  rw [List.take_of_length_le (by omega)] at ho
  rw [← ho]
  exact ⟨_,_,_,_,rfl,H9.tk [0,1,3,4,5,6,7,8,9]⟩
theorem chosen_7 (g:Nat) (sd:ByteArray) (lp:Option Addr) (lc:Nat) (ps:List Pl) (rp:Option Addr) (rc:Nat) (gs:List Rd) (xp:Option Addr) (xc:Nat) (xs:List (Ro Int)) (yp:Option Addr) (yc:Nat) (ys:List (Ro Int)) (pl:List Rd) (hG:GsOK ps.length pl gs) (hgl:gs.length≤200) (hnp:ps.length≤9) (me:Int) (hme:0≤me∧me<ps.length) (pm:Pl) (hpm:ps[me.toNat]?=some pm) (rt:Int) (hrt:pm.rt=rt) (hr0:0≤rt∧rt≤1000000) (hst:pm.st=7) (hg0:0<gs.length)  (w:World) (HS:S w [Ob g (.cells #[.string sd,.slice lp ps.length lc,.slice rp gs.length rc,.slice xp xs.length xc,.slice yp ys.length yc] 66 (0,0)),Rw 27 2 lp ps.length lc (fl plL ps),Rw 39 1 rp gs.length rc (fl rowL gs),(Pool pl),Rw 43 1 xp xs.length xc (fl rowL xs),(Lst BwI xs)]):Calls Tryz.prog 34 #[.pointer (some ⟨g,0,none⟩),.int .i64 me] w fun e w'=>∃ p' c' q' d',e=.returned (.tuple #[.slice p' ((othV ps.length me).foldl (mirW (fun i=>lastV (gs.map Rd.v) i me)) (([],[]),rt)).1.1.length c',.slice q' ((othV ps.length me).foldl (mirW (fun i=>lastV (gs.map Rd.v) i me)) (([],[]),rt)).1.2.length d'])∧S w' ([Rw 3 1 p' ((othV ps.length me).foldl (mirW (fun i=>lastV (gs.map Rd.v) i me)) (([],[]),rt)).1.1.length c' (fl intL ((othV ps.length me).foldl (mirW (fun i=>lastV (gs.map Rd.v) i me)) (([],[]),rt)).1.1),Rw 3 1 q' ((othV ps.length me).foldl (mirW (fun i=>lastV (gs.map Rd.v) i me)) (([],[]),rt)).1.2.length d' (fl intL ((othV ps.length me).foldl (mirW (fun i=>lastV (gs.map Rd.v) i me)) (([],[]),rt)).1.2),Ob g (.cells #[.string sd,.slice lp ps.length lc,.slice rp gs.length rc,.slice xp xs.length xc,.slice yp ys.length yc] 66 (0,0)),Rw 27 2 lp ps.length lc (fl plL ps),Rw 39 1 rp gs.length rc (fl rowL gs),(Pool pl),Rw 43 1 xp xs.length xc (fl rowL xs),(Lst BwI xs)]++[Old w (fps [Ob g (.cells #[.string sd,.slice lp ps.length lc,.slice rp gs.length rc,.slice xp xs.length xc,.slice yp ys.length yc] 66 (0,0)),Rw 27 2 lp ps.length lc (fl plL ps),Rw 39 1 rp gs.length rc (fl rowL gs),(Pool pl),Rw 43 1 xp xs.length xc (fl rowL xs),(Lst BwI xs)])]):=by
 have H0:=HS.beginI
 have hol:=othV_len ps.length me
 have hmp:=(List.getElem?_eq_some_iff.1 hpm).1
 refine enter 141 Tryz.func34 rfl rfl rfl ?_
 refine g_wk [(0,_),(1,_)] ?_
 refine w_s ?_
 refine w_k9 ?_
 refine w_v (x_i ((me).toNat) (H0.rr 1)) ?_
 refine w_v (v:=.pointer ((lp).map fun q=>q.add (((me).toNat) * 2+1))) (ex_cast (x_fieldAddrG (m:=((me).toNat) * 2) ((H0.rr 1).some (by omega)) rfl rfl fo27_1) rfl) ?_
 obtain ⟨x1,hx1⟩:=(H0.rr 1).exL plE ((me).toNat)
 have hxqx1:x1=pm:=Option.some.inj (hx1.symm.trans hpm)
 have hxsx1:x1.st=7:=by rw [hxqx1]; exact hst
 have hxrx1:x1.rt=rt:=by rw [hxqx1]; exact hrt
 refine w_v (v:=.int .i64 rt) (ex_cast (x_loadF1 (i:=1) (j:=((me).toNat)) plE (H0.rr 1) hx1 rfl rfl Tryz.underlying3 rfl rfl) (by rw [hxrx1])) ?_
 refine w_k3 ?_
 have H2:S _ [_,_,_,_,_,_,_,_]:=H0.nilFl 3 1 intL
 refine w_a ?_
 have H3:S _ [_,_,_,_,_,_,_,_,_]:=H2.nilFl 3 1 intL
 refine w_k9 ?_
 refine w_v (x_i ((me).toNat) (H3.rr 3)) ?_
 refine w_v (v:=.pointer ((lp).map fun q=>q.add (((me).toNat) * 2+0))) (ex_cast (x_fieldAddrG (m:=((me).toNat) * 2) ((H3.rr 3).some (by omega)) rfl rfl fo27_0) rfl) ?_
 refine w_v (v:=.int .i64 7) (ex_cast (x_loadF1 (i:=0) (j:=((me).toNat)) plE (H3.rr 3) hx1 rfl rfl Tryz.underlying3 rfl rfl) (by rw [hxsx1])) ?_
 refine w_k6 ?_
 refine g_cond_f rfl (by decide) ?_
 refine w_k4 ?_
 refine g_cond_f rfl (by decide) ?_
 refine w_k4 ?_
 refine g_cond_f rfl (by decide) ?_
 refine w_k4 ?_
 refine g_cond_f rfl (by decide) ?_
 refine w_k4 ?_
 refine g_cond_f rfl (by decide) ?_
 refine w_k4 ?_
 refine g_ct rfl ?_
 refine w_k9 ?_
 refine g_cond_f rfl (decide_eq_false (by omega)) ?_
 refine w_k6 ?_
 refine l_of (s_cl (others_r g sd lp lc ps rp rc gs xp xc xs yp yc ys hnp me _ (H3.tk [2])) ?_)
 rintro _ wq6 ⟨po4,co5,rfl,H7⟩
 replace H7:S _ [_,_,_,_,_,_,_,_,_,_]:=H3.abI (new:=[_,_]) [2] H7 rfl
 have hol:=othV_len ps.length me
 refine b_ret rfl rfl ?_
 refine w_k4 ?_
 refine g_loop (ι:=Nat × Option Addr × Nat × List Int × Option Addr × Nat × List Int × Int) (fun (i,pw,cw,wh,qw,dw,wt9,lf)=>[(0,.pointer (some ⟨g,0,none⟩)),(1,.int .i64 me),(6,.int .i64 lf),(7,.slice pw wh.length cw),(8,.slice qw wt9.length dw),(101,.slice po4 ((othV ps.length me).length) co5),(102,.int .i64 (((othV ps.length me).length:Int))),(103,.int .i64 ((i:Int)))]) (fun (i,pw,cw,wh,qw,dw,wt9,lf) wx=>(i≤(othV ps.length me).length)∧(((wh,wt9),lf)=((othV ps.length me).take i).foldl (mirW (fun i=>lastV (gs.map Rd.v) i me)) (([],[]),rt))∧(0≤lf∧lf≤rt)∧(wh.length=i)∧(wt9.length=i)∧S wx [Rw 3 1 pw wh.length cw (fl intL wh),Rw 3 1 qw wt9.length dw (fl intL wt9),Rw 3 1 po4 ((othV ps.length me).length) co5 (fl intL (othV ps.length me)),Ob g (.cells #[.string sd,.slice lp ps.length lc,.slice rp gs.length rc,.slice xp xs.length xc,.slice yp ys.length yc] 66 (0,0)),Rw 27 2 lp ps.length lc (fl plL ps),Rw 39 1 rp gs.length rc (fl rowL gs),(Pool pl),Rw 43 1 xp xs.length xc (fl rowL xs),(Lst BwI xs),Old w (fps [Ob g (.cells #[.string sd,.slice lp ps.length lc,.slice rp gs.length rc,.slice xp xs.length xc,.slice yp ys.length yc] 66 (0,0)),Rw 27 2 lp ps.length lc (fl plL ps),Rw 39 1 rp gs.length rc (fl rowL gs),(Pool pl),Rw 43 1 xp xs.length xc (fl rowL xs),(Lst BwI xs)])]) (fun (i,pw,cw,wh,qw,dw,wt9,lf)=>((othV ps.length me).length) - i) (0,none,0,[],none,0,[],rt) ⟨rfl,rfl,rfl,rfl,rfl,rfl,rfl,rfl,trivial⟩ ⟨Nat.zero_le _,rfl,(by omega),rfl,rfl,(H7.tk [2,3,0,1,4,5,6,7,8,9])⟩ ?_
 rintro ⟨i,pw,cw,wh,qw,dw,wt9,lf⟩ wq8 ⟨hi,ho,hlf,hwl,htl,H9⟩
 refine g_wk [(0,_),(1,_),(6,_),(7,_),(8,_),(101,_),(102,_),(103,_)] ?_
 refine w_s ?_
 refine w_k2 ?_
 refine g_seq ?_
 by_cases hb10:((i:Int):Int)<((othV ps.length me).length:Int)
 ·
  refine g_ct hb10 ?_
  refine w_k5 ?_
  refine w_v (x_i i (H9.rr 2)) ?_
  obtain ⟨x11,hx11⟩:=(H9.rr 2).exL intE i
  have hox9:=othV_at hx11
  refine w_v (x_r i (H9.rr 2) (intE.flAt1 hx11 rfl)) ?_
  refine w_k6 ?_
  refine l_of (s_cl (gave1_r g sd lp lc ps rp rc gs xp xc xs yp yc ys pl hG hgl hnp x11 me hox9.1 hme _ (H9.tk [3,5,6])) ?_)
  rintro _ wq13 ⟨rfl,H14⟩
  replace H14:S _ [_,_,_,_,_,_,_,_,_,_]:=H9.abI (new:=[_,_,_]) [3,5,6] H14 rfl
  have hlbq12:=lastV_bd hG x11 me
  refine b_ret rfl rfl ?_
  refine w_m ?_
  refine w_v (v:=.int .i64 (min (lastV (gs.map Rd.v) x11 me) lf)) (x_min rfl rfl rfl) ?_
  refine w_k5 ?_
  refine w_b (v:=.int .i64 (lf - (min (lastV (gs.map Rd.v) x11 me) lf))) (hb:=(b_sub (w64 (by omega)))) ?_
  refine w_k5 ?_
  refine l_of (s_b1 ze3 #[.int .i64 x11] H14 ?_)
  intro g15 wq16 H17
  have hln22a:=(H17.rr 4).lenL intE
  have hln22:(wh++[x11]).length=wh.length+1:=by simp only [List.length_append,List.length_cons,List.length_nil] <;> omega
  refine l_of (s_appBn (m:=1) (l:=wh) (l2:=[x11]) intE H17 4 (j0:=0) rfl rfl ⟨rfl,Nat.le_refl _⟩ (wt0 rfl) rfl rfl rfl rfl rfl rfl Tryz.underlying43 inf3 rfl (by decide) (by omega) ?_)
  intro p18 c19 wq20 H21
  refine w_r2 ?_
  refine l_of (s_b1 ze3 #[.int .i64 (min (lastV (gs.map Rd.v) x11 me) lf)] H21 ?_)
  intro g23 wq24 H25
  have hln30a:=(H25.rr 6).lenL intE
  have hln30:(wt9++[min (lastV (gs.map Rd.v) x11 me) lf]).length=wt9.length+1:=by simp only [List.length_append,List.length_cons,List.length_nil] <;> omega
  refine l_of (s_appBn (m:=1) (l:=wt9) (l2:=[min (lastV (gs.map Rd.v) x11 me) lf]) intE H25 6 (j0:=0) rfl rfl ⟨rfl,Nat.le_refl _⟩ (wt0 rfl) rfl rfl rfl rfl rfl rfl Tryz.underlying43 inf3 rfl (by decide) (by omega) ?_)
  intro p26 c27 wq28 H29
  refine w_k6 ?_
  refine w_i i ?_
  refine w_k2 ?_
  refine g_rd (i:=(i,pw,cw,wh,qw,dw,wt9,lf)) ((i+1),p18,c19,(wh++[x11]),p26,c27,(wt9++[min (lastV (gs.map Rd.v) x11 me) lf]),(lf - (min (lastV (gs.map Rd.v) x11 me) lf))) ⟨by omega,(by rw [take_snocT hx11,List.foldl_append,← ho]; rfl),(by omega),(by rw [List.length_append,hwl]; rfl),(by rw [List.length_append,htl]; rfl),(H29.tk [5,6,7,2,8,3,4,9,10,11])⟩
 ·
  refine g_cf hb10 ?_
  refine w_k14 ?_
  refine fin_r [.tmp 4,.tmp 5] [.slice pw wh.length cw,.slice qw wt9.length dw] ?_
  rw [List.take_of_length_le (by omega)] at ho
  rw [← ho]
  exact ⟨_,_,_,_,rfl,H9.tk [0,1,3,4,5,6,7,8,9]⟩
theorem chosen_7n (g:Nat) (sd:ByteArray) (lp:Option Addr) (lc:Nat) (ps:List Pl) (rp:Option Addr) (rc:Nat) (gs:List Rd) (xp:Option Addr) (xc:Nat) (xs:List (Ro Int)) (yp:Option Addr) (yc:Nat) (ys:List (Ro Int)) (pl:List Rd) (hG:GsOK ps.length pl gs) (hgl:gs.length≤200) (hnp:ps.length≤9) (me:Int) (hme:0≤me∧me<ps.length) (pm:Pl) (hpm:ps[me.toNat]?=some pm) (rt:Int) (hrt:pm.rt=rt) (hr0:0≤rt∧rt≤1000000) (hst:pm.st=7) (hg0:gs.length=0)  (w:World) (HS:S w [Ob g (.cells #[.string sd,.slice lp ps.length lc,.slice rp gs.length rc,.slice xp xs.length xc,.slice yp ys.length yc] 66 (0,0)),Rw 27 2 lp ps.length lc (fl plL ps),Rw 39 1 rp gs.length rc (fl rowL gs),(Pool pl),Rw 43 1 xp xs.length xc (fl rowL xs),(Lst BwI xs)]):Calls Tryz.prog 34 #[.pointer (some ⟨g,0,none⟩),.int .i64 me] w fun e w'=>∃ p' c' q' d',e=.returned (.tuple #[.slice p' (othV ps.length me).length c',.slice q' (whatE rt (othV ps.length me)).length d'])∧S w' ([Rw 3 1 p' (othV ps.length me).length c' (fl intL (othV ps.length me)),Rw 3 1 q' (whatE rt (othV ps.length me)).length d' (fl intL (whatE rt (othV ps.length me))),Ob g (.cells #[.string sd,.slice lp ps.length lc,.slice rp gs.length rc,.slice xp xs.length xc,.slice yp ys.length yc] 66 (0,0)),Rw 27 2 lp ps.length lc (fl plL ps),Rw 39 1 rp gs.length rc (fl rowL gs),(Pool pl),Rw 43 1 xp xs.length xc (fl rowL xs),(Lst BwI xs)]++[Old w (fps [Ob g (.cells #[.string sd,.slice lp ps.length lc,.slice rp gs.length rc,.slice xp xs.length xc,.slice yp ys.length yc] 66 (0,0)),Rw 27 2 lp ps.length lc (fl plL ps),Rw 39 1 rp gs.length rc (fl rowL gs),(Pool pl),Rw 43 1 xp xs.length xc (fl rowL xs),(Lst BwI xs)])]):=by
 have H0:=HS.beginI
 have hol:=othV_len ps.length me
 have hmp:=(List.getElem?_eq_some_iff.1 hpm).1
 refine enter 141 Tryz.func34 rfl rfl rfl ?_
 refine g_wk [(0,_),(1,_)] ?_
 refine w_s ?_
 refine w_k9 ?_
 refine w_v (x_i ((me).toNat) (H0.rr 1)) ?_
 refine w_v (v:=.pointer ((lp).map fun q=>q.add (((me).toNat) * 2+1))) (ex_cast (x_fieldAddrG (m:=((me).toNat) * 2) ((H0.rr 1).some (by omega)) rfl rfl fo27_1) rfl) ?_
 obtain ⟨x1,hx1⟩:=(H0.rr 1).exL plE ((me).toNat)
 have hxqx1:x1=pm:=Option.some.inj (hx1.symm.trans hpm)
 have hxsx1:x1.st=7:=by rw [hxqx1]; exact hst
 have hxrx1:x1.rt=rt:=by rw [hxqx1]; exact hrt
 refine w_v (v:=.int .i64 rt) (ex_cast (x_loadF1 (i:=1) (j:=((me).toNat)) plE (H0.rr 1) hx1 rfl rfl Tryz.underlying3 rfl rfl) (by rw [hxrx1])) ?_
 refine w_k4 ?_
 have H2:S _ [_,_,_,_,_,_,_,_]:=H0.nilFl 3 1 intL
 refine w_k9 ?_
 refine w_v (x_i ((me).toNat) (H2.rr 2)) ?_
 refine w_v (v:=.pointer ((lp).map fun q=>q.add (((me).toNat) * 2+0))) (ex_cast (x_fieldAddrG (m:=((me).toNat) * 2) ((H2.rr 2).some (by omega)) rfl rfl fo27_0) rfl) ?_
 refine w_v (v:=.int .i64 7) (ex_cast (x_loadF1 (i:=0) (j:=((me).toNat)) plE (H2.rr 2) hx1 rfl rfl Tryz.underlying3 rfl rfl) (by rw [hxsx1])) ?_
 refine w_k6 ?_
 refine g_cond_f rfl (by decide) ?_
 refine w_k4 ?_
 refine g_cond_f rfl (by decide) ?_
 refine w_k4 ?_
 refine g_cond_f rfl (by decide) ?_
 refine w_k4 ?_
 refine g_cond_f rfl (by decide) ?_
 refine w_k4 ?_
 refine g_cond_f rfl (by decide) ?_
 refine w_k4 ?_
 refine g_ct rfl ?_
 refine w_k9 ?_
 refine g_cond_t rfl (decide_eq_true (by omega)) ?_
 refine w_k3 ?_
 refine l_of (s_cl (others_r g sd lp lc ps rp rc gs xp xc xs yp yc ys hnp me _ (H2.tk [1])) ?_)
 rintro _ wq5 ⟨po3,co4,rfl,H6⟩
 replace H6:S _ [_,_,_,_,_,_,_,_,_]:=H2.abI (new:=[_,_]) [1] H6 rfl
 have hol:=othV_len ps.length me
 refine b_ret rfl rfl ?_
 refine w_k2 ?_
 refine g_wk [(6,_),(7,_),(8,_)] ?_
 refine g_exit ?_
 refine w_k10 ?_
 refine g_loop (ι:=Nat × Option Addr × Nat × List Int) (fun (i,qq,dq,wt9)=>[(6,.int .i64 rt),(7,.slice po3 ((othV ps.length me).length) co4),(8,.slice qq wt9.length dq),(128,.int .i64 (((othV ps.length me).length:Int))),(129,.int .i64 ((i:Int)))]) (fun (i,qq,dq,wt9) wx=>(i≤(othV ps.length me).length)∧(wt9=List.replicate i (rt / ((othV ps.length me).length:Int)))∧S wx [Rw 3 1 qq wt9.length dq (fl intL wt9),Rw 3 1 po3 ((othV ps.length me).length) co4 (fl intL (othV ps.length me)),Ob g (.cells #[.string sd,.slice lp ps.length lc,.slice rp gs.length rc,.slice xp xs.length xc,.slice yp ys.length yc] 66 (0,0)),Rw 27 2 lp ps.length lc (fl plL ps),Rw 39 1 rp gs.length rc (fl rowL gs),(Pool pl),Rw 43 1 xp xs.length xc (fl rowL xs),(Lst BwI xs),Old w (fps [Ob g (.cells #[.string sd,.slice lp ps.length lc,.slice rp gs.length rc,.slice xp xs.length xc,.slice yp ys.length yc] 66 (0,0)),Rw 27 2 lp ps.length lc (fl plL ps),Rw 39 1 rp gs.length rc (fl rowL gs),(Pool pl),Rw 43 1 xp xs.length xc (fl rowL xs),(Lst BwI xs)])]) (fun (i,qq,dq,wt9)=>((othV ps.length me).length) - i) (0,none,0,[]) ⟨rfl,rfl,rfl,rfl,rfl,trivial⟩ ⟨Nat.zero_le _,rfl,(H6.tk [2,0,1,3,4,5,6,7,8])⟩ ?_
 rintro ⟨i,qq,dq,wt9⟩ wq7 ⟨hi,hwt,H8⟩
 refine g_wk [(6,_),(7,_),(8,_),(128,_),(129,_)] ?_
 have hwtl:wt9.length=i:=(by rw [hwt]; exact List.length_replicate)
 refine w_k3 ?_
 refine g_seq ?_
 by_cases hb9:((i:Int):Int)<((othV ps.length me).length:Int)
 ·
  refine g_ct hb9 ?_
  refine w_k9 ?_
  refine w_b (v:=.int .i64 ((rt / ((othV ps.length me).length:Int)))) (hb:=(b_quo (by omega) (quo64 (by omega)))) ?_
  refine l_of (s_b1 ze3 #[.int .i64 ((rt / ((othV ps.length me).length:Int)))] H8 ?_)
  intro g10 wq11 H12
  have hln17a:=(H12.rr 1).lenL intE
  have hln17:(wt9++[(rt / ((othV ps.length me).length:Int))]).length=wt9.length+1:=by simp only [List.length_append,List.length_cons,List.length_nil] <;> omega
  refine l_of (s_appBn (m:=1) (l:=wt9) (l2:=[(rt / ((othV ps.length me).length:Int))]) intE H12 1 (j0:=0) rfl rfl ⟨rfl,Nat.le_refl _⟩ (wt0 rfl) rfl rfl rfl rfl rfl rfl Tryz.underlying43 inf3 rfl (by decide) (by omega) ?_)
  intro p13 c14 wq15 H16
  refine w_k5 ?_
  refine w_i i ?_
  refine w_k2 ?_
  refine g_rd (i:=(i,qq,dq,wt9)) ((i+1),p13,c14,(wt9++[(rt / ((othV ps.length me).length:Int))])) ⟨by omega,(by rw [hwt,rep_snoc]),(H16.tk [1,2,3,4,5,6,7,8,9])⟩
 ·
  refine g_cf hb9 ?_
  refine w_k12 ?_
  refine fin_r [.tmp 4,.tmp 5] [.slice po3 ((othV ps.length me).length) co4,.slice qq wt9.length dq] ?_
  have hie:i=(othV ps.length me).length:=by omega
  have hv:whatE rt (othV ps.length me)=wt9:=by unfold whatE; rw [hwt,hie]
  rw [hv]
  exact ⟨_,_,_,_,rfl,H8.tk [1,0,2,3,4,5,6,7,8]⟩
theorem cl30:callable Tryz.prog 30=true:=by kernel_rfl
def btwV (G:List (List (List Int))) (a b:Int):Int:=sumI (G.map fun r=>at2 r a b)
theorem btw_snoc (G:List (List (List Int))) (r:List (List Int)) (a b:Int):btwV (G++[r]) a b=btwV G a b+at2 r a b:=by
 unfold btwV
 rw [List.map_append,List.map_singleton,sumI_snoc]
theorem btwV_bd {n:Nat} {pl gs:List Rd} (h:GsOK n pl gs) (hl:gs.length≤200) (a b:Int):0≤btwV (gs.map Rd.v) a b∧btwV (gs.map Rd.v) a b≤200000000:=by
 unfold btwV
 have h1:=sumI_bd (B:=1000000) (l:=(gs.map Rd.v).map fun r=>at2 r a b) fun y hy=>by
   obtain ⟨r,hr,rfl⟩:=List.mem_map.1 hy
   obtain ⟨x,hx,rfl⟩:=List.mem_map.1 hr
   exact (h.ok x hx).at2 a b
 rw [List.length_map,List.length_map] at h1
 omega
theorem btw_part {n:Nat} {pl gs:List Rd} (h:GsOK n pl gs) (hl:gs.length≤200) (a b:Int) (j:Nat):0≤btwV ((gs.take j).map Rd.v) a b∧btwV ((gs.take j).map Rd.v) a b≤200000000:=
 btwV_bd ⟨fun r hr=>h.mem r (List.mem_of_mem_take hr),fun r hr=>h.ok r (List.mem_of_mem_take hr)⟩ (Nat.le_trans (by rw [List.length_take]; exact Nat.min_le_right _ _) hl) a b
def gotN (G:List (List (List Int))) (n:Int) (k:Nat):Int:=sumI ((List.range k).map fun j=>btwV G (j:Nat) n)
def gaveN (G:List (List (List Int))) (n:Int) (k:Nat):Int:=sumI ((List.range k).map fun j=>btwV G n (j:Nat))
def lstN (G:List (List (List Int))) (n:Int) (k:Nat):List Int:=(List.range k).map fun j=>lastV G n (j:Nat)
theorem gotN_s (G:List (List (List Int))) (n:Int) (k:Nat):gotN G n (k+1)=gotN G n k+btwV G (k:Nat) n:=by
 unfold gotN
 rw [List.range_succ,List.map_append,List.map_singleton,sumI_snoc]
theorem between_r (g:Nat) (sd:ByteArray) (lp:Option Addr) (lc:Nat) (ps:List Pl) (rp:Option Addr) (rc:Nat) (gs:List Rd) (xp:Option Addr) (xc:Nat) (xs:List (Ro Int)) (yp:Option Addr) (yc:Nat) (ys:List (Ro Int)) (pl:List Rd) (hG:GsOK ps.length pl gs) (hgl:gs.length≤200) (hnp:ps.length≤9) (a b:Int) (ha:0≤a∧a<ps.length) (hb:0≤b∧b<ps.length)  (w:World) (HS:S w [Ob g (.cells #[.string sd,.slice lp ps.length lc,.slice rp gs.length rc,.slice xp xs.length xc,.slice yp ys.length yc] 66 (0,0)),Rw 39 1 rp gs.length rc (fl rowL gs),(Pool pl)]):Calls Tryz.prog 42 #[.pointer (some ⟨g,0,none⟩),.int .i64 a,.int .i64 b] w fun e w'=>e=.returned (.tuple #[.int .i64 (btwV (gs.map Rd.v) a b),.int .i64 0])∧S w' ([Ob g (.cells #[.string sd,.slice lp ps.length lc,.slice rp gs.length rc,.slice xp xs.length xc,.slice yp ys.length yc] 66 (0,0)),Rw 39 1 rp gs.length rc (fl rowL gs),(Pool pl)]++[Old w (fps [Ob g (.cells #[.string sd,.slice lp ps.length lc,.slice rp gs.length rc,.slice xp xs.length xc,.slice yp ys.length yc] 66 (0,0)),Rw 39 1 rp gs.length rc (fl rowL gs),(Pool pl)])]):=by
 have H0:=HS.beginI
 refine enter 45 Tryz.func42 rfl rfl rfl ?_
 refine g_weak [(0,.pointer (some ⟨g,0,none⟩)),(1,.int .i64 a),(2,.int .i64 b)] ⟨rfl,rfl,rfl,trivial⟩ ?_
 refine w_s ?_
 refine w_r2 ?_
 refine w_e ?_
 refine g_seq ?_
 refine g_block ?_
 refine w_s ?_
 refine w_m ?_
 refine w_b (v:=.bool false) (hb:=(b_eqN (r:=false) Tryz.underlying33 rfl)) ?_
 refine w_a ?_
 refine w_e ?_
 refine g_cond_f rfl rfl ?_
 refine w_s ?_
 refine w_r2 ?_
 refine l_of (s_call (wt0 rfl) (x_call' rfl rfl cl30) (there_r g sd lp lc ps rp rc gs xp xc xs yp yc ys hnp a _ (H0.takes [0] (by decide))) ?_)
 rintro _ wq1 ⟨rfl,H2⟩
 replace H2:S wq1 [Ob g (.cells #[.string sd,.slice lp ps.length lc,.slice rp gs.length rc,.slice xp xs.length xc,.slice yp ys.length yc] 66 (0,0)),Rw 39 1 rp gs.length rc (fl rowL gs),(Pool pl),Old w (fps [Ob g (.cells #[.string sd,.slice lp ps.length lc,.slice rp gs.length rc,.slice xp xs.length xc,.slice yp ys.length yc] 66 (0,0)),Rw 39 1 rp gs.length rc (fl rowL gs),(Pool pl)])]:=H0.absorbI (new:=[Ob g (.cells #[.string sd,.slice lp ps.length lc,.slice rp gs.length rc,.slice xp xs.length xc,.slice yp ys.length yc] 66 (0,0))]) [0] H2
 refine b_ret rfl rfl ?_
 refine w_v (v:=.bool (!decide (0≤a∧a<(ps.length:Int)))) (x_not (b:=decide (0≤a∧a<(ps.length:Int))) rfl rfl) ?_
 refine w_m ?_
 refine w_g (nf ha) xm ?_
 refine w_g (nf ha) xm ?_
 refine l_of (s_call (wt1 rfl rfl rfl rfl (nf ha)) (x_call' rfl rfl cl30) (there_r g sd lp lc ps rp rc gs xp xc xs yp yc ys hnp b _ (H2.takes [0] (by decide))) ?_)
 rintro _ wq3 ⟨rfl,H4⟩
 replace H4:S wq3 [Ob g (.cells #[.string sd,.slice lp ps.length lc,.slice rp gs.length rc,.slice xp xs.length xc,.slice yp ys.length yc] 66 (0,0)),Rw 39 1 rp gs.length rc (fl rowL gs),(Pool pl),Old w (fps [Ob g (.cells #[.string sd,.slice lp ps.length lc,.slice rp gs.length rc,.slice xp xs.length xc,.slice yp ys.length yc] 66 (0,0)),Rw 39 1 rp gs.length rc (fl rowL gs),(Pool pl)])]:=H2.absorbI (new:=[Ob g (.cells #[.string sd,.slice lp ps.length lc,.slice rp gs.length rc,.slice xp xs.length xc,.slice yp ys.length yc] 66 (0,0))]) [0] H4
 refine b_ret rfl rfl ?_
 refine w_g (v:=.bool (!decide (0≤b∧b<(ps.length:Int)))) (nf ha) (x_not (b:=decide (0≤b∧b<(ps.length:Int))) rfl rfl) ?_
 refine w_v (v:=.bool (!decide (0≤b∧b<(ps.length:Int)))) (x_pick_f rfl rfl (nf ha) rfl) ?_
 refine w_a ?_
 refine w_e ?_
 refine g_cond_f rfl (nf hb) ?_
 refine g_skip ?_
 refine g_in ?_
 refine g_then ?_
 refine w_s ?_
 refine w_a ?_
 refine w_e ?_
 refine g_seq ?_
 refine w_s ?_
 refine w_r3 ?_
 refine w_1 H4 0 ?_
 refine w_v (v:=.int .i64 ((gs.length:Int))) (x_lenl rfl rfl Tryz.underlying56) ?_
 refine w_m ?_
 refine w_e ?_
 refine g_block ?_
 refine g_loop (ι:=Nat × Int) (fun (i,s)=>[(1,.int .i64 a),(2,.int .i64 b),(8,.int .i64 s),(28,.slice rp gs.length rc),(29,.int .i64 ((gs.length:Int))),(30,.int .i64 ((i:Int)))]) (fun (i,s) wx=>(i≤gs.length)∧(s=btwV ((gs.take i).map Rd.v) a b)∧S wx [Ob g (.cells #[.string sd,.slice lp ps.length lc,.slice rp gs.length rc,.slice xp xs.length xc,.slice yp ys.length yc] 66 (0,0)),Rw 39 1 rp gs.length rc (fl rowL gs),(Pool pl),Old w (fps [Ob g (.cells #[.string sd,.slice lp ps.length lc,.slice rp gs.length rc,.slice xp xs.length xc,.slice yp ys.length yc] 66 (0,0)),Rw 39 1 rp gs.length rc (fl rowL gs),(Pool pl)])]) (fun (i,s)=>gs.length - i) (0,0) ⟨rfl,rfl,rfl,rfl,rfl,rfl,trivial⟩ ⟨Nat.zero_le _,rfl,(H4.takes [0,1,2,3] (by decide))⟩ ?_
 rintro ⟨i,s⟩ wq5 ⟨hi,hs,H6⟩
 refine g_weak [(1,.int .i64 a),(2,.int .i64 b),(8,.int .i64 s),(28,.slice rp gs.length rc),(29,.int .i64 ((gs.length:Int))),(30,.int .i64 ((i:Int)))] ⟨rfl,rfl,rfl,rfl,rfl,rfl,trivial⟩ ?_
 refine w_s ?_
 refine w_b ?_
 refine w_e ?_
 refine g_seq ?_
 by_cases hb7:((i:Int):Int)<(gs.length:Int)
 ·
  refine g_cond_t rfl (decide_eq_true hb7) ?_
  refine g_skip ?_
  refine g_then ?_
  refine g_seq ?_
  refine g_block ?_
  refine w_s ?_
  refine w_v (v:=.pointer ((rp).map fun q=>q.add (i * 1))) (x_idxR i (H6.rwReads (k:=1) rfl) rfl rfl rfl Tryz.underlying56 sz39 (by omega)) ?_
  have hlq:=(H6.rwReads (k:=1) rfl).lenL rowE
  obtain ⟨x8,hx8⟩:=ex_at (l:=gs) (j:=i) (by omega)
  clear hlq
  have hlr9:=(hG.ok x8 (List.mem_of_getElem? hx8)).lenR
  have hox8:=hG.ok x8 (List.mem_of_getElem? hx8)
  refine w_v (v:=.slice x8.p x8.l.length x8.c) (x_loadR1 i (H6.rwReads (k:=1) rfl) (by omega) rfl rfl Tryz.underlying39 rfl (rowE.flAt1 hx8 rfl)) ?_
  refine w_a ?_
  refine w_e ?_
  refine g_region ?_
  refine w_r3 ?_
  refine w_v (v:=.pointer ((x8.p).map fun q=>q.add (((a).toNat) * 1))) (x_idxR ((a).toNat) (H6.poolRd (k:=2) rfl (hG.mem x8 (List.mem_of_getElem? hx8))) rfl rfl rfl Tryz.underlying39 sz43 (by omega)) ?_
  have hlq:=(H6.poolRd (k:=2) rfl (hG.mem x8 (List.mem_of_getElem? hx8))).lenL rowE
  obtain ⟨x9,hx9⟩:=ex_at (l:=x8.l) (j:=((a).toNat)) (by omega)
  clear hlq
  have hlx9:=(hG.ok x8 (List.mem_of_getElem? hx8)).row_at hx9
  refine w_v (v:=.slice x9.p x9.l.length x9.c) (x_loadR1 ((a).toNat) (H6.poolRd (k:=2) rfl (hG.mem x8 (List.mem_of_getElem? hx8))) (by omega) rfl rfl Tryz.underlying43 rfl (rowE.flAt1 hx9 rfl)) ?_
  refine w_m ?_
  refine w_v (v:=.pointer ((x9.p).map fun q=>q.add (((b).toNat) * 1))) (x_idxR ((b).toNat) (H6.poolRow (k:=2) rfl (hG.mem x8 (List.mem_of_getElem? hx8)) hx9) rfl rfl rfl Tryz.underlying43 sz3 (by omega)) ?_
  have hlq:=(H6.poolRow (k:=2) rfl (hG.mem x8 (List.mem_of_getElem? hx8)) hx9).lenL intE
  obtain ⟨x10,hx10⟩:=ex_at (l:=x9.l) (j:=((b).toNat)) (by omega)
  clear hlq
  have hat9:=at2_is (r:=x8) (a:=a) (b:=b) hx9 hx10
  have hab9:=(hG.ok x8 (List.mem_of_getElem? hx8)).at2 a b
  rw [hat9] at hab9
  have hsp9:=btw_part hG hgl a b i
  rw [← hs] at hsp9
  refine w_v (v:=.int .i64 x10) (x_loadR1 ((b).toNat) (H6.poolRow (k:=2) rfl (hG.mem x8 (List.mem_of_getElem? hx8)) hx9) (by omega) rfl rfl Tryz.underlying3 rfl (intE.flAt1 hx10 rfl)) ?_
  refine w_b (v:=.int .i64 (s+x10)) (hb:=(b_add (w64 (by omega)))) ?_
  refine w_a ?_
  refine g_nil ?_
  refine g_in ?_
  refine g_then ?_
  refine g_region ?_
  refine w_b (v:=.int .i64 (((i+1:Nat):Int))) (hb:=(b_add (by rw [w64 (by omega)]; omega))) ?_
  refine w_m ?_
  refine w_e ?_
  refine g_round (i:=(i,s)) ((i+1),(s+x10)) ?_ ?_ ?_
  · exact ⟨rfl,rfl,rfl,rfl,rfl,rfl,trivial⟩
  · exact ⟨by omega,(by rw [take_snocT hx8,List.map_append]; show _=btwV (_++[x8.v]) a b; rw [btw_snoc,← hs,hat9]),(H6.takes [0,1,2,3] (by decide))⟩
  · (try dsimp only); omega
 ·
  refine g_cond_f rfl (decide_eq_false hb7) ?_
  refine g_exit ?_
  refine g_then_exit ?_
  refine g_then_exit ?_
  refine g_in_hit ?_
  refine g_then ?_
  refine w_s ?_
  refine w_r3 ?_
  refine w_e ?_
  refine g_ret ?_
  refine fin_ret [.tmp 6,.tmp 7] [.int .i64 s,.int .i64 0] rfl ⟨rfl,rfl,trivial⟩ ?_
  rw [List.take_of_length_le (by omega)] at hs
  rw [← hs]
  exact ⟨rfl,H6.takes [0,1,2,3] (by decide)⟩
section
variable (g:Nat) (sd:ByteArray) (lp:Option Addr) (lc:Nat) (ps:List Pl) (rp:Option Addr) (rc:Nat) (gs:List Rd) (xp:Option Addr) (xc:Nat) (xs:List (Ro Int)) (yp:Option Addr) (yc:Nat) (ys:List (Ro Int))
abbrev DRh0 (pl:List Rd):=[Ob g (.cells #[.string sd,.slice lp ps.length lc,.slice rp gs.length rc,.slice xp xs.length xc,.slice yp ys.length yc] 66 (0,0)),Rw 39 1 rp gs.length rc (fl rowL gs),(Pool pl)]
theorem between_r7b (pl:List Rd) (hG:GsOK ps.length pl gs) (hgl:gs.length≤200) (hnp:ps.length≤9) (a b:Int) (ha:0≤a∧a<ps.length) (hn:¬ (0≤b∧b<(ps.length:Int)))  (w:World) (HS:S w (DRh0 g sd lp lc ps rp rc gs xp xc xs yp yc ys pl)):Calls Tryz.prog 42 #[.pointer (some ⟨g,0,none⟩),.int .i64 a,.int .i64 b] w fun e w'=>e=.returned (.tuple #[.int .i64 0,.int .i64 7])∧S w' ((DRh0 g sd lp lc ps rp rc gs xp xc xs yp yc ys pl)++[Old w (fps (DRh0 g sd lp lc ps rp rc gs xp xc xs yp yc ys pl))]):=by
 have H0:=HS.beginI
 refine enter 45 Tryz.func42 rfl rfl rfl ?_
 refine g_wk [(0,_),(1,_),(2,_)] ?_
 refine w_s ?_
 refine w_k7 ?_
 refine w_b (v:=.bool false) (hb:=(b_eqN (r:=false) Tryz.underlying33 rfl)) ?_
 refine w_k2 ?_
 refine g_cond_f rfl rfl ?_
 refine w_k3 ?_
 refine l_of (s_cl (there_r g sd lp lc ps rp rc gs xp xc xs yp yc ys hnp a _ (H0.tk [0])) ?_)
 rintro _ wq1 ⟨rfl,H2⟩
 replace H2:S _ [_,_,_,_]:=H0.abI (new:=[_]) [0] H2 rfl
 refine b_ret rfl rfl ?_
 refine w_v (x_not (b:=decide (0≤a∧a<(ps.length:Int))) rfl rfl) ?_
 refine w_m ?_
 iterate 2 refine w_g (nf ha) xm ?_
 refine l_of (s_call (wt1 rfl rfl rfl rfl (nf ha)) (x_call' rfl rfl cl30) (there_r g sd lp lc ps rp rc gs xp xc xs yp yc ys hnp b _ (H2.tk [0])) ?_)
 rintro _ wq3 ⟨rfl,H4⟩
 replace H4:S _ [_,_,_,_]:=H2.abI (new:=[_]) [0] H4 rfl
 refine b_ret rfl rfl ?_
 refine w_g (nf ha) (x_not (b:=decide (0≤b∧b<(ps.length:Int))) rfl rfl) ?_
 refine w_v (x_pick_f rfl rfl (nf ha) rfl) ?_
 refine w_k2 ?_
 refine g_nt hn ?_
 refine w_k7 ?_
 refine fin_r [.tmp 6,.tmp 7] [.int .i64 0,.int .i64 7] ?_
 exact ⟨rfl,H4.tk [0,1,2,3]⟩
abbrev DRh1:=Ob g (.cells #[.string sd,.slice lp ps.length lc,.slice rp gs.length rc,.slice xp xs.length xc,.slice yp ys.length yc] 66 (0,0))
theorem got_rr (pl:List Rd) (hG:GsOK ps.length pl gs) (hgl:gs.length≤200) (hnp:ps.length≤9) (n:Int) (hn:0≤n∧n<ps.length)  (w:World) (HS:S w (DRh0 g sd lp lc ps rp rc gs xp xc xs yp yc ys pl)):Calls Tryz.prog 36 #[.pointer (some ⟨g,0,none⟩),.int .i64 n] w fun e w'=>e=.returned (.tuple #[.int .i64 (gotN (gs.map Rd.v) n ps.length),.int .i64 0])∧S w' ((DRh0 g sd lp lc ps rp rc gs xp xc xs yp yc ys pl)++[Old w (fps (DRh0 g sd lp lc ps rp rc gs xp xc xs yp yc ys pl))]):=by
 have H0:=HS.beginI
 refine enter 33 Tryz.func36 rfl rfl rfl ?_
 refine g_wk [(0,_),(1,_)] ?_
 refine w_s ?_
 refine w_k16 ?_
 refine g_loop (ι:=Nat × Int) (fun (i,s)=>[(0,.pointer (some ⟨g,0,none⟩)),(1,.int .i64 n),(6,.int .i64 s),(14,.int .i64 ((ps.length:Int))),(15,.int .i64 ((i:Int)))]) (fun (i,s) wx=>(i≤ps.length)∧(s=gotN (gs.map Rd.v) n i)∧(0≤s∧s≤200000000 * (i:Int))∧S wx [DRh1 g sd lp lc ps rp rc gs xp xc xs yp yc ys,Rw 39 1 rp gs.length rc (fl rowL gs),(Pool pl),Old w (fps (DRh0 g sd lp lc ps rp rc gs xp xc xs yp yc ys pl))]) (fun (i,s)=>ps.length - i) (0,0) ⟨rfl,rfl,rfl,rfl,rfl,trivial⟩ ⟨(Nat.zero_le _),rfl,(by omega),(H0.tk [0,1,2,3])⟩ ?_
 rintro ⟨i,s⟩ wq1 ⟨hi,hs,hsb,H2⟩
 refine g_wk [(0,_),(1,_),(6,_),(14,_),(15,_)] ?_
 refine w_s ?_
 refine w_k2 ?_
 refine g_seq ?_
 by_cases hb3:((i:Int):Int)<(ps.length:Int)
 ·
  refine g_ct hb3 ?_
  refine w_k12 ?_
  refine l_of (s_cl (between_r g sd lp lc ps rp rc gs xp xc xs yp yc ys pl hG hgl hnp (i:Int) n ⟨by omega,by omega⟩ hn _ (H2.tk [0,1,2])) ?_)
  rintro _ wq5 ⟨rfl,H6⟩
  replace H6:S _ [_,_,_,_]:=H2.abI (new:=[_,_,_]) [0,1,2] H6 rfl
  have hbtq4:=btwV_bd hG hgl (i:Int) n
  refine b_ret rfl rfl ?_
  refine w_k9 ?_
  refine w_b (v:=.bool (!decide ((0:Int)=0))) (hb:=b_neq) ?_
  refine w_e ?_
  refine g_nf rfl ?_
  refine w_k5 ?_
  refine w_b (v:=.int .i64 (s+(btwV (gs.map Rd.v) (i:Int) n))) (hb:=(b_add (w64 (by omega)))) ?_
  refine w_k5 ?_
  refine w_i i ?_
  refine w_k2 ?_
  refine g_rd (i:=(i,s)) ((i+1),(s+btwV (gs.map Rd.v) (i:Int) n)) ⟨(by omega),(by rw [gotN_s,← hs]),(by omega),(H6.tk [0,1,2,3])⟩
 ·
  refine g_cf hb3 ?_
  refine w_k11 ?_
  refine fin_r [.tmp 4,.tmp 5] [.int .i64 s,.int .i64 0] ?_
  have hie:i=ps.length:=by omega
  rw [hie] at hs
  rw [← hs]
  exact ⟨rfl,H2.tk [0,1,2,3]⟩
end
theorem think_r (g:Nat) (sd:ByteArray) (lp:Option Addr) (lc:Nat) (ps:List Pl) (rp:Option Addr) (rc:Nat) (gs:List Rd) (xp:Option Addr) (xc:Nat) (xs:List (Ro Int)) (yp:Option Addr) (yc:Nat) (ys:List (Ro Int)) (hnp:ps.length≤9) (n:Int) (hn:0≤n∧n<ps.length) (pm:Pl) (hpm:ps[n.toNat]?=some pm) (rt:Int) (hrt:pm.rt=rt) (hr0:0≤rt∧rt≤1000000) (hxl:n.toNat<xs.length) (hyl:n.toNat<ys.length)  (w:World) (HS:S w [Ob g (.cells #[.string sd,.slice lp ps.length lc,.slice rp gs.length rc,.slice xp xs.length xc,.slice yp ys.length yc] 66 (0,0)),Rw 27 2 lp ps.length lc (fl plL ps),Rw 43 1 xp xs.length xc (fl rowL xs),(Lst BwI xs),Rw 43 1 yp ys.length yc (fl rowL ys),(Lst BwI ys)]):Calls Tryz.prog 28 #[.pointer (some ⟨g,0,none⟩),.int .i64 n] w fun e w'=>∃ zp zr:Ro Int,e=.returned (.tuple #[])∧zp.l=List.replicate ps.length (rt / 4)∧zr.l=List.replicate ps.length 0∧S w' ([Ob g (.cells #[.string sd,.slice lp ps.length lc,.slice rp gs.length rc,.slice xp xs.length xc,.slice yp ys.length yc] 66 (0,0)),Rw 27 2 lp ps.length lc (fl plL ps),Rw 43 1 xp xs.length xc (fl rowL (xs.set n.toNat zp)),Lst BwI (xs.set n.toNat zp),Rw 43 1 yp ys.length yc (fl rowL (ys.set n.toNat zr)),Lst BwI (ys.set n.toNat zr)]++[Old w (fps [Ob g (.cells #[.string sd,.slice lp ps.length lc,.slice rp gs.length rc,.slice xp xs.length xc,.slice yp ys.length yc] 66 (0,0)),Rw 27 2 lp ps.length lc (fl plL ps),Rw 43 1 xp xs.length xc (fl rowL xs),(Lst BwI xs),Rw 43 1 yp ys.length yc (fl rowL ys),(Lst BwI ys)])]):=by
 have H0:=HS.beginI
 have hmp:=(List.getElem?_eq_some_iff.1 hpm).1
 refine enter 43 Tryz.func28 rfl rfl rfl ?_
 refine g_wk [(0,_),(1,_)] ?_
 refine w_s ?_
 have H1:S _ [_,_,_,_,_,_,_,_]:=H0.nilFl 3 1 intL
 refine w_a ?_
 have H2:S _ [_,_,_,_,_,_,_,_,_]:=H1.nilFl 3 1 intL
 refine w_k12 ?_
 refine g_loop (ι:=Nat × Option Addr × Nat × List Int × Option Addr × Nat × List Int) (fun (i,pa,ca,za,pb,cb,zb)=>[(0,.pointer (some ⟨g,0,none⟩)),(1,.int .i64 n),(4,.slice pa za.length ca),(5,.slice pb zb.length cb),(10,.int .i64 ((ps.length:Int))),(11,.int .i64 ((i:Int)))]) (fun (i,pa,ca,za,pb,cb,zb) wx=>(i≤ps.length)∧(za=List.replicate i (rt / 4))∧(zb=List.replicate i 0)∧S wx [Rw 3 1 pa za.length ca (fl intL za),Rw 3 1 pb zb.length cb (fl intL zb),Ob g (.cells #[.string sd,.slice lp ps.length lc,.slice rp gs.length rc,.slice xp xs.length xc,.slice yp ys.length yc] 66 (0,0)),Rw 27 2 lp ps.length lc (fl plL ps),Rw 43 1 xp xs.length xc (fl rowL xs),(Lst BwI xs),Rw 43 1 yp ys.length yc (fl rowL ys),(Lst BwI ys),Old w (fps [Ob g (.cells #[.string sd,.slice lp ps.length lc,.slice rp gs.length rc,.slice xp xs.length xc,.slice yp ys.length yc] 66 (0,0)),Rw 27 2 lp ps.length lc (fl plL ps),Rw 43 1 xp xs.length xc (fl rowL xs),(Lst BwI xs),Rw 43 1 yp ys.length yc (fl rowL ys),(Lst BwI ys)])]) (fun (i,pa,ca,za,pb,cb,zb)=>ps.length - i) (0,none,0,[],none,0,[]) ⟨rfl,rfl,rfl,rfl,rfl,rfl,trivial⟩ ⟨(Nat.zero_le _),rfl,rfl,(H2.tk [0,1,2,3,4,5,6,7,8])⟩ ?_
 rintro ⟨i,pa,ca,za,pb,cb,zb⟩ wq3 ⟨hi,hza,hzb,H4⟩
 refine g_wk [(0,_),(1,_),(4,_),(5,_),(10,_),(11,_)] ?_
 have hal:za.length=i:=(by rw [hza]; exact List.length_replicate); have hbl9:zb.length=i:=(by rw [hzb]; exact List.length_replicate)
 refine w_k3 ?_
 refine g_seq ?_
 by_cases hb5:((i:Int):Int)<(ps.length:Int)
 ·
  refine g_ct hb5 ?_
  refine w_k11 ?_
  refine w_v (x_i ((n).toNat) (H4.rr 3)) ?_
  refine w_v (v:=.pointer ((lp).map fun q=>q.add (((n).toNat) * 2+1))) (ex_cast (x_fieldAddrG (m:=((n).toNat) * 2) ((H4.rr 3).some (by omega)) rfl rfl fo27_1) rfl) ?_
  obtain ⟨x6,hx6⟩:=(H4.rr 3).exL plE ((n).toNat)
  have hxrx6:x6.rt=rt:=by rw [show x6=pm from Option.some.inj (hx6.symm.trans hpm)]; exact hrt
  refine w_v (v:=.int .i64 rt) (ex_cast (x_loadF1 (i:=1) (j:=((n).toNat)) plE (H4.rr 3) hx6 rfl rfl Tryz.underlying3 rfl rfl) (by rw [hxrx6])) ?_
  refine w_b (v:=.int .i64 (rt / 4)) (hb:=(b_quo (by omega) (quo64 (by omega)))) ?_
  refine l_of (s_b1 ze3 #[.int .i64 (rt / 4)] H4 ?_)
  intro g7 wq8 H9
  have hln14a:=(H9.rr 1).lenL intE
  have hln14:(za++[rt / 4]).length=za.length+1:=by simp only [List.length_append,List.length_cons,List.length_nil] <;> omega
  refine l_of (s_appBn (m:=1) (l:=za) (l2:=[rt / 4]) intE H9 1 (j0:=0) rfl rfl ⟨rfl,Nat.le_refl _⟩ (wt0 rfl) rfl rfl rfl rfl rfl rfl Tryz.underlying43 inf3 rfl (by decide) (by omega) ?_)
  intro p10 c11 wq12 H13
  refine w_m ?_
  refine l_of (s_b1 ze3 #[.int .i64 0] H13 ?_)
  intro g15 wq16 H17
  have hln22a:=(H17.rr 3).lenL intE
  have hln22:(zb++[0]).length=zb.length+1:=by simp only [List.length_append,List.length_cons,List.length_nil] <;> omega
  refine l_of (s_appBn (m:=1) (l:=zb) (l2:=[0]) intE H17 3 (j0:=0) rfl rfl ⟨rfl,Nat.le_refl _⟩ (wt0 rfl) rfl rfl rfl rfl rfl rfl Tryz.underlying43 inf3 rfl (by decide) (by omega) ?_)
  intro p18 c19 wq20 H21
  refine w_k6 ?_
  refine w_i i ?_
  refine w_k2 ?_
  refine g_rd (i:=(i,pa,ca,za,pb,cb,zb)) ((i+1),p10,c11,(za++[rt / 4]),p18,c19,(zb++[0])) ⟨(by omega),(by rw [hza,rep_snoc]),(by rw [hzb,rep_snoc]),(H21.tk [2,3,4,5,6,7,8,9,10])⟩
 ·
  refine g_cf hb5 ?_
  refine w_k5 ?_
  refine g_anyY [] (fun wx=>S wx [Ob g (.cells #[.string sd,.slice lp ps.length lc,.slice rp gs.length rc,.slice xp xs.length xc,.slice yp ys.length yc] 66 (0,0))]) (fun wx=>S wx []) [13,15] (by kernel_rfl) H4 (fun wq23 H24=>?_)
  refine y_p 0 rfl (fun _=>xm) ?_
  refine y_p 1 rfl (fun _=>xn) ?_
  refine y_p 2 rfl (fun _=>xf 3) ?_
  have cm1:=H24.mask [false,false,true,false,false,false,false,false,false]
  refine y_t 3 rfl cm1 (fun _ H=>xl H 0) ?_
  refine y_p 4 rfl (fun _=>xm) ?_
  refine y_p 5 rfl (fun _=>xm) ?_
  refine y_p 6 rfl (fun _=>xn) ?_
  refine y_p 7 rfl (fun _=>xf 4) ?_
  refine y_t 8 rfl cm1 (fun _ H=>xl H 0) ?_
  refine y_p 9 rfl (fun _=>xm) ?_
  refine y_p 10 rfl (fun _=>xm) ?_
  refine y_p 11 rfl (fun _=>xm) ?_
  refine y_p 12 rfl (fun _=>x_ip ((n).toNat) ((H24.rr 4).some (by omega))) ?_
  refine y_one (i:=13) (by kernel_rfl) rfl ?_
  refine s_stoL (j:=((n).toNat)) rowE (⟨pa,ca,za⟩:Ro Int) H24 4 (wt0 rfl) rfl rfl rfl rfl rfl rfl sz43 (by omega) ?_
  intro wq25 H26
  refine y_kt rfl (H26.mask [false,false,false,false,false,false,false,false,false]) ?_
  refine y_p 14 rfl (fun _=>x_ip ((n).toNat) ((H26.rr 6).some (by omega))) ?_
  refine y_one (i:=15) (by kernel_rfl) rfl ?_
  refine s_stoL (j:=((n).toNat)) rowE (⟨pb,cb,zb⟩:Ro Int) H26 6 (wt0 rfl) rfl rfl rfl rfl rfl rfl sz43 (by omega) ?_
  intro wq27 H28
  refine y_kt rfl (H28.mask [false,false,false,false,false,false,false,false,false]) ?_
  refine y_done (by kernel_rfl) ?_
  refine fin_end [] [] rfl trivial ?_
  have hie:i=ps.length:=by omega
  rw [hie] at hza hzb
  obtain ⟨x9,hx9⟩:=ex_at (l:=xs) (j:=n.toNat) (by omega)
  obtain ⟨y9,hy9⟩:=ex_at (l:=ys) (j:=n.toNat) (by omega)
  have H29:=S.lstOut (F:=BwI) (H28.tk [5,0,7,1,2,3,4,6,8]) hx9
  have H30:=S.lstIn (F:=BwI) (x:=(⟨pa,ca,za⟩:Ro Int)) (H29.tk [2,1,3,4,5,6,7,8,9]) (List.getElem?_eq_some_iff.1 hx9).1
  have H31:=S.lstOut (F:=BwI) (H30.tk [1,0,2,3,4,5,6,7]) hy9
  have H32:=S.lstIn (F:=BwI) (x:=(⟨pb,cb,zb⟩:Ro Int)) (H31.tk [3,1,2,4,5,6,7,8]) (List.getElem?_eq_some_iff.1 hy9).1
  exact ⟨⟨pa,ca,za⟩,⟨pb,cb,zb⟩,rfl,hza,hzb,H32.tk [2,3,4,1,5,0,6]⟩
theorem validp_r (x:Pl)  (w:World):Calls Tryz.prog 8 #[.agg #[.int .i64 (x.st),.int .i64 (x.rt)]] w fun e w'=>e=.returned (.bool (valP x))∧S w' [Old w no]:=by
 have H0:=S.old w
 refine enter 21 Tryz.func8 rfl rfl rfl ?_
 refine g_wk [(0,_)] ?_
 refine w_s ?_
 refine l_of (s_box H0 (wt0 rfl) rfl rfl rfl rfl ?_)
 intro g1 wq2 H3
 refine w_k7 ?_
 by_cases hb4:(1:Int)≤x.st
 ·
  refine w_g (decide_eq_true hb4) (xf 0) ?_
  refine w_g (decide_eq_true hb4) (xl H3 0) ?_
  refine w_g (decide_eq_true hb4) (x_bin rfl rfl rfl b_leq) ?_
  refine w_v (x_pick_t rfl rfl (decide_eq_true hb4) rfl) ?_
  refine w_m ?_
  by_cases hb5:(x.st:Int)≤7
  ·
   refine w_g (decide_eq_true hb5) (xf 1) ?_
   refine w_g (decide_eq_true hb5) (xl H3 0) ?_
   refine w_g (decide_eq_true hb5) (x_bin rfl rfl rfl b_geq) ?_
   refine w_v (x_pick_t rfl rfl (decide_eq_true hb5) rfl) ?_
   refine w_m ?_
   by_cases hb6:(0:Int)≤x.rt
   ·
    refine w_g (decide_eq_true hb6) (xf 1) ?_
    refine w_g (decide_eq_true hb6) (xl H3 0) ?_
    refine w_g (decide_eq_true hb6) (x_bin rfl rfl rfl b_leq) ?_
    refine w_v (x_pick_t rfl rfl (decide_eq_true hb6) rfl) ?_
    refine w_k3 ?_
    refine fin_r [.tmp 2] [.bool (decide ((x.rt:Int)≤1000000))] ?_
    exact ⟨by unfold valP; simp [hb4,hb5,hb6,tupled],H3.mask [false,true]⟩
   ·
    iterate 3 refine w_n (decide_eq_false hb6) ?_
    refine w_v (x_pick_f rfl rfl (decide_eq_false hb6) rfl) ?_
    refine w_k3 ?_
    refine fin_r [.tmp 2] [.bool false] ?_
    exact ⟨by unfold valP; simp [hb4,hb5,hb6,tupled],H3.mask [false,true]⟩
  ·
   iterate 3 refine w_n (decide_eq_false hb5) ?_
   refine w_v (x_pick_f rfl rfl (decide_eq_false hb5) rfl) ?_
   refine w_m ?_
   iterate 3 refine w_n rfl ?_
   refine w_v (x_pick_f rfl rfl rfl rfl) ?_
   refine w_k3 ?_
   refine fin_r [.tmp 2] [.bool false] ?_
   exact ⟨by unfold valP; simp [hb4,hb5,tupled],H3.mask [false,true]⟩
 ·
  iterate 3 refine w_n (decide_eq_false hb4) ?_
  refine w_v (x_pick_f rfl rfl (decide_eq_false hb4) rfl) ?_
  refine w_m ?_
  iterate 3 refine w_n rfl ?_
  refine w_v (x_pick_f rfl rfl rfl rfl) ?_
  refine w_m ?_
  iterate 3 refine w_n rfl ?_
  refine w_v (x_pick_f rfl rfl rfl rfl) ?_
  refine w_k3 ?_
  refine fin_r [.tmp 2] [.bool false] ?_
  exact ⟨by unfold valP; simp [hb4,tupled],H3.mask [false,true]⟩
end Go.Proofs.YtpbjekdjebjbkaaGreatDoor
