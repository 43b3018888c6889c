import Derived.Test.YtpbjekdjebjbkaaGreatDoorFm
import Derived.Test.YtpbjekdjebjbkaaGreatDoorRx
set_option maxRecDepth 20000
set_option maxHeartbeats 4000000
set_option linter.unusedSimpArgs false
set_option linter.unusedVariables false
namespace Go.Proofs.YtpbjekdjebjbkaaGreatDoor
open Go.RowKit
theorem copyr_s (g:Nat) (sd:ByteArray) (lp:Option Addr) (lc:Nat) (ps:List Pl) (rp:Option Addr) (rc:Nat) (gs:List Rd) (xp:Option Addr) (xc:Nat) (xs:List (Ro Int)) (yp:Option Addr) (yc:Nat) (ys:List (Ro Int)) (hnp:ps.length≤9) (hgl:gs.length≤1000) (hxl:xs.length=ps.length) (hyl:ys.length=ps.length) (hxw:∀ x∈xs,x.l.length≤9) (hyw:∀ y∈ys,y.l.length≤9)  (w:World) (HS:S w [Ob g (.cells #[.string sd,.slice lp ps.length lc,.slice rp gs.length rc,.slice xp xs.length xc,.slice yp ys.length yc] 66 (0,0)),Rw 27 2 lp ps.length lc (fl plL ps),Rw 39 1 rp gs.length rc (fl rowL gs),Rw 43 1 xp xs.length xc (fl rowL xs),(Lst BwI xs),Rw 43 1 yp ys.length yc (fl rowL ys),(Lst BwI ys)]):Calls Tryz.prog 48 #[.pointer (some ⟨g,0,none⟩)] w fun e w'=>∃ Y:GR,e=.returned (.pointer (some ⟨Y.g,0,none⟩))∧Y.A=(⟨sd,ps,gs.map Rd.v,xs.map Ro.l,ys.map Ro.l⟩:RA)∧Y.gs=gs∧S w' ([Y.I]++[Ob g (.cells #[.string sd,.slice lp ps.length lc,.slice rp gs.length rc,.slice xp xs.length xc,.slice yp ys.length yc] 66 (0,0)),Rw 27 2 lp ps.length lc (fl plL ps),Rw 39 1 rp gs.length rc (fl rowL gs),Rw 43 1 xp xs.length xc (fl rowL xs),(Lst BwI xs),Rw 43 1 yp ys.length yc (fl rowL ys),(Lst BwI ys)]++[Old w (fps [Ob g (.cells #[.string sd,.slice lp ps.length lc,.slice rp gs.length rc,.slice xp xs.length xc,.slice yp ys.length yc] 66 (0,0)),Rw 27 2 lp ps.length lc (fl plL ps),Rw 39 1 rp gs.length rc (fl rowL gs),Rw 43 1 xp xs.length xc (fl rowL xs),(Lst BwI xs),Rw 43 1 yp ys.length yc (fl rowL ys),(Lst BwI ys)])]):=by
 have H0:=HS.beginI
 refine enter 65 Tryz.func48 rfl rfl rfl ?_
 refine g_wk [(0,_)] ?_
 refine w_s ?_
 refine w_k2 ?_
 refine g_seq ?_
 refine g_cut (ι:=Nat × Option Addr × Nat × Option Addr × Nat) (fun (y,a1,c1,a2,c2)=>[(0,.pointer (some ⟨g,0,none⟩)),(3,.pointer (some ⟨y,0,none⟩))]) (fun (y,a1,c1,a2,c2) wx=>S wx [Ob y (.cells #[.string sd,.slice a1 ps.length c1,.slice a2 gs.length c2,.slice none 0 0,.slice none 0 0] 66 (0,0)),Rw 27 2 a1 ps.length c1 (fl plL ps),Rw 39 1 a2 gs.length c2 (fl rowL gs),Ob g (.cells #[.string sd,.slice lp ps.length lc,.slice rp gs.length rc,.slice xp xs.length xc,.slice yp ys.length yc] 66 (0,0)),Rw 27 2 lp ps.length lc (fl plL ps),Rw 39 1 rp gs.length rc (fl rowL gs),Rw 43 1 xp xs.length xc (fl rowL xs),(Lst BwI xs),Rw 43 1 yp ys.length yc (fl rowL ys),(Lst BwI ys),Old w (fps [Ob g (.cells #[.string sd,.slice lp ps.length lc,.slice rp gs.length rc,.slice xp xs.length xc,.slice yp ys.length yc] 66 (0,0)),Rw 27 2 lp ps.length lc (fl plL ps),Rw 39 1 rp gs.length rc (fl rowL gs),Rw 43 1 xp xs.length xc (fl rowL xs),(Lst BwI xs),Rw 43 1 yp ys.length yc (fl rowL ys),(Lst BwI ys)])]) ?_ ?_
 ·
  refine g_any [] (fun wx=>S wx [Ob g (.cells #[.string sd,.slice lp ps.length lc,.slice rp gs.length rc,.slice xp xs.length xc,.slice yp ys.length yc] 66 (0,0))]) [] (by kernel_rfl) H0 (fun wq1 H2=>?_)
  have cm1:=H2.mask [true,false,false,false,false,false,false,false]
  refine w_t 0 rfl cm1 (fun _ _=>xm) ?_
  refine w_t 1 rfl cm1 (fun _ _=>xn) ?_
  refine w_t 2 rfl cm1 (fun _ _=>xf 0) ?_
  refine w_t 3 rfl cm1 (fun _ H=>xl H 0) ?_
  refine w_t 4 rfl cm1 (fun _ _=>xm) ?_
  refine w_t 5 rfl cm1 (fun _ _=>xn) ?_
  refine w_t 6 rfl cm1 (fun _ _=>xf 1) ?_
  refine w_t 7 rfl cm1 (fun _ H=>xl H 0) ?_
  refine w_t 9 rfl cm1 (fun _ _=>xm) ?_
  refine w_t 10 rfl cm1 (fun _ _=>xn) ?_
  refine w_t 11 rfl cm1 (fun _ _=>xf 2) ?_
  refine w_t 12 rfl cm1 (fun _ H=>xl H 0) ?_
  refine a_one (i:=8) (by kernel_rfl) rfl ?_
  have H3:S _ [_,_,_,_,_,_,_,_,_]:=H2.nilFl 27 2 plL
  have hln8a:=(H3.rr 0).lenL plE
  have hln8b:=(H3.rr 2).lenL plE
  have hln8:ps.length=0+ps.length:=by omega
  refine s_appLn (l:=[]) (l2:=ps) plE H3 0 (wt0 rfl) rfl rfl rfl rfl rfl rfl Tryz.underlying22 inf27 rfl (by decide) (H3.rr 2) (by omega) ?_
  intro p4 c5 wq6 H7
  rw [List.nil_append] at H7 ⊢
  replace H7:S wq6 [Rw 27 2 p4 ps.length c5 (fl plL ps),Ob g (.cells #[.string sd,.slice lp ps.length lc,.slice rp gs.length rc,.slice xp xs.length xc,.slice yp ys.length yc] 66 (0,0)),Rw 27 2 lp ps.length lc (fl plL ps),Rw 39 1 rp gs.length rc (fl rowL gs),Rw 43 1 xp xs.length xc (fl rowL xs),(Lst BwI xs),Rw 43 1 yp ys.length yc (fl rowL ys),(Lst BwI ys),Old w (fps [Ob g (.cells #[.string sd,.slice lp ps.length lc,.slice rp gs.length rc,.slice xp xs.length xc,.slice yp ys.length yc] 66 (0,0)),Rw 27 2 lp ps.length lc (fl plL ps),Rw 39 1 rp gs.length rc (fl rowL gs),Rw 43 1 xp xs.length xc (fl rowL xs),(Lst BwI xs),Rw 43 1 yp ys.length yc (fl rowL ys),(Lst BwI ys)])]:=H7
  refine a_k (H7.mask [false,true,false,false,false,false,false,false,false]) ?_
  refine a_one (i:=13) (by kernel_rfl) rfl ?_
  have H9:S wq6 [Rw 39 1 none 0 0 (fl rowL ([]:List Rd)),Rw 27 2 p4 ps.length c5 (fl plL ps),Ob g (.cells #[.string sd,.slice lp ps.length lc,.slice rp gs.length rc,.slice xp xs.length xc,.slice yp ys.length yc] 66 (0,0)),Rw 27 2 lp ps.length lc (fl plL ps),Rw 39 1 rp gs.length rc (fl rowL gs),Rw 43 1 xp xs.length xc (fl rowL xs),(Lst BwI xs),Rw 43 1 yp ys.length yc (fl rowL ys),(Lst BwI ys),Old w (fps [Ob g (.cells #[.string sd,.slice lp ps.length lc,.slice rp gs.length rc,.slice xp xs.length xc,.slice yp ys.length yc] 66 (0,0)),Rw 27 2 lp ps.length lc (fl plL ps),Rw 39 1 rp gs.length rc (fl rowL gs),Rw 43 1 xp xs.length xc (fl rowL xs),(Lst BwI xs),Rw 43 1 yp ys.length yc (fl rowL ys),(Lst BwI ys)])]:=H7.nilFl 39 1 rowL
  have hln14a:=(H9.rr 0).lenL rowE
  have hln14b:=(H9.rr 4).lenL rowE
  have hln14:gs.length=0+gs.length:=by omega
  refine s_appLn (l:=[]) (l2:=gs) rowE H9 0 (wt0 rfl) rfl rfl rfl rfl rfl rfl Tryz.underlying56 inf39 rfl (by decide) (H9.rr 4) (by omega) ?_
  intro p10 c11 wq12 H13
  rw [List.nil_append] at H13 ⊢
  replace H13:S wq12 [Rw 39 1 p10 gs.length c11 (fl rowL gs),Rw 27 2 p4 ps.length c5 (fl plL ps),Ob g (.cells #[.string sd,.slice lp ps.length lc,.slice rp gs.length rc,.slice xp xs.length xc,.slice yp ys.length yc] 66 (0,0)),Rw 27 2 lp ps.length lc (fl plL ps),Rw 39 1 rp gs.length rc (fl rowL gs),Rw 43 1 xp xs.length xc (fl rowL xs),(Lst BwI xs),Rw 43 1 yp ys.length yc (fl rowL ys),(Lst BwI ys),Old w (fps [Ob g (.cells #[.string sd,.slice lp ps.length lc,.slice rp gs.length rc,.slice xp xs.length xc,.slice yp ys.length yc] 66 (0,0)),Rw 27 2 lp ps.length lc (fl plL ps),Rw 39 1 rp gs.length rc (fl rowL gs),Rw 43 1 xp xs.length xc (fl rowL xs),(Lst BwI xs),Rw 43 1 yp ys.length yc (fl rowL ys),(Lst BwI ys)])]:=H13
  have cm2:=H13.mask [false,false,true,false,false,false,false,false,false,false]
  refine a_k cm2 ?_
  refine w_t (v:=.agg #[.string sd,.slice p4 ps.length c5,.slice p10 gs.length c11,.slice none 0 0,.slice none 0 0]) 14 rfl cm2 (fun _ _=>x_build (vs:=[.string sd,.slice p4 ps.length c5,.slice p10 gs.length c11]) rfl rfl (cells:=#[.string sd,.slice p4 ps.length c5,.slice p10 gs.length c11,.slice none 0 0,.slice none 0 0]) (by kernel_rfl)) ?_
  refine a_one (i:=15) (by kernel_rfl) rfl ?_
  refine s_box H13 (wt0 rfl) rfl rfl rfl rfl ?_
  intro g15 wq16 H17
  have cm3:=H17.mask [false,false,false,true,false,false,false,false,false,false,false]
  refine a_k cm3 ?_
  refine w_t 16 rfl cm3 (fun _ _=>xa) ?_
  refine a_done (by kernel_rfl) ?_
  refine w_0 ?_
  refine g_mid (g15,p4,c5,p10,c11) ?_ ?_
  · exact ⟨rfl,rfl,trivial⟩
  · exact (H17.tk [0,2,1,3,4,5,6,7,8,9,10])
 rintro ⟨y,a1,c1,a2,c2⟩ wq18 H19
 refine g_wk [(0,_),(3,_)] ?_
 refine g_seq ?_
 refine w_k9 ?_
 refine g_loop (ι:=Nat × Option Addr × Nat × List (Ro Int) × Option Addr × Nat × List (Ro Int)) (fun (i,up,uc,us,zp,zc,zs)=>[(0,.pointer (some ⟨g,0,none⟩)),(3,.pointer (some ⟨y,0,none⟩)),(25,.int .i64 ((ps.length:Int))),(26,.int .i64 ((i:Int)))]) (fun (i,up,uc,us,zp,zc,zs) wx=>(i≤ps.length)∧(us.map Ro.l=(xs.take i).map Ro.l)∧(zs.map Ro.l=(ys.take i).map Ro.l)∧S wx [Rw 43 1 up us.length uc (fl rowL us),(Lst BwI us),Rw 43 1 zp zs.length zc (fl rowL zs),(Lst BwI zs),Ob y (.cells #[.string sd,.slice a1 ps.length c1,.slice a2 gs.length c2,.slice up us.length uc,.slice zp zs.length zc] 66 (0,0)),Rw 27 2 a1 ps.length c1 (fl plL ps),Rw 39 1 a2 gs.length c2 (fl rowL gs),Ob g (.cells #[.string sd,.slice lp ps.length lc,.slice rp gs.length rc,.slice xp xs.length xc,.slice yp ys.length yc] 66 (0,0)),Rw 27 2 lp ps.length lc (fl plL ps),Rw 39 1 rp gs.length rc (fl rowL gs),Rw 43 1 xp xs.length xc (fl rowL xs),(Lst BwI xs),Rw 43 1 yp ys.length yc (fl rowL ys),(Lst BwI ys),Old w (fps [Ob g (.cells #[.string sd,.slice lp ps.length lc,.slice rp gs.length rc,.slice xp xs.length xc,.slice yp ys.length yc] 66 (0,0)),Rw 27 2 lp ps.length lc (fl plL ps),Rw 39 1 rp gs.length rc (fl rowL gs),Rw 43 1 xp xs.length xc (fl rowL xs),(Lst BwI xs),Rw 43 1 yp ys.length yc (fl rowL ys),(Lst BwI ys)])]) (fun (i,up,uc,us,zp,zc,zs)=>ps.length - i) (0,none,0,[],none,0,[]) ⟨rfl,rfl,rfl,rfl,trivial⟩ ⟨Nat.zero_le _,rfl,rfl,((S.lstNil (((S.lstNil (H19.nilFl 43 1 (rowL:Ro Int→List Value)) BwI)).nilFl 43 1 (rowL:Ro Int→List Value)) BwI).tk [3,2,1,0,4,5,6,7,8,9,10,11,12,13,14])⟩ ?_
 rintro ⟨i,up,uc,us,zp,zc,zs⟩ wq20 ⟨hi,hu9,hz9,H21⟩
 refine g_wk [(0,_),(3,_),(25,_),(26,_)] ?_
 have huln:us.length=i:=(by have h9:=congrArg List.length hu9; rw [List.length_map,List.length_map,List.length_take] at h9; omega); have hzln:zs.length=i:=(by have h9:=congrArg List.length hz9; rw [List.length_map,List.length_map,List.length_take] at h9; omega)
 refine w_k3 ?_
 refine g_seq ?_
 by_cases hb22:((i:Int):Int)<(ps.length:Int)
 ·
  refine g_ct hb22 ?_
  refine w_k8 ?_
  refine g_seq ?_
  refine g_anyY [] (fun wx=>S wx [Rw 43 1 up us.length uc (fl rowL us),(Lst BwI us),Rw 43 1 zp zs.length zc (fl rowL zs),(Lst BwI zs),Ob y (.cells #[.string sd,.slice a1 ps.length c1,.slice a2 gs.length c2,.slice up us.length uc,.slice zp zs.length zc] 66 (0,0)),Rw 27 2 a1 ps.length c1 (fl plL ps),Rw 39 1 a2 gs.length c2 (fl rowL gs),Ob g (.cells #[.string sd,.slice lp ps.length lc,.slice rp gs.length rc,.slice xp xs.length xc,.slice yp ys.length yc] 66 (0,0)),Rw 27 2 lp ps.length lc (fl plL ps),Rw 39 1 rp gs.length rc (fl rowL gs),Rw 43 1 xp xs.length xc (fl rowL xs),(Lst BwI xs),Rw 43 1 yp ys.length yc (fl rowL ys),(Lst BwI ys),Old w (fps [Ob g (.cells #[.string sd,.slice lp ps.length lc,.slice rp gs.length rc,.slice xp xs.length xc,.slice yp ys.length yc] 66 (0,0)),Rw 27 2 lp ps.length lc (fl plL ps),Rw 39 1 rp gs.length rc (fl rowL gs),Rw 43 1 xp xs.length xc (fl rowL xs),(Lst BwI xs),Rw 43 1 yp ys.length yc (fl rowL ys),(Lst BwI ys)])]) (fun wx=>S wx [(Lst BwI us),(Lst BwI zs),Rw 27 2 a1 ps.length c1 (fl plL ps),Rw 39 1 a2 gs.length c2 (fl rowL gs),Rw 27 2 lp ps.length lc (fl plL ps),Rw 39 1 rp gs.length rc (fl rowL gs),(Lst BwI xs),(Lst BwI ys),Old w (fps [Ob g (.cells #[.string sd,.slice lp ps.length lc,.slice rp gs.length rc,.slice xp xs.length xc,.slice yp ys.length yc] 66 (0,0)),Rw 27 2 lp ps.length lc (fl plL ps),Rw 39 1 rp gs.length rc (fl rowL gs),Rw 43 1 xp xs.length xc (fl rowL xs),(Lst BwI xs),Rw 43 1 yp ys.length yc (fl rowL ys),(Lst BwI ys)])]) [14,17] (by kernel_rfl) H21 (fun wq23 H24=>?_)
  refine y_p 0 rfl (fun _=>xm) ?_
  refine y_p 1 rfl (fun _=>xm) ?_
  refine y_p 2 rfl (fun _=>xn) ?_
  refine y_p 3 rfl (fun _=>xf 3) ?_
  refine y_t 4 rfl H24 (fun _ H=>xl H 4) ?_
  refine y_p 5 rfl (fun _=>xm) ?_
  refine y_p 6 rfl (fun _=>xn) ?_
  refine y_p 7 rfl (fun _=>xf 3) ?_
  refine y_t 8 rfl H24 (fun _ H=>xl H 7) ?_
  refine y_p 9 rfl (fun _=>xm) ?_
  refine y_p 10 rfl (fun _=>x_ip i ((H24.rr 10).some (by omega))) ?_
  obtain ⟨x25,hx25⟩:=(H24.rr 10).exL rowE i
  have hlwx25:=hxw x25 (List.mem_of_getElem? hx25)
  refine y_t 11 rfl H24 (fun _ H=>x_r i (H.rr 10) (rowE.flAt1 hx25 rfl)) ?_
  refine y_one (i:=12) (by kernel_rfl) rfl ?_
  have H26:S _ [_,_,_,_,_,_,_,_,_,_,_,_,_,_,_,_]:=H24.nilFl 3 1 intL
  have hln31a:=(H26.rr 0).lenL intE
  have hln31b:=(H26.bwRd (k:=12) rfl hx25).lenL intE
  have hln31:x25.l.length=0+x25.l.length:=by omega
  refine s_appLn (l:=[]) (l2:=x25.l) intE H26 0 (wt0 rfl) rfl rfl rfl rfl rfl rfl Tryz.underlying43 inf3 rfl (by decide) (H26.bwRd (k:=12) rfl hx25) (by omega) ?_
  intro p27 c28 wq29 H30
  rw [List.nil_append] at H30 ⊢
  replace H30:S wq29 [Rw 3 1 p27 x25.l.length c28 (fl intL x25.l),Rw 43 1 up us.length uc (fl rowL us),(Lst BwI us),Rw 43 1 zp zs.length zc (fl rowL zs),(Lst BwI zs),Ob y (.cells #[.string sd,.slice a1 ps.length c1,.slice a2 gs.length c2,.slice up us.length uc,.slice zp zs.length zc] 66 (0,0)),Rw 27 2 a1 ps.length c1 (fl plL ps),Rw 39 1 a2 gs.length c2 (fl rowL gs),Ob g (.cells #[.string sd,.slice lp ps.length lc,.slice rp gs.length rc,.slice xp xs.length xc,.slice yp ys.length yc] 66 (0,0)),Rw 27 2 lp ps.length lc (fl plL ps),Rw 39 1 rp gs.length rc (fl rowL gs),Rw 43 1 xp xs.length xc (fl rowL xs),(Lst BwI xs),Rw 43 1 yp ys.length yc (fl rowL ys),(Lst BwI ys),Old w (fps [Ob g (.cells #[.string sd,.slice lp ps.length lc,.slice rp gs.length rc,.slice xp xs.length xc,.slice yp ys.length yc] 66 (0,0)),Rw 27 2 lp ps.length lc (fl plL ps),Rw 39 1 rp gs.length rc (fl rowL gs),Rw 43 1 xp xs.length xc (fl rowL xs),(Lst BwI xs),Rw 43 1 yp ys.length yc (fl rowL ys),(Lst BwI ys)])]:=H30
  refine y_k (H30.mask [false,true,true,true,true,true,true,true,true,true,true,true,true,true,true,true]) (H30.mask [false,false,true,false,true,false,true,true,false,true,true,false,true,false,true,true]) ?_
  refine y_one (i:=13) (by kernel_rfl) rfl ?_
  refine s_b1 ze43 #[.slice p27 x25.l.length c28] H30 ?_
  intro g32 wq33 H34
  refine y_k (H34.mask [false,false,true,true,true,true,true,true,true,true,true,true,true,true,true,true,true]) (H34.mask [false,false,false,true,false,true,false,true,true,false,true,true,false,true,false,true,true]) ?_
  refine y_one (i:=14) (by kernel_rfl) rfl ?_
  have hln39a:=(H34.rr 2).lenL rowE
  have hln39:(us++[(⟨p27,c28,x25.l⟩:Ro Int)]).length=us.length+1:=by simp only [List.length_append,List.length_cons,List.length_nil] <;> omega
  refine s_appBn (m:=1) (l:=us) (l2:=[(⟨p27,c28,x25.l⟩:Ro Int)]) rowE H34 2 (j0:=0) rfl rfl ⟨rfl,Nat.le_refl _⟩ (wt0 rfl) rfl rfl rfl rfl rfl rfl Tryz.underlying39 inf43 rfl (by decide) (by omega) ?_
  intro p35 c36 wq37 H38
  refine y_kt rfl (H38.mask [false,false,false,true,false,true,false,true,true,false,true,true,false,true,false,true,true]) ?_
  refine y_p 15 rfl (fun _=>xn) ?_
  refine y_p 16 rfl (fun _=>xf 3) ?_
  refine y_one (i:=17) (by kernel_rfl) rfl ?_
  refine w_st #[.string sd,.slice a1 ps.length c1,.slice a2 gs.length c2,.slice p35 ((us++[(⟨p27,c28,x25.l⟩:Ro Int)]).length) c36,.slice zp zs.length zc] H38 6 ?_
  intro wq40 H41
  refine y_kt rfl (H41.mask [false,false,false,true,false,true,false,true,true,false,true,true,false,true,false,true,true]) ?_
  refine y_done (by kernel_rfl) ?_
  refine w_0 ?_
  refine g_wk [(0,_),(3,_),(4,_),(25,_),(26,_)] ?_
  refine g_anyY [] (fun wx=>S wx [Ob g32 (.cells #[.slice p27 x25.l.length c28] 43 (0,0)),Rw 3 1 p27 x25.l.length c28 (fl intL x25.l),Rw 43 1 p35 ((us++[(⟨p27,c28,x25.l⟩:Ro Int)]).length) c36 (fl rowL (us++[(⟨p27,c28,x25.l⟩:Ro Int)])),(Lst BwI us),Rw 43 1 zp zs.length zc (fl rowL zs),(Lst BwI zs),Ob y (.cells #[.string sd,.slice a1 ps.length c1,.slice a2 gs.length c2,.slice p35 ((us++[(⟨p27,c28,x25.l⟩:Ro Int)]).length) c36,.slice zp zs.length zc] 66 (0,0)),Rw 27 2 a1 ps.length c1 (fl plL ps),Rw 39 1 a2 gs.length c2 (fl rowL gs),Ob g (.cells #[.string sd,.slice lp ps.length lc,.slice rp gs.length rc,.slice xp xs.length xc,.slice yp ys.length yc] 66 (0,0)),Rw 27 2 lp ps.length lc (fl plL ps),Rw 39 1 rp gs.length rc (fl rowL gs),Rw 43 1 xp xs.length xc (fl rowL xs),(Lst BwI xs),Rw 43 1 yp ys.length yc (fl rowL ys),(Lst BwI ys),Old w (fps [Ob g (.cells #[.string sd,.slice lp ps.length lc,.slice rp gs.length rc,.slice xp xs.length xc,.slice yp ys.length yc] 66 (0,0)),Rw 27 2 lp ps.length lc (fl plL ps),Rw 39 1 rp gs.length rc (fl rowL gs),Rw 43 1 xp xs.length xc (fl rowL xs),(Lst BwI xs),Rw 43 1 yp ys.length yc (fl rowL ys),(Lst BwI ys)])]) (fun wx=>S wx [Rw 3 1 p27 x25.l.length c28 (fl intL x25.l),(Lst BwI us),(Lst BwI zs),Rw 27 2 a1 ps.length c1 (fl plL ps),Rw 39 1 a2 gs.length c2 (fl rowL gs),Rw 27 2 lp ps.length lc (fl plL ps),Rw 39 1 rp gs.length rc (fl rowL gs),(Lst BwI xs),(Lst BwI ys),Old w (fps [Ob g (.cells #[.string sd,.slice lp ps.length lc,.slice rp gs.length rc,.slice xp xs.length xc,.slice yp ys.length yc] 66 (0,0)),Rw 27 2 lp ps.length lc (fl plL ps),Rw 39 1 rp gs.length rc (fl rowL gs),Rw 43 1 xp xs.length xc (fl rowL xs),(Lst BwI xs),Rw 43 1 yp ys.length yc (fl rowL ys),(Lst BwI ys)])]) [14,17] (by kernel_rfl) H41 (fun wq42 H43=>?_)
  refine y_p 0 rfl (fun _=>xm) ?_
  refine y_p 1 rfl (fun _=>xm) ?_
  refine y_p 2 rfl (fun _=>xn) ?_
  refine y_p 3 rfl (fun _=>xf 4) ?_
  refine y_t 4 rfl H43 (fun _ H=>xl H 6) ?_
  refine y_p 5 rfl (fun _=>xm) ?_
  refine y_p 6 rfl (fun _=>xn) ?_
  refine y_p 7 rfl (fun _=>xf 4) ?_
  refine y_t 8 rfl H43 (fun _ H=>xl H 9) ?_
  refine y_p 9 rfl (fun _=>xm) ?_
  refine y_p 10 rfl (fun _=>x_ip i ((H43.rr 14).some (by omega))) ?_
  obtain ⟨x44,hx44⟩:=(H43.rr 14).exL rowE i
  have hlwx44:=hyw x44 (List.mem_of_getElem? hx44)
  refine y_t 11 rfl H43 (fun _ H=>x_r i (H.rr 14) (rowE.flAt1 hx44 rfl)) ?_
  refine y_one (i:=12) (by kernel_rfl) rfl ?_
  have H45:S _ [_,_,_,_,_,_,_,_,_,_,_,_,_,_,_,_,_,_]:=H43.nilFl 3 1 intL
  have hln50a:=(H45.rr 0).lenL intE
  have hln50b:=(H45.bwRd (k:=16) rfl hx44).lenL intE
  have hln50:x44.l.length=0+x44.l.length:=by omega
  refine s_appLn (l:=[]) (l2:=x44.l) intE H45 0 (wt0 rfl) rfl rfl rfl rfl rfl rfl Tryz.underlying43 inf3 rfl (by decide) (H45.bwRd (k:=16) rfl hx44) (by omega) ?_
  intro p46 c47 wq48 H49
  rw [List.nil_append] at H49 ⊢
  replace H49:S wq48 [Rw 3 1 p46 x44.l.length c47 (fl intL x44.l),Ob g32 (.cells #[.slice p27 x25.l.length c28] 43 (0,0)),Rw 3 1 p27 x25.l.length c28 (fl intL x25.l),Rw 43 1 p35 ((us++[(⟨p27,c28,x25.l⟩:Ro Int)]).length) c36 (fl rowL (us++[(⟨p27,c28,x25.l⟩:Ro Int)])),(Lst BwI us),Rw 43 1 zp zs.length zc (fl rowL zs),(Lst BwI zs),Ob y (.cells #[.string sd,.slice a1 ps.length c1,.slice a2 gs.length c2,.slice p35 ((us++[(⟨p27,c28,x25.l⟩:Ro Int)]).length) c36,.slice zp zs.length zc] 66 (0,0)),Rw 27 2 a1 ps.length c1 (fl plL ps),Rw 39 1 a2 gs.length c2 (fl rowL gs),Ob g (.cells #[.string sd,.slice lp ps.length lc,.slice rp gs.length rc,.slice xp xs.length xc,.slice yp ys.length yc] 66 (0,0)),Rw 27 2 lp ps.length lc (fl plL ps),Rw 39 1 rp gs.length rc (fl rowL gs),Rw 43 1 xp xs.length xc (fl rowL xs),(Lst BwI xs),Rw 43 1 yp ys.length yc (fl rowL ys),(Lst BwI ys),Old w (fps [Ob g (.cells #[.string sd,.slice lp ps.length lc,.slice rp gs.length rc,.slice xp xs.length xc,.slice yp ys.length yc] 66 (0,0)),Rw 27 2 lp ps.length lc (fl plL ps),Rw 39 1 rp gs.length rc (fl rowL gs),Rw 43 1 xp xs.length xc (fl rowL xs),(Lst BwI xs),Rw 43 1 yp ys.length yc (fl rowL ys),(Lst BwI ys)])]:=H49
  refine y_k (H49.mask [false,true,true,true,true,true,true,true,true,true,true,true,true,true,true,true,true,true]) (H49.mask [false,false,true,false,true,false,true,false,true,true,false,true,true,false,true,false,true,true]) ?_
  refine y_one (i:=13) (by kernel_rfl) rfl ?_
  refine s_b1 ze43 #[.slice p46 x44.l.length c47] H49 ?_
  intro g51 wq52 H53
  refine y_k (H53.mask [false,false,true,true,true,true,true,true,true,true,true,true,true,true,true,true,true,true,true]) (H53.mask [false,false,false,true,false,true,false,true,false,true,true,false,true,true,false,true,false,true,true]) ?_
  refine y_one (i:=14) (by kernel_rfl) rfl ?_
  have hln58a:=(H53.rr 6).lenL rowE
  have hln58:(zs++[(⟨p46,c47,x44.l⟩:Ro Int)]).length=zs.length+1:=by simp only [List.length_append,List.length_cons,List.length_nil] <;> omega
  refine s_appBn (m:=1) (l:=zs) (l2:=[(⟨p46,c47,x44.l⟩:Ro Int)]) rowE H53 6 (j0:=0) rfl rfl ⟨rfl,Nat.le_refl _⟩ (wt0 rfl) rfl rfl rfl rfl rfl rfl Tryz.underlying39 inf43 rfl (by decide) (by omega) ?_
  intro p54 c55 wq56 H57
  refine y_kt rfl (H57.mask [false,false,false,true,false,true,false,true,false,true,true,false,true,true,false,true,false,true,true]) ?_
  refine y_p 15 rfl (fun _=>xn) ?_
  refine y_p 16 rfl (fun _=>xf 4) ?_
  refine y_one (i:=17) (by kernel_rfl) rfl ?_
  refine w_st #[.string sd,.slice a1 ps.length c1,.slice a2 gs.length c2,.slice p35 ((us++[(⟨p27,c28,x25.l⟩:Ro Int)]).length) c36,.slice p54 ((zs++[(⟨p46,c47,x44.l⟩:Ro Int)]).length) c55] H57 8 ?_
  intro wq59 H60
  refine y_kt rfl (H60.mask [false,false,false,true,false,true,false,true,false,true,true,false,true,true,false,true,false,true,true]) ?_
  refine y_done (by kernel_rfl) ?_
  refine w_k2 ?_
  refine g_wk [(0,_),(3,_),(25,_),(26,_)] ?_
  refine g_region ?_
  refine w_i i ?_
  refine w_k2 ?_
  have H61:S _ [_,_,_,_,_,_,_,_,_,_,_,_,_,_,_,_,_,_]:=S.lstSnoc (F:=BwI) (x:=(⟨p27,c28,x25.l⟩:Ro Int)) (H60.tk [3,5,0,1,2,4,6,7,8,9,10,11,12,13,14,15,16,17,18])
  have H62:S _ [_,_,_,_,_,_,_,_,_,_,_,_,_,_,_,_,_]:=S.lstSnoc (F:=BwI) (x:=(⟨p46,c47,x44.l⟩:Ro Int)) (H61.tk [2,6,0,1,3,4,5,7,8,9,10,11,12,13,14,15,16,17])
  refine g_rd (i:=(i,up,uc,us,zp,zc,zs)) ((i+1),p35,c36,(us++[(⟨p27,c28,x25.l⟩:Ro Int)]),p54,c55,(zs++[(⟨p46,c47,x44.l⟩:Ro Int)])) ⟨by omega,(by rw [take_snocT hx25,List.map_append,List.map_append,hu9]; rfl),(by rw [take_snocT hx44,List.map_append,List.map_append,hz9]; rfl),(H62.tk [4,1,5,0,6,7,8,9,10,11,12,13,14,15,16])⟩
 ·
  refine g_cf hb22 ?_
  refine w_k10 ?_
  refine fin_r [.tmp 2] [.pointer (some ⟨y,0,none⟩)] ?_
  have hie:i=ps.length:=by omega
  rw [List.take_of_length_le (by omega)] at hu9 hz9
  exact ⟨(⟨y,sd,a1,c1,ps,a2,c2,gs,up,uc,us,zp,zc,zs⟩:GR),rfl,(by unfold GR.A; dsimp only; rw [hu9,hz9]),rfl,S.big (L:=[_,_,_,_,_,_,_]) (H21.tk [4,5,6,0,1,2,3,7,8,9,10,11,12,13,14])⟩
theorem playr_x (pl:List Rd) (A:GA) (X:GR) (hA:GOK A) (hX:ROK pl A X) (rn:Int) (hr0:0≤rn∧rn≤200) (hrg:X.gs.length+rn.toNat≤190)  (w:World) (HS:S w [X.I,Pool pl]):Calls Tryz.prog 18 #[.pointer (some ⟨X.g,0,none⟩),.int .i64 rn] w fun e w'=>∃ Y' pl',e=.returned (.int .i64 0)∧ROK pl' (stepsA rn.toNat A) Y'∧Y'.g=X.g∧Y'.gs.length=X.gs.length+rn.toNat∧(∀ r∈pl,r∈pl')∧S w' ([Y'.I,Pool pl']++[Old w (fps [X.I,Pool pl])]):=by
 have H0:=HS.beginI
 replace H0:S _ [_,_,_,_,_,_,_,_,_]:=S.unbig (L:=[_,_,_,_,_,_,_]) H0
 refine enter 30 Tryz.func18 rfl rfl rfl ?_
 refine g_wk [(0,_),(1,_)] ?_
 refine w_s ?_
 refine w_k6 ?_
 refine w_b (v:=.bool false) (hb:=(b_eqN (r:=false) Tryz.underlying33 rfl)) ?_
 refine w_k2 ?_
 refine g_cond_f rfl rfl ?_
 refine w_k4 ?_
 refine l_of (s_val (v:=.int .i64 rn) (wt1 rfl rfl rfl rfl (decide_eq_false (by omega))) rfl rfl (x_move rfl rfl) ?_)
 refine l_of (s_val (v:=.bool (decide ((200:Int)<rn))) (wt1 rfl rfl rfl rfl (decide_eq_false (by omega))) rfl rfl (x_bin rfl rfl rfl b_gtr) ?_)
 refine w_v (x_pick_f rfl rfl (decide_eq_false (by omega)) rfl) ?_
 refine w_k2 ?_
 refine g_cond_f rfl (decide_eq_false (by omega)) ?_
 refine w_k7 ?_
 refine w_b (v:=.int .i64 ((X.gs.length:Int)+rn)) (hb:=(b_add (w64 (by omega)))) ?_
 refine w_k3 ?_
 refine g_wk [(0,_),(1,_),(15,_)] ?_
 refine g_cond_f rfl (decide_eq_false (by omega)) ?_
 refine w_k9 ?_
 refine g_loop (ι:=Nat × GR × List Rd) (fun (k,Y,pl2)=>[(0,.pointer (some ⟨X.g,0,none⟩)),(24,.int .i64 rn),(25,.int .i64 ((k:Int)))]) (fun (k,Y,pl2) wx=>((k:Int)≤rn)∧(ROK pl2 (stepsA k A) Y)∧(Y.g=X.g)∧(Y.gs.length=X.gs.length+k)∧(∀ r∈pl,r∈pl2)∧S wx [(GR.I Y),(Pool pl2),Old w (fps [X.I,Pool pl])]) (fun (k,Y,pl2)=>rn.toNat - k) (0,X,pl) ⟨rfl,rfl,rfl,trivial⟩ ⟨(by omega),hX,rfl,rfl,(fun _ h=>h),(S.big (L:=[_,_,_,_,_,_,_]) (H0.tk [0,1,2,3,4,5,6,7,8]))⟩ ?_
 rintro ⟨k,Y,pl2⟩ wq1 ⟨hk,hYA,hYg,hYl,hYp,H2⟩
 refine g_wk [(0,_),(24,_),(25,_)] ?_
 refine w_s ?_
 refine w_k2 ?_
 refine g_seq ?_
 by_cases hb3:((k:Int):Int)<rn
 ·
  refine g_ct hb3 ?_
  refine w_k6 ?_
  refine l_of (s_cl (roundr_q (stepsA_ok hA k) hYA (by omega) hYg (H2.tk [0,1])) ?_)
  rintro _ wq4 ⟨rd1,K1,rfl,hrv1,hR1,hKg1,hKl1,H5⟩
  replace H5:S _ [_,_,_]:=H2.abI (new:=[_,_]) [0,1] H5 rfl
  have hmr1:rd1∈pl2++[rd1]:=List.mem_append_right _ List.mem_cons_self
  refine b_ret rfl rfl ?_
  refine w_k4 ?_
  refine w_i k ?_
  refine w_k2 ?_
  refine g_rd (i:=(k,Y,pl2)) ((k+1),K1,(pl2++[rd1])) ⟨(by omega),hR1,hKg1,(by omega),(fun r hr=>List.mem_append_left _ (hYp r hr)),(H5.tk [0,1,2])⟩
 ·
  refine g_cf hb3 ?_
  refine w_k9 ?_
  refine fin_r [.tmp 4] [.int .i64 0] ?_
  have hke:k=rn.toNat:=by omega
  subst hke
  exact ⟨Y,pl2,rfl,hYA,hYg,hYl,hYp,H2.tk [0,1,2]⟩
theorem playr_q {pl:List Rd} {A:GA} {X:GR} {g0:Nat} {w:World} (hA:GOK A) (hX:ROK pl A X) (rn:Int) (hr0:0≤rn∧rn≤200) (hrg:X.gs.length+rn.toNat≤190) (hg:X.g=g0) (HS:S w [X.I,Pool pl]):Calls Tryz.prog 18 #[.pointer (some ⟨g0,0,none⟩),.int .i64 rn] w fun e w'=>∃ Y' pl',e=.returned (.int .i64 0)∧ROK pl' (stepsA rn.toNat A) Y'∧Y'.g=g0∧Y'.gs.length=X.gs.length+rn.toNat∧(∀ r∈pl,r∈pl')∧S w' ([Y'.I,Pool pl']++[Old w (fps [X.I,Pool pl])]):=by
 subst hg
 exact playr_x pl A X hA hX rn hr0 hrg w HS
theorem copyr_q {pl:List Rd} {A:GA} {X:GR} {g0:Nat} {w:World} (hA:GOK A) (hX:ROK pl A X) (hgl:X.gs.length≤1000) (hg:X.g=g0) (HS:S w [X.I]):Calls Tryz.prog 48 #[.pointer (some ⟨g0,0,none⟩)] w fun e w'=>∃ Y:GR,e=.returned (.pointer (some ⟨Y.g,0,none⟩))∧ROK pl A Y∧Y.gs.length=X.gs.length∧S w' ([Y.I,X.I]++[Old w (fps [X.I])]):=by
 subst hg
 have H:=HS.beginI
 have H1:=S.unbig (L:=[_,_,_,_,_,_,_]) H
 have hps:=hX.ps
 have h9:=hA.n9
 have hxd:=hX.rel.xd
 have hyw:=hX.rel.yw
 refine (copyr_s X.g X.sd X.lp X.lc X.ps X.rp X.rc X.gs X.xp X.xc X.xs X.yp X.yc X.ys (by rw [hps]; exact h9) hgl hX.xl hX.yl (fun x hx=>by have h8:=hxd.row x.l (List.mem_map.2 ⟨x,hx,rfl⟩); omega) (fun y hy=>by have h8:=(hyw y.l (List.mem_map.2 ⟨y,hy,rfl⟩)).1; omega) w (H1.tk [0,1,2,3,4,5,6])).mono ?_
 rintro e w' ⟨Y,rfl,hY,hgs,H2⟩
 have H3:=H1.absorbI (new:=[_,_,_,_,_,_,_,_]) [0,1,2,3,4,5,6] H2
 refine ⟨Y,rfl,⟨by rw [hY]; exact hX.rel,fun r hr=>hX.mem r (hgs ▸ hr)⟩,by rw [hgs],?_⟩
 exact (S.big (L:=[_,_,_,_,_,_,_]) (H3.tk [1,2,3,4,5,6,7,0,8])).tk [1,0,2]
theorem got_up {A:GA} (h:GOK A) (n:Nat):A.got.getD n 0≤(stepA A).got.getD n 0:=by
 show _≤(gotF (roundR A) A.got).getD n 0
 by_cases hn:n<A.ps.length
 · rw [gotF_at (roundR A) h.gt.1 (fun r hr=>h.rok.row r hr) hn]
   have h1:=sumI_bd (B:=1000000) (l:=(roundR A).map fun r=>r.getD n 0) fun y hy=>by
     obtain ⟨r,hr,rfl⟩:=List.mem_map.1 hy
     exact (show BdL 1000000 r from h.rok.pos r hr).getD (by decide) n
   omega
 · rw [List.getD_eq_getElem?_getD,List.getD_eq_getElem?_getD,List.getElem?_eq_none (by rw [h.gt.1]; omega),List.getElem?_eq_none (by rw [gotF_len,h.gt.1]; omega)]
   exact Int.le_refl _
theorem gots_up {A:GA} (h:GOK A) (n:Nat):∀ k,A.got.getD n 0≤(stepsA k A).got.getD n 0
 | 0=>Int.le_refl _
 | k+1=>Int.le_trans (gots_up h n k) (got_up (stepsA_ok h k) n)
theorem gainV_nn {A:GA} (h:GOK A) (n r:Nat) {rt st s:Int} (hs:1≤s∧s≤7) (hr:0≤rt∧rt≤1000000):0≤gainV A n r rt st s:=by
 unfold gainV
 have h1:A.got.getD n 0≤(stepsA r (if s=st then A else chA A n ⟨s,rt⟩)).got.getD n 0:=by
   split
   · exact gots_up h n r
   · exact gots_up (chA_ok (n:=n) (p:=⟨s,rt⟩) h ⟨hs,hr⟩) n r
 omega
theorem bestr_t {A:GA} {n r s:Nat} {rt st at9 mo:Int} (hs:1≤s) (h:s=1∨(at9,mo)=bestF A n r rt st (s - 1)) (h0:0≤gainV A n r rt st (s:Int)) (hl:s=1∨mo<gainV A n r rt st (s:Int)):((s:Int),gainV A n r rt st (s:Int))=bestF A n r rt st (s+1 - 1):=by
 obtain ⟨k,rfl⟩:∃ k,s=k+1:=⟨s - 1,by omega⟩
 refine (if_pos (show (bestF A n r rt st k).2<gainV A n r rt st ((k+1:Nat):Int) from ?_)).symm
 by_cases hk:k=0
 · subst hk
   show (-1:Int)<_
   omega
 · have e:(at9,mo)=bestF A n r rt st k:=h.resolve_left (by omega)
   rw [← e]
   exact hl.resolve_left (by omega)
theorem bestr_f {A:GA} {n r s:Nat} {rt st at9 mo:Int} (hs:1≤s) (h:s=1∨(at9,mo)=bestF A n r rt st (s - 1)) (h1:¬ s=1) (hl:¬ mo<gainV A n r rt st (s:Int)):(at9,mo)=bestF A n r rt st (s+1 - 1):=by
 obtain ⟨k,rfl⟩:∃ k,s=k+1:=⟨s - 1,by omega⟩
 have e:(at9,mo)=bestF A n r rt st k:=h.resolve_left h1
 exact e.trans (if_neg (show ¬ (bestF A n r rt st k).2<gainV A n r rt st ((k+1:Nat):Int) by rw [← e]; exact hl)).symm
theorem chE_0 {n:Nat} {i st rt:Int} (hn:0≤i∧i<(n:Int)) (hs:1≤st∧st≤7) (hr:0≤rt∧rt≤1000000):chE n i ⟨st,rt⟩=0:=by
 unfold chE
 rw [if_neg (by rw [valP_of (p:=⟨st,rt⟩) ⟨hs,hr⟩]; decide),if_neg (fun h=>h hn)]
theorem bestr_x (pl:List Rd) (A:GA) (X:GR) (hA:GOK A) (hX:ROK pl A X) (n:Int) (hn:0≤n∧n<(A.ps.length:Int)) (pm:Pl) (hpm:A.ps[n.toNat]?=some pm) (st rt:Int) (hst:pm.st=st) (hrt:pm.rt=rt) (rn:Int) (hr0:0≤rn∧rn≤200) (hrg:X.gs.length+rn.toNat≤190)  (w:World) (HS:S w [X.I,Pool pl]):Calls Tryz.prog 20 #[.pointer (some ⟨X.g,0,none⟩),.int .i64 n,.int .i64 rn] w fun e w'=>∃ pl',e=.returned (.tuple #[.int .i64 (bestF A n.toNat rn.toNat rt st 7).1,.int .i64 (bestF A n.toNat rn.toNat rt st 7).2,.int .i64 0])∧(∀ r∈pl,r∈pl')∧S w' ([X.I,Pool pl']++[Old w (fps [X.I,Pool pl])]):=by
 have H0:=HS.beginI
 replace H0:S _ [_,_,_,_,_,_,_,_,_]:=S.unbig (L:=[_,_,_,_,_,_,_]) H0
 have hps:=hX.ps
 have hnp9:X.ps.length≤9:=by rw [hps]; exact hA.n9
 have hnx:0≤n∧n<(X.ps.length:Int):=by rw [hps]; exact hn
 have hpx:X.ps[n.toNat]?=some pm:=by rw [hps]; exact hpm
 have hpv9:=hA.pv pm (List.mem_of_getElem? hpm)
 rw [hst,hrt] at hpv9
 refine enter 99 Tryz.func20 rfl rfl rfl ?_
 refine g_wk [(0,_),(1,_),(2,_)] ?_
 refine w_s ?_
 refine w_k8 ?_
 refine w_b (v:=.bool false) (hb:=(b_eqN (r:=false) Tryz.underlying33 rfl)) ?_
 refine w_k2 ?_
 refine g_cond_f rfl rfl ?_
 refine w_k3 ?_
 refine l_of (s_cl (there_r X.g X.sd X.lp X.lc X.ps X.rp X.rc X.gs X.xp X.xc X.xs X.yp X.yc X.ys hnp9 n _ (H0.tk [0])) ?_)
 rintro _ wq1 ⟨rfl,H2⟩
 replace H2:S _ [_,_,_,_,_,_,_,_,_]:=H0.abI (new:=[_]) [0] H2 rfl
 refine b_ret rfl rfl ?_
 refine w_v (x_not (b:=decide (0≤n∧n<(X.ps.length:Int))) rfl rfl) ?_
 refine w_m ?_
 refine w_g (nf hnx) xm ?_
 refine w_g (nf hnx) (x_bin rfl rfl rfl b_lss) ?_
 refine w_v (x_pick_f rfl rfl (nf hnx) rfl) ?_
 refine w_m ?_
 refine l_of (s_val (v:=.int .i64 rn) (wt1 rfl rfl rfl rfl (decide_eq_false (by omega))) rfl rfl (x_move rfl rfl) ?_)
 refine l_of (s_val (v:=.bool (decide ((200:Int)<rn))) (wt1 rfl rfl rfl rfl (decide_eq_false (by omega))) rfl rfl (x_bin rfl rfl rfl b_gtr) ?_)
 refine w_v (x_pick_f rfl rfl (decide_eq_false (by omega)) rfl) ?_
 refine w_k2 ?_
 refine g_wk [(0,_),(1,_),(2,_),(6,_),(7,_),(18,_)] ?_
 refine g_cond_f rfl (decide_eq_false (by omega)) ?_
 refine w_k7 ?_
 refine w_b (v:=.int .i64 ((X.gs.length:Int)+rn)) (hb:=(b_add (w64 (by omega)))) ?_
 refine w_k3 ?_
 refine g_cond_f rfl (decide_eq_false (by omega)) ?_
 refine w_k6 ?_
 have H3:S _ [_,_,_]:=S.big (L:=[_,_,_,_,_,_,_]) (H2.tk [0,1,2,3,4,5,6,7,8])
 refine l_of (s_cl (gotr_q hA hX (by omega) rfl n (H3.tk [0,1])) ?_)
 rintro _ wq4 ⟨rfl,H5⟩
 replace H5:S _ [_,_,_]:=H3.abI (new:=[_,_]) [0,1] H5 rfl
 obtain ⟨own,hown⟩:∃ v:Int,v=gotT A n:=⟨_,rfl⟩
 rw [← hown]
 refine b_ret rfl rfl ?_
 have hown2:own=A.got.getD n.toNat 0:=by rw [hown]; unfold gotT; rw [ask1 hn,if_pos rfl]
 have hob9:=gotD_bd hA n.toNat
 rw [← hown2,hX.gvl] at hob9
 have H6:S _ [_,_,_,_,_,_,_,_,_]:=S.unbig (L:=[_,_,_,_,_,_,_]) (H5.tk [0,1,2])
 refine w_k6 ?_
 refine g_wk [(0,_),(1,_),(2,_),(6,_),(7,_),(9,_)] ?_
 refine g_seq ?_
 refine w_k4 ?_
 refine g_loop (ι:=Nat × Int × Int × List Rd) (fun (s,at9,mo,pl2)=>[(0,.pointer (some ⟨X.g,0,none⟩)),(1,.int .i64 n),(2,.int .i64 rn),(6,.int .i64 at9),(7,.int .i64 mo),(9,.int .i64 own),(11,.int .i64 ((s:Int)))]) (fun (s,at9,mo,pl2) wx=>(1≤s∧s≤8)∧(s=1∨(at9,mo)=bestF A n.toNat rn.toNat rt st (s - 1))∧(ROK pl2 A X)∧(∀ r∈pl,r∈pl2)∧S wx [Ob X.g (.cells #[.string (X.sd),.slice X.lp X.ps.length X.lc,.slice X.rp X.gs.length X.rc,.slice X.xp X.xs.length X.xc,.slice X.yp X.ys.length X.yc] 66 (0,0)),Rw 27 2 X.lp X.ps.length X.lc (fl plL X.ps),Rw 39 1 X.rp X.gs.length X.rc (fl rowL X.gs),Rw 43 1 X.xp X.xs.length X.xc (fl rowL X.xs),(Lst BwI X.xs),Rw 43 1 X.yp X.ys.length X.yc (fl rowL X.ys),(Lst BwI X.ys),(Pool pl2),Old w (fps [X.I,Pool pl])]) (fun (s,at9,mo,pl2)=>8 - s) (1,0,0,pl) ⟨rfl,rfl,rfl,rfl,rfl,rfl,rfl,trivial⟩ ⟨(by omega),(.inl rfl),hX,(fun _ h=>h),(H6.tk [0,1,2,3,4,5,6,7,8])⟩ ?_
 rintro ⟨s,at9,mo,pl2⟩ wq7 ⟨hs,hbf,hX2,hp2,H8⟩
 refine g_wk [(0,_),(1,_),(2,_),(6,_),(7,_),(9,_),(11,_)] ?_
 refine g_seq ?_
 refine w_k4 ?_
 by_cases hb9:((s:Int):Int)≤7
 ·
  refine g_ct hb9 ?_
  refine w_k6 ?_
  have H10:S _ [_,_,_]:=S.big (L:=[_,_,_,_,_,_,_]) (H8.tk [0,1,2,3,4,5,6,7,8])
  refine l_of (s_cl (copyr_q hA hX2 (by omega) rfl (H10.tk [0])) ?_)
  rintro _ wq11 ⟨Y,rfl,hYR,hYl,H12⟩
  replace H12:S _ [_,_,_,_]:=H10.abI (new:=[_,_]) [0] H12 rfl
  refine b_ret rfl rfl ?_
  have H13:S _ [_,_,_,_,_,_,_,_,_,_]:=S.unbig (L:=[_,_,_,_,_,_,_]) (H12.tk [1,0,2,3])
  refine w_k10 ?_
  refine w_v (x_i ((n).toNat) (H13.rr 1)) ?_
  refine w_v (v:=.pointer ((X.lp).map fun q=>q.add (((n).toNat) * 2+0))) (ex_cast (x_fieldAddrG (m:=((n).toNat) * 2) ((H13.rr 1).some (by omega)) rfl rfl fo27_0) rfl) ?_
  obtain ⟨x14,hx14⟩:=(H13.rr 1).exL plE ((n).toNat)
  have hxqx14:x14=pm:=Option.some.inj (hx14.symm.trans hpx)
  have hxsx14:x14.st=st:=by rw [hxqx14]; exact hst
  have hxrx14:x14.rt=rt:=by rw [hxqx14]; exact hrt
  refine w_v (v:=.int .i64 st) (ex_cast (x_loadF1 (i:=0) (j:=((n).toNat)) plE (H13.rr 1) hx14 rfl rfl Tryz.underlying3 rfl rfl) (by rw [hxsx14])) ?_
  refine w_b (v:=.bool (!decide (((s:Int):Int)=st))) (hb:=b_neq) ?_
  refine w_e ?_
  refine g_wk [(0,_),(1,_),(2,_),(6,_),(7,_),(9,_),(11,_),(12,_),(61,_)] ?_
  by_cases hb15:((s:Int):Int)=st
  ·
   have heq9:(s:Int)=st:=hb15
   refine g_nf hb15 ?_
   refine w_k5 ?_
   obtain ⟨Bs,hBs⟩:∃ B:GA,B=(if (s:Int)=st then A else chA A n.toNat ⟨(s:Int),rt⟩):=⟨_,rfl⟩
   have hRb:ROK pl2 Bs Y:=by rw [hBs,if_pos heq9]; exact hYR
   have hBok:GOK Bs:=by rw [hBs]; split <;> first | exact hA | exact chA_ok (p:=⟨(s:Int),rt⟩) hA (show (1≤(s:Int)∧(s:Int)≤7)∧0≤rt∧rt≤1000000 from ⟨by omega,hpv9.2⟩)
   have hBps:Bs.ps.length=A.ps.length:=by rw [hBs]; split <;> first | rfl | exact List.length_set ..
   refine l_of (s_cl (playr_q hBok hRb rn hr0 (by omega) rfl (H13.tk [7,8])) ?_)
   rintro _ wq16 ⟨Yp,plp,rfl,hRp,hgp,hlp,hpp,H17⟩
   replace H17:S _ [_,_,_,_,_,_,_,_,_,_]:=H13.abI (new:=[_,_]) [7,8] H17 rfl
   have hpok:=stepsA_ok hBok rn.toNat
   have hgn8:(stepsA rn.toNat Bs).got.getD n.toNat 0 - A.got.getD n.toNat 0=(gainV A n.toNat rn.toNat rt st s):=by rw [hBs]; rfl
   refine b_ret rfl rfl ?_
   refine w_k4 ?_
   refine l_of (s_cl (gotr_q hpok hRp (by omega) hgp n (H17.tk [0,1])) ?_)
   rintro _ wq18 ⟨rfl,H19⟩
   replace H19:S _ [_,_,_,_,_,_,_,_,_,_]:=H17.abI (new:=[_,_]) [0,1] H19 rfl
   obtain ⟨gt9,hgt9⟩:∃ v:Int,v=gotT (stepsA rn.toNat Bs) n:=⟨_,rfl⟩
   rw [← hgt9]
   refine b_ret rfl rfl ?_
   have hpl9:(stepsA rn.toNat Bs).ps.length=A.ps.length:=by rw [stepsA_ps]; exact hBps
   have hgt2:gt9=(stepsA rn.toNat Bs).got.getD n.toNat 0:=by rw [hgt9]; unfold gotT; rw [ask1 (by rw [hpl9]; exact hn),if_pos rfl]
   have hgb9:=gotD_bd hpok n.toNat
   rw [← hgt2,hRp.gvl] at hgb9
   have hgn9:gt9 - own=(gainV A n.toNat rn.toNat rt st s):=by rw [hgt2,hown2]; exact hgn8
   clear hgn8 hgt2
   refine w_k6 ?_
   refine g_wk [(0,_),(1,_),(2,_),(6,_),(7,_),(9,_),(11,_),(13,_)] ?_
   refine w_s ?_
   refine w_r2 ?_
   refine w_v (v:=.int .i64 ((gainV A n.toNat rn.toNat rt st s))) (ex_cast (x_bin rfl rfl rfl (b_sub (w64 (by omega)))) (by rw [hgn9])) ?_
   refine w_k3 ?_
   by_cases hb20:(mo:Int)<(gainV A n.toNat rn.toNat rt st s)
   ·
    iterate 2 refine w_n (decide_eq_true hb20) ?_
    refine w_v (x_pick_t rfl rfl (decide_eq_true hb20) rfl) ?_
    refine w_e ?_
    refine g_cond_t rfl rfl ?_
    refine w_k4 ?_
    refine w_v (v:=.int .i64 ((gainV A n.toNat rn.toNat rt st s))) (ex_cast (x_bin rfl rfl rfl (b_sub (w64 (by omega)))) (by rw [hgn9])) ?_
    refine w_k5 ?_
    refine g_wk [(0,_),(1,_),(2,_),(6,_),(7,_),(9,_),(11,_)] ?_
    refine g_region ?_
    refine w_m ?_
    refine w_i s ?_
    refine w_k2 ?_
    refine g_rd (i:=(s,at9,mo,pl2)) ((s+1),(s:Int),(gainV A n.toNat rn.toNat rt st s),plp) ⟨(by omega),(.inr (bestr_t hs.1 hbf (gainV_nn hA n.toNat rn.toNat ⟨by omega,by omega⟩ hpv9.2) (.inr hb20))),(hX2.more hpp),(fun r hr=>hpp r (hp2 r hr)),(H19.tk [2,3,4,5,6,7,8,1,9])⟩
   ·
    refine w_g (decide_eq_false hb20) xm ?_
    refine w_g (decide_eq_false hb20) (x_bin rfl rfl rfl b_eql) ?_
    refine w_v (x_pick_f rfl rfl (decide_eq_false hb20) rfl) ?_
    refine w_e ?_
    by_cases hb21:((s:Int):Int)=1
    ·
     refine g_ct hb21 ?_
     refine w_k4 ?_
     refine w_v (v:=.int .i64 ((gainV A n.toNat rn.toNat rt st s))) (ex_cast (x_bin rfl rfl rfl (b_sub (w64 (by omega)))) (by rw [hgn9])) ?_
     refine w_k5 ?_
     refine g_wk [(0,_),(1,_),(2,_),(6,_),(7,_),(9,_),(11,_)] ?_
     refine g_region ?_
     refine w_m ?_
     refine w_i s ?_
     refine w_k2 ?_
     refine g_rd (i:=(s,at9,mo,pl2)) ((s+1),(s:Int),(gainV A n.toNat rn.toNat rt st s),plp) ⟨(by omega),(.inr (bestr_t hs.1 hbf (gainV_nn hA n.toNat rn.toNat ⟨by omega,by omega⟩ hpv9.2) (.inl (by omega)))),(hX2.more hpp),(fun r hr=>hpp r (hp2 r hr)),(H19.tk [2,3,4,5,6,7,8,1,9])⟩
    ·
     refine g_cf hb21 ?_
     refine w_k5 ?_
     refine w_i s ?_
     refine w_k2 ?_
     refine g_rd (i:=(s,at9,mo,pl2)) ((s+1),at9,mo,plp) ⟨(by omega),(.inr (bestr_f hs.1 hbf (by omega) hb20)),(hX2.more hpp),(fun r hr=>hpp r (hp2 r hr)),(H19.tk [2,3,4,5,6,7,8,1,9])⟩
  ·
   have hne9:¬ (s:Int)=st:=hb15
   refine g_nt hb15 ?_
   refine w_k9 ?_
   refine w_v (x_i ((n).toNat) (H13.rr 1)) ?_
   refine w_v (v:=.pointer ((X.lp).map fun q=>q.add (((n).toNat) * 2+1))) (ex_cast (x_fieldAddrG (m:=((n).toNat) * 2) ((H13.rr 1).some (by omega)) rfl rfl fo27_1) rfl) ?_
   refine w_v (v:=.int .i64 rt) (ex_cast (x_loadF1 (i:=1) (j:=((n).toNat)) plE (H13.rr 1) hx14 rfl rfl Tryz.underlying3 rfl rfl) (by rw [hxrx14])) ?_
   refine w_v (v:=.agg #[.int .i64 ((s:Int)),.int .i64 rt]) (x_build (vs:=[.int .i64 ((s:Int)),.int .i64 rt]) rfl rfl (cells:=#[.int .i64 ((s:Int)),.int .i64 rt]) (by kernel_rfl)) ?_
   refine l_of (s_cl (changer_q hA hYR rfl n s rt (H13.tk [7])) ?_)
   rintro _ wq22 ⟨Y1,rfl,hYR1,hYg1,hYs1,H23⟩
   replace H23:S _ [_,_,_,_,_,_,_,_,_,_]:=H13.abI (new:=[_]) [7] H23 rfl
   rw [chE_0 hn ⟨by omega,by omega⟩ hpv9.2,if_pos rfl] at hYR1
   have hYl1:Y1.gs.length=X.gs.length:=by rw [hYs1]; exact hYl
   refine b_ret rfl rfl ?_
   refine w_e ?_
   refine g_wk [(0,_),(1,_),(2,_),(6,_),(7,_),(9,_),(11,_),(12,_)] ?_
   refine w_s ?_
   refine w_r2 ?_
   obtain ⟨Bs,hBs⟩:∃ B:GA,B=(if (s:Int)=st then A else chA A n.toNat ⟨(s:Int),rt⟩):=⟨_,rfl⟩
   have hRb:ROK pl2 Bs Y1:=by rw [hBs,if_neg hne9]; exact hYR1
   have hBok:GOK Bs:=by rw [hBs]; split <;> first | exact hA | exact chA_ok (p:=⟨(s:Int),rt⟩) hA (show (1≤(s:Int)∧(s:Int)≤7)∧0≤rt∧rt≤1000000 from ⟨by omega,hpv9.2⟩)
   have hBps:Bs.ps.length=A.ps.length:=by rw [hBs]; split <;> first | rfl | exact List.length_set ..
   refine l_of (s_cl (playr_q hBok hRb rn hr0 (by omega) hYg1 (H23.tk [0,8])) ?_)
   rintro _ wq24 ⟨Yp,plp,rfl,hRp,hgp,hlp,hpp,H25⟩
   replace H25:S _ [_,_,_,_,_,_,_,_,_,_]:=H23.abI (new:=[_,_]) [0,8] H25 rfl
   have hpok:=stepsA_ok hBok rn.toNat
   have hgn8:(stepsA rn.toNat Bs).got.getD n.toNat 0 - A.got.getD n.toNat 0=(gainV A n.toNat rn.toNat rt st s):=by rw [hBs]; rfl
   refine b_ret rfl rfl ?_
   refine w_k4 ?_
   refine l_of (s_cl (gotr_q hpok hRp (by omega) hgp n (H25.tk [0,1])) ?_)
   rintro _ wq26 ⟨rfl,H27⟩
   replace H27:S _ [_,_,_,_,_,_,_,_,_,_]:=H25.abI (new:=[_,_]) [0,1] H27 rfl
   obtain ⟨gt9,hgt9⟩:∃ v:Int,v=gotT (stepsA rn.toNat Bs) n:=⟨_,rfl⟩
   rw [← hgt9]
   refine b_ret rfl rfl ?_
   have hpl9:(stepsA rn.toNat Bs).ps.length=A.ps.length:=by rw [stepsA_ps]; exact hBps
   have hgt2:gt9=(stepsA rn.toNat Bs).got.getD n.toNat 0:=by rw [hgt9]; unfold gotT; rw [ask1 (by rw [hpl9]; exact hn),if_pos rfl]
   have hgb9:=gotD_bd hpok n.toNat
   rw [← hgt2,hRp.gvl] at hgb9
   have hgn9:gt9 - own=(gainV A n.toNat rn.toNat rt st s):=by rw [hgt2,hown2]; exact hgn8
   clear hgn8 hgt2
   refine w_k9 ?_
   refine w_v (v:=.int .i64 ((gainV A n.toNat rn.toNat rt st s))) (ex_cast (x_bin rfl rfl rfl (b_sub (w64 (by omega)))) (by rw [hgn9])) ?_
   refine w_k3 ?_
   by_cases hb28:(mo:Int)<(gainV A n.toNat rn.toNat rt st s)
   ·
    iterate 2 refine w_n (decide_eq_true hb28) ?_
    refine w_v (x_pick_t rfl rfl (decide_eq_true hb28) rfl) ?_
    refine w_e ?_
    refine g_wk [(0,_),(1,_),(2,_),(6,_),(7,_),(9,_),(11,_),(13,_),(92,_)] ?_
    refine g_cond_t rfl rfl ?_
    refine w_k4 ?_
    refine w_v (v:=.int .i64 ((gainV A n.toNat rn.toNat rt st s))) (ex_cast (x_bin rfl rfl rfl (b_sub (w64 (by omega)))) (by rw [hgn9])) ?_
    refine w_k7 ?_
    refine w_i s ?_
    refine w_k2 ?_
    refine g_rd (i:=(s,at9,mo,pl2)) ((s+1),(s:Int),(gainV A n.toNat rn.toNat rt st s),plp) ⟨(by omega),(.inr (bestr_t hs.1 hbf (gainV_nn hA n.toNat rn.toNat ⟨by omega,by omega⟩ hpv9.2) (.inr hb28))),(hX2.more hpp),(fun r hr=>hpp r (hp2 r hr)),(H27.tk [2,3,4,5,6,7,8,1,9])⟩
   ·
    refine w_g (decide_eq_false hb28) xm ?_
    refine w_g (decide_eq_false hb28) (x_bin rfl rfl rfl b_eql) ?_
    refine w_v (x_pick_f rfl rfl (decide_eq_false hb28) rfl) ?_
    refine w_e ?_
    refine g_wk [(0,_),(1,_),(2,_),(6,_),(7,_),(9,_),(11,_),(13,_),(92,_)] ?_
    by_cases hb29:((s:Int):Int)=1
    ·
     refine g_ct hb29 ?_
     refine w_k4 ?_
     refine w_v (v:=.int .i64 ((gainV A n.toNat rn.toNat rt st s))) (ex_cast (x_bin rfl rfl rfl (b_sub (w64 (by omega)))) (by rw [hgn9])) ?_
     refine w_k7 ?_
     refine w_i s ?_
     refine w_k2 ?_
     refine g_rd (i:=(s,at9,mo,pl2)) ((s+1),(s:Int),(gainV A n.toNat rn.toNat rt st s),plp) ⟨(by omega),(.inr (bestr_t hs.1 hbf (gainV_nn hA n.toNat rn.toNat ⟨by omega,by omega⟩ hpv9.2) (.inl (by omega)))),(hX2.more hpp),(fun r hr=>hpp r (hp2 r hr)),(H27.tk [2,3,4,5,6,7,8,1,9])⟩
    ·
     refine g_cf hb29 ?_
     refine w_k5 ?_
     refine w_i s ?_
     refine w_k2 ?_
     refine g_rd (i:=(s,at9,mo,pl2)) ((s+1),at9,mo,plp) ⟨(by omega),(.inr (bestr_f hs.1 hbf (by omega) hb28)),(hX2.more hpp),(fun r hr=>hpp r (hp2 r hr)),(H27.tk [2,3,4,5,6,7,8,1,9])⟩
 ·
  refine g_cf hb9 ?_
  refine w_k13 ?_
  refine fin_r [.tmp 6,.tmp 7,.tmp 8] [.int .i64 at9,.int .i64 mo,.int .i64 0] ?_
  have hse:s=8:=by omega
  subst hse
  have hb7:(at9,mo)=bestF A n.toNat rn.toNat rt st 7:=hbf.resolve_left (by omega)
  rw [← hb7]
  exact ⟨pl2,rfl,hp2,S.big (L:=[_,_,_,_,_,_,_]) (H8.tk [0,1,2,3,4,5,6,7,8])⟩
theorem bestr_r7 (pl:List Rd) (A:GA) (X:GR) (hA:GOK A) (hX:ROK pl A X) (n rn:Int) (hn:¬ (0≤n∧n<(A.ps.length:Int)))  (w:World) (HS:S w [X.I,Pool pl]):Calls Tryz.prog 20 #[.pointer (some ⟨X.g,0,none⟩),.int .i64 n,.int .i64 rn] w fun e w'=>e=.returned (.tuple #[.int .i64 0,.int .i64 0,.int .i64 7])∧S w' ([X.I,Pool pl]++[Old w (fps [X.I,Pool pl])]):=by
 have H0:=HS.beginI
 replace H0:S _ [_,_,_,_,_,_,_,_,_]:=S.unbig (L:=[_,_,_,_,_,_,_]) H0
 have hps:=hX.ps
 have hnp9:X.ps.length≤9:=by rw [hps]; exact hA.n9
 have hnx:¬ (0≤n∧n<(X.ps.length:Int)):=by rw [hps]; exact hn
 refine enter 99 Tryz.func20 rfl rfl rfl ?_
 refine g_wk [(0,_),(1,_),(2,_)] ?_
 refine w_s ?_
 refine w_k8 ?_
 refine w_b (v:=.bool false) (hb:=(b_eqN (r:=false) Tryz.underlying33 rfl)) ?_
 refine w_k2 ?_
 refine g_cond_f rfl rfl ?_
 refine w_k3 ?_
 refine l_of (s_cl (there_r X.g X.sd X.lp X.lc X.ps X.rp X.rc X.gs X.xp X.xc X.xs X.yp X.yc X.ys hnp9 n _ (H0.tk [0])) ?_)
 rintro _ wq1 ⟨rfl,H2⟩
 replace H2:S _ [_,_,_,_,_,_,_,_,_]:=H0.abI (new:=[_]) [0] H2 rfl
 refine b_ret rfl rfl ?_
 refine w_v (x_not (b:=decide (0≤n∧n<(X.ps.length:Int))) rfl rfl) ?_
 refine w_m ?_
 iterate 2 refine w_n (nt hnx) ?_
 refine w_v (x_pick_t rfl rfl (nt hnx) rfl) ?_
 refine w_m ?_
 iterate 2 refine w_n rfl ?_
 refine w_v (x_pick_t rfl rfl rfl rfl) ?_
 refine w_k2 ?_
 refine g_wk [(0,_),(1,_),(2,_),(6,_),(7,_),(18,_)] ?_
 refine g_cond_t rfl rfl ?_
 refine w_k8 ?_
 refine fin_r [.tmp 6,.tmp 7,.tmp 8] [.int .i64 0,.int .i64 0,.int .i64 7] ?_
 exact ⟨rfl,S.big (L:=[_,_,_,_,_,_,_]) (H2.tk [0,1,2,3,4,5,6,7,8])⟩
theorem bestr_r7r (pl:List Rd) (A:GA) (X:GR) (hA:GOK A) (hX:ROK pl A X) (n rn:Int) (hn:0≤n∧n<(A.ps.length:Int)) (hr:¬ (0≤rn∧rn≤200))  (w:World) (HS:S w [X.I,Pool pl]):Calls Tryz.prog 20 #[.pointer (some ⟨X.g,0,none⟩),.int .i64 n,.int .i64 rn] w fun e w'=>e=.returned (.tuple #[.int .i64 0,.int .i64 0,.int .i64 7])∧S w' ([X.I,Pool pl]++[Old w (fps [X.I,Pool pl])]):=by
 have H0:=HS.beginI
 replace H0:S _ [_,_,_,_,_,_,_,_,_]:=S.unbig (L:=[_,_,_,_,_,_,_]) H0
 have hps:=hX.ps
 have hnp9:X.ps.length≤9:=by rw [hps]; exact hA.n9
 have hnx:0≤n∧n<(X.ps.length:Int):=by rw [hps]; exact hn
 refine enter 99 Tryz.func20 rfl rfl rfl ?_
 refine g_wk [(0,_),(1,_),(2,_)] ?_
 refine w_s ?_
 refine w_k8 ?_
 refine w_b (v:=.bool false) (hb:=(b_eqN (r:=false) Tryz.underlying33 rfl)) ?_
 refine w_k2 ?_
 refine g_cond_f rfl rfl ?_
 refine w_k3 ?_
 refine l_of (s_cl (there_r X.g X.sd X.lp X.lc X.ps X.rp X.rc X.gs X.xp X.xc X.xs X.yp X.yc X.ys hnp9 n _ (H0.tk [0])) ?_)
 rintro _ wq1 ⟨rfl,H2⟩
 replace H2:S _ [_,_,_,_,_,_,_,_,_]:=H0.abI (new:=[_]) [0] H2 rfl
 refine b_ret rfl rfl ?_
 refine w_v (x_not (b:=decide (0≤n∧n<(X.ps.length:Int))) rfl rfl) ?_
 refine w_m ?_
 refine w_g (nf hnx) xm ?_
 refine w_g (nf hnx) (x_bin rfl rfl rfl b_lss) ?_
 refine w_v (x_pick_f rfl rfl (nf hnx) rfl) ?_
 refine w_m ?_
 by_cases hb3:(rn:Int)<0
 ·
  iterate 2 refine w_n (decide_eq_true hb3) ?_
  refine w_v (x_pick_t rfl rfl (decide_eq_true hb3) rfl) ?_
  refine w_k2 ?_
  refine g_wk [(0,_),(1,_),(2,_),(6,_),(7,_),(18,_)] ?_
  refine g_cond_t rfl rfl ?_
  refine w_k8 ?_
  refine fin_r [.tmp 6,.tmp 7,.tmp 8] [.int .i64 0,.int .i64 0,.int .i64 7] ?_
  exact ⟨rfl,S.big (L:=[_,_,_,_,_,_,_]) (H2.tk [0,1,2,3,4,5,6,7,8])⟩
 ·
  refine w_g (decide_eq_false hb3) xm ?_
  refine w_g (decide_eq_false hb3) (x_bin rfl rfl rfl b_gtr) ?_
  refine w_v (x_pick_f rfl rfl (decide_eq_false hb3) rfl) ?_
  refine w_k2 ?_
  refine g_wk [(0,_),(1,_),(2,_),(6,_),(7,_),(18,_)] ?_
  refine g_cond_t rfl (decide_eq_true (by omega)) ?_
  refine w_k8 ?_
  refine fin_r [.tmp 6,.tmp 7,.tmp 8] [.int .i64 0,.int .i64 0,.int .i64 7] ?_
  exact ⟨rfl,S.big (L:=[_,_,_,_,_,_,_]) (H2.tk [0,1,2,3,4,5,6,7,8])⟩
noncomputable def bestT (A:GA) (n rn:Int):(Int × Int) × Int:=if (0≤n∧n<(A.ps.length:Int))∧0≤rn∧rn≤200 then (bestF A n.toNat rn.toNat (rtA A.ps n.toNat) (stA A.ps n.toNat) 7,0) else ((0,0),7)
section
variable {pl:List Rd} {A:GA} {Y:GR} {X:GM} {w:World} {g0:Nat}
theorem best_q (hX:MOK pl X) (hgl:X.gs.length≤100) (hg:X.g=g0) (n rn:Int) (hrn:rn≤12) (HS:S w [X.I,Pool pl]):Calls Tryz.prog 19 #[.pointer (some ⟨g0,0,none⟩),.int .i64 n,.int .i64 rn] w fun e w'=>∃ pl',e=.returned (.tuple #[.int .i64 (bestT X.A n rn).1.1,.int .i64 (bestT X.A n rn).1.2,.int .i64 (bestT X.A n rn).2])∧(∀ r∈pl,r∈pl')∧S w' ([X.I,Pool pl']++[Old w (fps [X.I,Pool pl])]):=by
 subst hg
 unfold bestT
 by_cases hn:0≤n∧n<(X.A.ps.length:Int)
 · by_cases hr:0≤rn∧rn≤200
   · rw [if_pos ⟨hn,hr⟩]
     obtain ⟨pm,hpm⟩:=ex_at (l:=X.ps) (j:=n.toNat) (by have h9:n<(X.ps.length:Int):=hn.2; omega)
     refine (best_x pl X hX n hn pm hpm (stA X.A.ps n.toNat) (rtA X.A.ps n.toNat) (stA_is (ps:=X.A.ps) hpm).symm (rtA_is (ps:=X.A.ps) hpm).symm rn hr (by omega) w HS).mono ?_
     rintro e w' ⟨pl',rfl,hp,h⟩
     exact ⟨pl',rfl,hp,h⟩
   · rw [if_neg (fun h=>hr h.2)]
     have H:=HS.beginI
     refine (best_x7r pl X hX n rn hn hr w (H.tk [0])).mono ?_
     rintro e w' ⟨rfl,H2⟩
     exact ⟨pl,rfl,fun _ h=>h,H.absorbI (new:=[_]) [0] H2⟩
 · rw [if_neg (fun h=>hn h.1)]
   have H:=HS.beginI
   refine (best_x7 pl X hX n rn hn w (H.tk [0])).mono ?_
   rintro e w' ⟨rfl,H2⟩
   exact ⟨pl,rfl,fun _ h=>h,H.absorbI (new:=[_]) [0] H2⟩
theorem bestr_q (hA:GOK A) (h:ROK pl A Y) (hgl:Y.gs.length≤100) (hg:Y.g=g0) (n rn:Int) (hrn:rn≤12) (HS:S w [Y.I,Pool pl]):Calls Tryz.prog 20 #[.pointer (some ⟨g0,0,none⟩),.int .i64 n,.int .i64 rn] w fun e w'=>∃ pl',e=.returned (.tuple #[.int .i64 (bestT A n rn).1.1,.int .i64 (bestT A n rn).1.2,.int .i64 (bestT A n rn).2])∧(∀ r∈pl,r∈pl')∧S w' ([Y.I,Pool pl']++[Old w (fps [Y.I,Pool pl])]):=by
 subst hg
 unfold bestT
 by_cases hn:0≤n∧n<(A.ps.length:Int)
 · by_cases hr:0≤rn∧rn≤200
   · rw [if_pos ⟨hn,hr⟩]
     obtain ⟨pm,hpm⟩:=ex_at (l:=A.ps) (j:=n.toNat) (by omega)
     refine (bestr_x pl A Y hA h n hn pm hpm (stA A.ps n.toNat) (rtA A.ps n.toNat) (stA_is hpm).symm (rtA_is hpm).symm rn hr (by omega) w HS).mono ?_
     rintro e w' ⟨pl',rfl,hp,h⟩
     exact ⟨pl',rfl,hp,h⟩
   · rw [if_neg (fun h=>hr h.2)]
     refine (bestr_r7r pl A Y hA h n rn hn hr w HS).mono ?_
     rintro e w' ⟨rfl,H2⟩
     exact ⟨pl,rfl,fun _ h=>h,H2⟩
 · rw [if_neg (fun h=>hn h.1)]
   refine (bestr_r7 pl A Y hA h n rn hn w HS).mono ?_
   rintro e w' ⟨rfl,H2⟩
   exact ⟨pl,rfl,fun _ h=>h,H2⟩
end
theorem gainV_bd {A:GA} (h:GOK A) (n r:Nat) {rt st s:Int} (hs:1≤s∧s≤7) (hr:0≤rt∧rt≤1000000) (hg:A.gv.length+r≤190):gainV A n r rt st s≤1900000000:=by
 unfold gainV
 have h0:=gotD_bd h n
 have h1:(stepsA r (if s=st then A else chA A n ⟨s,rt⟩)).got.getD n 0≤10000000 * ((A.gv.length+r:Nat):Int):=by
   split
   · have h2:=gotD_bd (stepsA_ok h r) n
     rw [stepsA_gv] at h2
     exact h2.2
   · have h2:=gotD_bd (stepsA_ok (chA_ok (n:=n) (p:=⟨s,rt⟩) h ⟨hs,hr⟩) r) n
     rw [stepsA_gv] at h2
     exact h2.2
 omega
theorem bestF_bd {A:GA} (h:GOK A) (n r:Nat) {rt st:Int} (hr:0≤rt∧rt≤1000000) (hg:A.gv.length+r≤190):∀ k,k≤7→-1≤(bestF A n r rt st k).2∧(bestF A n r rt st k).2≤1900000000
 | 0,_=>⟨Int.le_refl _,by show (-1:Int)≤_; decide⟩
 | k+1,hk=>by
   unfold bestF
   split
   · have h1:=gainV_nn h n r (rt:=rt) (st:=st) (s:=((k+1:Nat):Int)) (by omega) hr
     have h2:=gainV_bd h n r (rt:=rt) (st:=st) (s:=((k+1:Nat):Int)) (by omega) hr hg
     exact ⟨by show -1≤gainV A n r rt st ((k+1:Nat):Int); omega,h2⟩
   · exact bestF_bd h n r hr hg k (by omega)
theorem bestT_bd {A:GA} (h:GOK A) (n rn:Int) (hg:A.gv.length≤100) (hrn:rn≤12):-1≤(bestT A n rn).1.2∧(bestT A n rn).1.2≤1900000000:=by
 unfold bestT
 split
 · rename_i hn
   obtain ⟨pm,hpm⟩:=ex_at (l:=A.ps) (j:=n.toNat) (by omega)
   exact bestF_bd h n.toNat rn.toNat (by rw [rtA_is hpm]; exact (h.pv pm (List.mem_of_getElem? hpm)).2) (by omega) 7 (by omega)
 · exact ⟨by decide,by decide⟩
noncomputable def eqR (A:GA) (rn bd:Int):Nat→Bool
 | 0=>true
 | k+1=>eqR A rn bd k && decide (1000 * (bestT A (k:Int) rn).1.2≤(stepsA rn.toNat A).got.getD k 0 * 1000+(stepsA rn.toNat A).got.getD k 0 * bd)
noncomputable def eqV (sd:ByteArray) (l:List Pl) (rn bd:Int):Bool × Int:=if newE sd l=0 then (if (0≤rn∧rn≤200)∧0≤bd∧bd≤1000 then (eqR (newA sd l) rn bd l.length,0) else (false,7)) else (false,newE sd l)
section
variable {sd:ByteArray} {l:List Pl} {rn bd o b:Int} {A:GA} {i n:Nat}
theorem eqV_e (h:¬ newE sd l=0):eqV sd l rn bd=(false,newE sd l):=if_neg h
theorem eqV_7 (h:newE sd l=0) (h7:¬ ((0≤rn∧rn≤200)∧0≤bd∧bd≤1000)):eqV sd l rn bd=(false,7):=by unfold eqV; rw [if_pos h,if_neg h7]
theorem eqV_0 (h:newE sd l=0) (h7:(0≤rn∧rn≤200)∧0≤bd∧bd≤1000):eqV sd l rn bd=(eqR (newA sd l) rn bd l.length,0):=by unfold eqV; rw [if_pos h,if_pos h7]
theorem eqR_t (h:eqR A rn bd i=true) (ho:(stepsA rn.toNat A).got.getD i 0=o) (hb:(bestT A (i:Int) rn).1.2=b) (hl:1000 * b≤o * 1000+o * bd):eqR A rn bd (i+1)=true:=by
 unfold eqR
 rw [h,ho,hb,decide_eq_true hl]; rfl
theorem eqR_f (ho:(stepsA rn.toNat A).got.getD i 0=o) (hb:(bestT A (i:Int) rn).1.2=b) (hl:¬ 1000 * b≤o * 1000+o * bd):∀ n,i<n→eqR A rn bd n=false
 | 0,h=>absurd h (Nat.not_lt_zero _)
 | n+1,h=>by
   unfold eqR
   by_cases e:i=n
   · subst e
     rw [ho,hb,decide_eq_false hl,Bool.and_false]
   · rw [eqR_f ho hb hl n (by omega)]; rfl
theorem mulG_bd {a b:Int} (h:0≤a∧a≤10000000000) (h2:0≤b∧b≤2000):0≤a * b∧a * b≤20000000000000:=
 ⟨Int.mul_nonneg h.1 h2.1,Int.le_trans (Int.mul_le_mul h.2 h2.2 h2.1 (by decide)) (by decide)⟩
end
theorem equal_s (sd:ByteArray) (l:List Pl) (p:Option Addr) (n c:Nat) (rn bd:Int) (h9:n≤9) (hrn:rn≤12)  (w:World) (hr:Reads w p n c 2 (fl plL l)):Calls Tryz.prog 21 #[.slice p n c,.string sd,.int .i64 rn,.int .i64 bd] w fun e w'=>e=.returned (.tuple #[.bool (eqV sd l rn bd).1,.int .i64 (eqV sd l rn bd).2])∧S w' [Old w no]:=by
 have H0:=S.old w
 have hnl:=hr.lenL plE
 refine enter 72 Tryz.func21 rfl rfl rfl ?_
 refine g_wk [(0,_),(1,_),(2,_),(3,_)] ?_
 refine w_s ?_
 refine w_k6 ?_
 refine l_of (s_cl (new_any sd l p n c (by omega) _ (H0.exReads (k:=0) rfl hr (fun _ _ _ h=>h))) ?_)
 rintro ee3 wq1 hor4
 rcases hor4 with ⟨rfl,hEX,H2⟩ | ⟨X,rfl,hEX,hAX,hMX,hlX,H2⟩
 ·
  replace H2:=H0.ab0 H2
  refine b_ret rfl rfl ?_
  refine w_k9 ?_
  refine w_b (v:=.bool (!decide (((newE sd l):Int)=0))) (hb:=b_neq) ?_
  refine w_e ?_
  refine g_nt hEX ?_
  refine w_k5 ?_
  refine g_wk [(8,_),(9,_)] ?_
  refine g_ret ?_
  refine w_0 ?_
  refine fin_r [.tmp 8,.tmp 9] [.bool false,.int .i64 ((newE sd l))] ?_
  rw [eqV_e (by assumption)]
  exact ⟨rfl,H2.mask [true]⟩
 ·
  replace H2:S _ [_,_]:=H0.ab (new:=[_]) H2 rfl
  have H5:S _ [_,_,_]:=S.lstNil H2 RdI
  refine b_ret rfl rfl ?_
  refine w_k9 ?_
  refine w_b (v:=.bool (!decide ((0:Int)=0))) (hb:=b_neq) ?_
  refine w_e ?_
  refine g_nf rfl ?_
  refine w_k2 ?_
  refine g_wk [(0,_),(2,_),(3,_),(10,_)] ?_
  refine g_seq ?_
  refine w_k4 ?_
  by_cases hb6:(rn:Int)<0
  ·
   iterate 2 refine w_n (decide_eq_true hb6) ?_
   refine w_v (x_pick_t rfl rfl (decide_eq_true hb6) rfl) ?_
   refine w_m ?_
   iterate 2 refine w_n rfl ?_
   refine w_v (x_pick_t rfl rfl rfl rfl) ?_
   refine w_m ?_
   iterate 2 refine w_n rfl ?_
   refine w_v (x_pick_t rfl rfl rfl rfl) ?_
   refine w_e ?_
   refine g_wk [(0,_),(2,_),(3,_),(10,_),(39,_)] ?_
   refine g_cond_t rfl rfl ?_
   refine w_k6 ?_
   refine fin_r [.tmp 8,.tmp 9] [.bool false,.int .i64 7] ?_
   rw [eqV_7 (by assumption) (by omega)]
   exact ⟨rfl,H5.mask [false,false,true]⟩
  ·
   refine w_g (decide_eq_false hb6) xm ?_
   refine w_g (decide_eq_false hb6) (x_bin rfl rfl rfl b_gtr) ?_
   refine w_v (x_pick_f rfl rfl (decide_eq_false hb6) rfl) ?_
   refine w_m ?_
   refine l_of (s_val (v:=.int .i64 bd) (wt1 rfl rfl rfl rfl (decide_eq_false (by omega))) rfl rfl (x_move rfl rfl) ?_)
   refine l_of (s_val (v:=.bool (decide ((bd:Int)<0))) (wt1 rfl rfl rfl rfl (decide_eq_false (by omega))) rfl rfl (x_bin rfl rfl rfl b_lss) ?_)
   refine w_v (x_pick_f rfl rfl (decide_eq_false (by omega)) rfl) ?_
   refine w_m ?_
   by_cases hb7:(bd:Int)<0
   ·
    iterate 2 refine w_n (decide_eq_true hb7) ?_
    refine w_v (x_pick_t rfl rfl (decide_eq_true hb7) rfl) ?_
    refine w_e ?_
    refine g_wk [(0,_),(2,_),(3,_),(10,_),(39,_)] ?_
    refine g_cond_t rfl rfl ?_
    refine w_k6 ?_
    refine fin_r [.tmp 8,.tmp 9] [.bool false,.int .i64 7] ?_
    rw [eqV_7 (by assumption) (by omega)]
    exact ⟨rfl,H5.mask [false,false,true]⟩
   ·
    refine w_g (decide_eq_false hb7) xm ?_
    refine w_g (decide_eq_false hb7) (x_bin rfl rfl rfl b_gtr) ?_
    refine w_v (x_pick_f rfl rfl (decide_eq_false hb7) rfl) ?_
    refine w_e ?_
    refine g_wk [(0,_),(2,_),(3,_),(10,_),(39,_)] ?_
    by_cases hb8:(1000:Int)<bd
    ·
     refine g_ct hb8 ?_
     refine w_k6 ?_
     refine fin_r [.tmp 8,.tmp 9] [.bool false,.int .i64 7] ?_
     rw [eqV_7 (by assumption) (by omega)]
     exact ⟨rfl,H5.mask [false,false,true]⟩
    ·
     refine g_cf hb8 ?_
     refine w_k4 ?_
     refine l_of (s_cl (copy_g hMX (by omega) rfl (H5.tk [1,0])) ?_)
     rintro _ wq9 ⟨C,rfl,hCA,hCl,hCM,H10⟩
     replace H10:S _ [_,_,_,_]:=H5.abI (new:=[_,_,_]) [1,0] H10 rfl
     refine b_ret rfl rfl ?_
     refine w_k5 ?_
     refine l_of (s_cl (play_g hCM rn ⟨by omega,by omega⟩ (by omega) rfl (H10.tk [0,2])) ?_)
     rintro _ wq11 ⟨Xp,plp,rfl,hAp,hgp,hlp,hMp,hpp,H12⟩
     replace H12:S _ [_,_,_,_]:=H10.abI (new:=[_,_]) [0,2] H12 rfl
     refine b_ret rfl rfl ?_
     have H13:S _ [_,_,_,_,_,_,_,_,_,_,_,_]:=S.unbig (L:=[_,_,_,_,_,_,_,_,_]) (H12.tk [0,1,2,3])
     rw [hgp] at H13
     have hAp2:Xp.A=stepsA rn.toNat (newA sd l):=by rw [hAp,hCA,hAX]
     have hgq9:Xp.got.length=l.length:=by have h8:=hMp.ok.gt.1; rw [hAp2,stepsA_ps,← hAp2] at h8; exact h8
     have hX2:MOK plp X:=hMX.more hpp
     have hgv9:Xp.gs.length≤12:=by omega
     have hok:=hMX.ok
     rw [hAX] at hok
     refine w_k8 ?_
     refine g_loop (ι:=Nat × List Rd) (fun (i,pl2)=>[(2,.int .i64 rn),(3,.int .i64 bd),(10,.pointer (some ⟨X.g,0,none⟩)),(12,.pointer (some ⟨C.g,0,none⟩)),(46,.int .i64 ((n:Int))),(47,.int .i64 ((i:Int)))]) (fun (i,pl2) wx=>(i≤n)∧(MOK pl2 X)∧(eqR (newA sd l) rn bd i=true)∧S wx [(GM.I X),Ob C.g (.cells #[.slice Xp.gp Xp.gs.length Xp.gc,.string (Xp.sd),.slice Xp.pp Xp.ps.length Xp.pc,.slice Xp.sp Xp.ss.length Xp.sc,.slice Xp.tp Xp.got.length Xp.tc,.slice Xp.vp Xp.gave.length Xp.vc,.slice Xp.bp Xp.bs.length Xp.bc] 61 (0,0)),Rw 39 1 Xp.gp Xp.gs.length Xp.gc (fl rowL Xp.gs),Rw 27 2 Xp.pp Xp.ps.length Xp.pc (fl plL Xp.ps),Rw 63 1 Xp.sp Xp.ss.length Xp.sc (fl sgL Xp.ss),Rw 3 1 Xp.tp Xp.got.length Xp.tc (fl intL Xp.got),Rw 3 1 Xp.vp Xp.gave.length Xp.vc (fl intL Xp.gave),Rw 43 1 Xp.bp Xp.bs.length Xp.bc (fl rowL Xp.bs),(Lst BwI Xp.bs),(Lst SgI Xp.ss),(Pool pl2),Old w no]) (fun (i,pl2)=>n - i) (0,plp) ⟨rfl,rfl,rfl,rfl,rfl,rfl,trivial⟩ ⟨Nat.zero_le _,hX2,rfl,(H13.tk [10,0,1,2,3,4,5,6,7,8,9,11])⟩ ?_
     rintro ⟨i,pl2⟩ wq14 ⟨hi,hX3,heq,H15⟩
     refine g_wk [(2,_),(3,_),(10,_),(12,_),(46,_),(47,_)] ?_
     refine w_s ?_
     refine w_k2 ?_
     refine g_seq ?_
     by_cases hb16:((i:Int):Int)<(n:Int)
     ·
      refine g_ct hb16 ?_
      refine w_k12 ?_
      refine l_of (s_cl (best_q hX3 (by omega) rfl (i:Int) rn hrn (H15.tk [0,10])) ?_)
      rintro _ wq17 ⟨plb,rfl,hpb,H18⟩
      replace H18:S _ [_,_,_,_,_,_,_,_,_,_,_,_]:=H15.abI (new:=[_,_]) [0,10] H18 rfl
      rw [hAX]
      obtain ⟨mo,hmo⟩:∃ v:Int,v=(bestT (newA sd l) (i:Int) rn).1.2:=⟨_,rfl⟩
      rw [← hmo]
      have hmb9:=bestT_bd hok (i:Int) rn (Nat.zero_le _) hrn
      rw [← hmo] at hmb9
      refine b_ret rfl rfl ?_
      refine w_k8 ?_
      refine g_wk [(2,_),(3,_),(10,_),(12,_),(13,_),(15,_),(46,_),(47,_)] ?_
      refine w_s ?_
      refine w_m ?_
      refine w_b (v:=.int .i64 (1000 * mo)) (hb:=(b_mul (w64 (by omega)))) ?_
      refine w_k5 ?_
      refine w_v (x_i i (H18.rr 6)) ?_
      obtain ⟨x19,hx19⟩:=(H18.rr 6).exL intE i
      have ho9:(stepsA rn.toNat (newA sd l)).got.getD i 0=x19:=by rw [← hAp2]; exact getD_atT (show Xp.A.got[i]?=some x19 from hx19)
      have hob9:=hMp.ok.gt.2.at (show Xp.A.got[i]?=some x19 from hx19)
      rw [hMp.gvl] at hob9
      refine w_v (x_r i (H18.rr 6) (intE.flAt1 hx19 rfl)) ?_
      refine w_m ?_
      refine w_b (v:=.int .i64 (1000+bd)) (hb:=(b_add (w64 (by omega)))) ?_
      have hpb9:=mulG_bd (a:=x19) (b:=1000+bd) (by omega) (by omega)
      obtain ⟨m9,hm9⟩:∃ m:Int,m=(x19 * (1000+bd)):=⟨_,rfl⟩
      rw [← hm9] at hpb9
      have hm8:m9=x19 * 1000+x19 * bd:=by rw [hm9,Int.mul_add]
      refine w_v (v:=.int .i64 m9) (ex_cast (x_bin rfl rfl rfl (b_mul (r:=(x19 * (1000+bd))) (w64 (by rw [← hm9]; omega)))) (by rw [hm9])) ?_
      refine w_k2 ?_
      refine g_wk [(2,_),(3,_),(10,_),(12,_),(46,_),(47,_),(70,_)] ?_
      by_cases hb20:(m9:Int)<1000 * mo
      ·
       refine g_ct hb20 ?_
       refine w_k10 ?_
       refine fin_r [.tmp 8,.tmp 9] [.bool false,.int .i64 0] ?_
       rw [eqV_0 (by assumption) (by omega),eqR_f ho9 hmo.symm (by omega) l.length (by omega)]
       exact ⟨rfl,H18.mask [false,false,false,false,false,false,false,false,false,false,false,true]⟩
      ·
       refine g_cf hb20 ?_
       refine w_k4 ?_
       refine w_i i ?_
       refine w_k2 ?_
       refine g_rd (i:=(i,pl2)) ((i+1),plb) ⟨by omega,(hX3.more hpb),(eqR_t heq ho9 hmo.symm (by omega)),(H18.tk [0,2,3,4,5,6,7,8,9,10,1,11])⟩
     ·
      refine g_cf hb16 ?_
      refine w_k10 ?_
      refine fin_r [.tmp 8,.tmp 9] [.bool true,.int .i64 0] ?_
      have hie:i=l.length:=by omega
      rw [hie] at heq
      rw [eqV_0 (by assumption) (by omega),heq]
      exact ⟨rfl,H15.mask [false,false,false,false,false,false,false,false,false,false,false,true]⟩
theorem equalr_s (sd:ByteArray) (l:List Pl) (p:Option Addr) (n c:Nat) (rn bd:Int) (h9:n≤9) (hrn:rn≤12)  (w:World) (hr:Reads w p n c 2 (fl plL l)):Calls Tryz.prog 22 #[.slice p n c,.string sd,.int .i64 rn,.int .i64 bd] w fun e w'=>e=.returned (.tuple #[.bool (eqV sd l rn bd).1,.int .i64 (eqV sd l rn bd).2])∧S w' [Old w no]:=by
 have H0:=S.old w
 have hnl:=hr.lenL plE
 refine enter 75 Tryz.func22 rfl rfl rfl ?_
 refine g_wk [(0,_),(1,_),(2,_),(3,_)] ?_
 refine w_s ?_
 refine w_k6 ?_
 refine l_of (s_cl (newr_q sd l p n c (by omega) _ (H0.exReads (k:=0) rfl hr (fun _ _ _ h=>h))) ?_)
 rintro ee3 wq1 hor4
 rcases hor4 with ⟨rfl,hEX,H2⟩ | ⟨K,rfl,hEX,hRK,hlK,H2⟩
 ·
  replace H2:=H0.ab0 H2
  refine b_ret rfl rfl ?_
  refine w_k9 ?_
  refine w_b (v:=.bool (!decide (((newE sd l):Int)=0))) (hb:=b_neq) ?_
  refine w_e ?_
  refine g_nt hEX ?_
  refine w_k5 ?_
  refine g_wk [(8,_),(9,_)] ?_
  refine g_ret ?_
  refine w_0 ?_
  refine fin_r [.tmp 8,.tmp 9] [.bool false,.int .i64 ((newE sd l))] ?_
  rw [eqV_e (by assumption)]
  exact ⟨rfl,H2.mask [true]⟩
 ·
  replace H2:S _ [_,_]:=H0.ab (new:=[_]) H2 rfl
  have H5:S _ [_,_,_]:=S.lstNil H2 RdI
  refine b_ret rfl rfl ?_
  refine w_k9 ?_
  refine w_b (v:=.bool (!decide ((0:Int)=0))) (hb:=b_neq) ?_
  refine w_e ?_
  refine g_nf rfl ?_
  refine w_k2 ?_
  refine g_wk [(0,_),(2,_),(3,_),(10,_)] ?_
  refine g_seq ?_
  refine w_k4 ?_
  by_cases hb6:(rn:Int)<0
  ·
   iterate 2 refine w_n (decide_eq_true hb6) ?_
   refine w_v (x_pick_t rfl rfl (decide_eq_true hb6) rfl) ?_
   refine w_m ?_
   iterate 2 refine w_n rfl ?_
   refine w_v (x_pick_t rfl rfl rfl rfl) ?_
   refine w_m ?_
   iterate 2 refine w_n rfl ?_
   refine w_v (x_pick_t rfl rfl rfl rfl) ?_
   refine w_e ?_
   refine g_wk [(0,_),(2,_),(3,_),(10,_),(41,_)] ?_
   refine g_cond_t rfl rfl ?_
   refine w_k6 ?_
   refine fin_r [.tmp 8,.tmp 9] [.bool false,.int .i64 7] ?_
   rw [eqV_7 (by assumption) (by omega)]
   exact ⟨rfl,H5.mask [false,false,true]⟩
  ·
   refine w_g (decide_eq_false hb6) xm ?_
   refine w_g (decide_eq_false hb6) (x_bin rfl rfl rfl b_gtr) ?_
   refine w_v (x_pick_f rfl rfl (decide_eq_false hb6) rfl) ?_
   refine w_m ?_
   refine l_of (s_val (v:=.int .i64 bd) (wt1 rfl rfl rfl rfl (decide_eq_false (by omega))) rfl rfl (x_move rfl rfl) ?_)
   refine l_of (s_val (v:=.bool (decide ((bd:Int)<0))) (wt1 rfl rfl rfl rfl (decide_eq_false (by omega))) rfl rfl (x_bin rfl rfl rfl b_lss) ?_)
   refine w_v (x_pick_f rfl rfl (decide_eq_false (by omega)) rfl) ?_
   refine w_m ?_
   by_cases hb7:(bd:Int)<0
   ·
    iterate 2 refine w_n (decide_eq_true hb7) ?_
    refine w_v (x_pick_t rfl rfl (decide_eq_true hb7) rfl) ?_
    refine w_e ?_
    refine g_wk [(0,_),(2,_),(3,_),(10,_),(41,_)] ?_
    refine g_cond_t rfl rfl ?_
    refine w_k6 ?_
    refine fin_r [.tmp 8,.tmp 9] [.bool false,.int .i64 7] ?_
    rw [eqV_7 (by assumption) (by omega)]
    exact ⟨rfl,H5.mask [false,false,true]⟩
   ·
    refine w_g (decide_eq_false hb7) xm ?_
    refine w_g (decide_eq_false hb7) (x_bin rfl rfl rfl b_gtr) ?_
    refine w_v (x_pick_f rfl rfl (decide_eq_false hb7) rfl) ?_
    refine w_e ?_
    refine g_wk [(0,_),(2,_),(3,_),(10,_),(41,_)] ?_
    by_cases hb8:(1000:Int)<bd
    ·
     refine g_ct hb8 ?_
     refine w_k6 ?_
     refine fin_r [.tmp 8,.tmp 9] [.bool false,.int .i64 7] ?_
     rw [eqV_7 (by assumption) (by omega)]
     exact ⟨rfl,H5.mask [false,false,true]⟩
    ·
     refine g_cf hb8 ?_
     refine w_k4 ?_
     have hA:GOK (newA sd l):=by obtain ⟨h1,h2,h3⟩:=newE_0 hEX; exact newA_ok (by omega) h2 h3 (by omega)
     refine l_of (s_cl (copyr_q hA hRK (by omega) rfl (H5.tk [1])) ?_)
     rintro _ wq9 ⟨Y,rfl,hYR,hYl,H10⟩
     replace H10:S _ [_,_,_,_]:=H5.abI (new:=[_,_]) [1] H10 rfl
     refine b_ret rfl rfl ?_
     refine w_k5 ?_
     refine l_of (s_cl (playr_q hA hYR rn ⟨by omega,by omega⟩ (by omega) rfl (H10.tk [0,2])) ?_)
     rintro _ wq11 ⟨Yp,plp,rfl,hRp,hgp,hlp,hpp,H12⟩
     replace H12:S _ [_,_,_,_]:=H10.abI (new:=[_,_]) [0,2] H12 rfl
     have hpok:=stepsA_ok hA rn.toNat
     have hK2:=hRK.more hpp
     refine b_ret rfl rfl ?_
     refine w_k8 ?_
     refine g_loop (ι:=Nat × List Rd) (fun (i,pl2)=>[(2,.int .i64 rn),(3,.int .i64 bd),(10,.pointer (some ⟨K.g,0,none⟩)),(12,.pointer (some ⟨Y.g,0,none⟩)),(48,.int .i64 ((n:Int))),(49,.int .i64 ((i:Int)))]) (fun (i,pl2) wx=>(i≤n)∧(ROK pl2 (newA sd l) K)∧(ROK pl2 (stepsA rn.toNat (newA sd l)) Yp)∧(eqR (newA sd l) rn bd i=true)∧S wx [(GR.I K),(GR.I Yp),(Pool pl2),Old w no]) (fun (i,pl2)=>n - i) (0,plp) ⟨rfl,rfl,rfl,rfl,rfl,rfl,trivial⟩ ⟨Nat.zero_le _,hK2,hRp,rfl,(H12.tk [2,0,1,3])⟩ ?_
     rintro ⟨i,pl2⟩ wq13 ⟨hi,hK3,hR3,heq,H14⟩
     refine g_wk [(2,_),(3,_),(10,_),(12,_),(48,_),(49,_)] ?_
     refine w_s ?_
     refine w_k2 ?_
     refine g_seq ?_
     by_cases hb15:((i:Int):Int)<(n:Int)
     ·
      refine g_ct hb15 ?_
      refine w_k11 ?_
      refine l_of (s_cl (gotr_q hpok hR3 (by omega) hgp (i:Int) (H14.tk [1,2])) ?_)
      rintro _ wq16 ⟨rfl,H17⟩
      replace H17:S _ [_,_,_,_]:=H14.abI (new:=[_,_]) [1,2] H17 rfl
      have hpl9:(stepsA rn.toNat (newA sd l)).ps.length=l.length:=by rw [stepsA_ps]; rfl
      obtain ⟨own,hown⟩:∃ v:Int,v=gotT (stepsA rn.toNat (newA sd l)) (i:Int):=⟨_,rfl⟩
      rw [← hown]
      have ho9:(stepsA rn.toNat (newA sd l)).got.getD i 0=own:=by rw [hown]; unfold gotT; rw [ask1 (by rw [hpl9]; omega),if_pos rfl]; rfl
      have hob9:=gotD_bd hpok i
      rw [ho9,hR3.gvl] at hob9
      refine b_ret rfl rfl ?_
      refine w_k10 ?_
      refine l_of (s_cl (bestr_q hA hK3 (by omega) rfl (i:Int) rn hrn (H17.tk [2,1])) ?_)
      rintro _ wq18 ⟨plb,rfl,hpb,H19⟩
      replace H19:S _ [_,_,_,_]:=H17.abI (new:=[_,_]) [2,1] H19 rfl
      obtain ⟨mo,hmo⟩:∃ v:Int,v=(bestT (newA sd l) (i:Int) rn).1.2:=⟨_,rfl⟩
      rw [← hmo]
      have hmb9:=bestT_bd hA (i:Int) rn (Nat.zero_le _) hrn
      rw [← hmo] at hmb9
      refine b_ret rfl rfl ?_
      refine w_k8 ?_
      refine g_wk [(2,_),(3,_),(10,_),(12,_),(14,_),(17,_),(48,_),(49,_)] ?_
      refine w_s ?_
      refine w_r2 ?_
      refine w_b (v:=.int .i64 (mo - own)) (hb:=(b_sub (w64 (by omega)))) ?_
      refine w_b (v:=.int .i64 (1000 * (mo - own))) (hb:=(b_mul (w64 (by omega)))) ?_
      refine w_r2 ?_
      have hpb9:=mulG_bd (a:=own) (b:=bd) (by omega) (by omega)
      obtain ⟨m9,hm9⟩:∃ m:Int,m=(bd * own):=⟨_,rfl⟩
      have hm8:m9=own * bd:=by rw [hm9,Int.mul_comm]
      rw [← hm8] at hpb9
      refine w_v (v:=.int .i64 m9) (ex_cast (x_bin rfl rfl rfl (b_mul (r:=(bd * own)) (w64 (by rw [← hm9]; omega)))) (by rw [hm9])) ?_
      refine w_k2 ?_
      by_cases hb20:(m9:Int)<1000 * (mo - own)
      ·
       refine g_ct hb20 ?_
       refine w_k4 ?_
       refine g_wk [(8,_),(9,_)] ?_
       refine g_ret ?_
       refine w_k5 ?_
       refine fin_r [.tmp 8,.tmp 9] [.bool false,.int .i64 0] ?_
       rw [eqV_0 (by assumption) (by omega),eqR_f ho9 hmo.symm (by omega) l.length (by omega)]
       exact ⟨rfl,H19.mask [false,false,false,true]⟩
      ·
       refine g_cf hb20 ?_
       refine w_k4 ?_
       refine w_i i ?_
       refine w_k2 ?_
       refine g_rd (i:=(i,pl2)) ((i+1),plb) ⟨by omega,(hK3.more hpb),(hR3.more hpb),(eqR_t heq ho9 hmo.symm (by omega)),(H19.tk [0,2,1,3])⟩
     ·
      refine g_cf hb15 ?_
      refine w_k10 ?_
      refine fin_r [.tmp 8,.tmp 9] [.bool true,.int .i64 0] ?_
      have hie:i=l.length:=by omega
      rw [hie] at heq
      rw [eqV_0 (by assumption) (by omega),heq]
      exact ⟨rfl,H14.mask [false,false,false,true]⟩
theorem cl21:callable Tryz.prog 21=true:=by kernel_rfl
theorem cl22:callable Tryz.prog 22=true:=by kernel_rfl
section
variable {sd:ByteArray} {l:List Pl} {rn bd:Int} {A:GA}
theorem eqV_ok (h:(eqV sd l rn bd).1=true):newE sd l=0∧(0≤rn∧rn≤200)∧0≤bd∧bd≤1000:=by
 by_cases h0:newE sd l=0
 · by_cases h7:(0≤rn∧rn≤200)∧0≤bd∧bd≤1000
   · exact ⟨h0,h7⟩
   · rw [eqV_7 h0 h7] at h; cases h
 · rw [eqV_e h0] at h; cases h
theorem eqR_up (hA:GOK A):∀ n,eqR A rn bd n=true→eqR A rn (bd+1) n=true
 | 0,_=>rfl
 | n+1,h=>by
   unfold eqR at h
   rw [Bool.and_eq_true,decide_eq_true_eq] at h
   have h1:=(gotD_bd (stepsA_ok hA rn.toNat) n).1
   exact eqR_t (eqR_up hA n h.1) rfl rfl (by rw [Int.mul_add,Int.mul_one]; omega)
theorem eqV_up (hA:GOK (newA sd l)) (h:(eqV sd l rn bd).1=true) (hb:bd<1000):eqV sd l rn (bd+1)=(true,0):=by
 obtain ⟨h0,h7⟩:=eqV_ok h
 rw [eqV_0 h0 h7] at h
 rw [eqV_0 h0 ⟨h7.1,by omega⟩,eqR_up hA _ h]
end
theorem best_law (sd:ByteArray) (l:List Pl) (p:Option Addr) (n c:Nat) (hn2:n≤9223372036854775807) (rn who rk bd:Int)  (w:World) (hr:Reads w p n c 2 (fl plL l)):Calls Tryz.prog 4 #[.string sd,.slice p n c,.int .i64 rn,.int .i64 who,.int .i64 rk,.int .i64 bd] w fun e w'=>e=.returned (.bool true)∧S w' [Old w no]:=by
 have H0:=S.old w
 have hnl:=hr.lenL plE
 refine enter 155 Tryz.func4 rfl rfl rfl ?_
 refine g_wk [(0,_),(1,_),(2,_),(3,_),(4,_),(5,_)] ?_
 refine w_s ?_
 refine w_k7 ?_
 refine l_of (s_call0 H0 (wt0 rfl) (x_call' rfl rfl cl5) (light_s sd l p n c rn _) rfl rfl ?_)
 intro wq1 H2
 refine w_v (x_not (b:=decide (n≤9∧sd.size≤120∧rn≤30)) rfl rfl) ?_
 refine w_m ?_
 by_cases hb3:(n≤9∧sd.size≤120∧rn≤30)
 ·
  refine w_g (nf hb3) xm ?_
  refine w_g (nf hb3) x_q ?_
  refine w_g (nf hb3) (x_bin rfl rfl rfl b_gtr) ?_
  refine w_v (x_pick_f rfl rfl (nf hb3) rfl) ?_
  refine w_m ?_
  by_cases hb4:(6:Int)<(n:Int)
  ·
   iterate 2 refine w_n (decide_eq_true hb4) ?_
   refine w_v (x_pick_t rfl rfl (decide_eq_true hb4) rfl) ?_
   refine w_m ?_
   iterate 2 refine w_n rfl ?_
   refine w_v (x_pick_t rfl rfl rfl rfl) ?_
   refine w_m ?_
   iterate 2 refine w_n rfl ?_
   refine w_v (x_pick_t rfl rfl rfl rfl) ?_
   refine w_e ?_
   refine g_wk [(0,_),(1,_),(2,_),(3,_),(4,_),(5,_),(46,_)] ?_
   refine g_cond_t rfl rfl ?_
   refine w_s ?_
   refine l_of (s_call0 H2 (wt0 rfl) (x_call' rfl rfl cl6) (awake_s _) rfl rfl ?_)
   intro wq5 H6
   refine w_k4 ?_
   refine fin_r [.tmp 12] [.bool true] ?_
   exact ⟨rfl,H6.mask [true]⟩
  ·
   refine w_g (decide_eq_false hb4) xm ?_
   refine w_g (decide_eq_false hb4) (x_bin rfl rfl rfl b_gtr) ?_
   refine w_v (x_pick_f rfl rfl (decide_eq_false hb4) rfl) ?_
   refine w_m ?_
   by_cases hb7:(12:Int)<rk
   ·
    iterate 2 refine w_n (decide_eq_true hb7) ?_
    refine w_v (x_pick_t rfl rfl (decide_eq_true hb7) rfl) ?_
    refine w_m ?_
    iterate 2 refine w_n rfl ?_
    refine w_v (x_pick_t rfl rfl rfl rfl) ?_
    refine w_e ?_
    refine g_wk [(0,_),(1,_),(2,_),(3,_),(4,_),(5,_),(46,_)] ?_
    refine g_cond_t rfl rfl ?_
    refine w_s ?_
    refine l_of (s_call0 H2 (wt0 rfl) (x_call' rfl rfl cl6) (awake_s _) rfl rfl ?_)
    intro wq8 H9
    refine w_k4 ?_
    refine fin_r [.tmp 12] [.bool true] ?_
    exact ⟨rfl,H9.mask [true]⟩
   ·
    refine w_g (decide_eq_false hb7) xm ?_
    refine w_g (decide_eq_false hb7) (x_bin rfl rfl rfl b_lss) ?_
    refine w_v (x_pick_f rfl rfl (decide_eq_false hb7) rfl) ?_
    refine w_m ?_
    by_cases hb10:(rn:Int)<0
    ·
     iterate 2 refine w_n (decide_eq_true hb10) ?_
     refine w_v (x_pick_t rfl rfl (decide_eq_true hb10) rfl) ?_
     refine w_e ?_
     refine g_wk [(0,_),(1,_),(2,_),(3,_),(4,_),(5,_),(46,_)] ?_
     refine g_cond_t rfl rfl ?_
     refine w_s ?_
     refine l_of (s_call0 H2 (wt0 rfl) (x_call' rfl rfl cl6) (awake_s _) rfl rfl ?_)
     intro wq11 H12
     refine w_k4 ?_
     refine fin_r [.tmp 12] [.bool true] ?_
     exact ⟨rfl,H12.mask [true]⟩
    ·
     refine w_g (decide_eq_false hb10) xm ?_
     refine w_g (decide_eq_false hb10) (x_bin rfl rfl rfl b_gtr) ?_
     refine w_v (x_pick_f rfl rfl (decide_eq_false hb10) rfl) ?_
     refine w_e ?_
     refine g_wk [(0,_),(1,_),(2,_),(3,_),(4,_),(5,_),(46,_)] ?_
     by_cases hb13:(10:Int)<rn
     ·
      refine g_ct hb13 ?_
      refine w_s ?_
      refine l_of (s_call0 H2 (wt0 rfl) (x_call' rfl rfl cl6) (awake_s _) rfl rfl ?_)
      intro wq14 H15
      refine w_k4 ?_
      refine fin_r [.tmp 12] [.bool true] ?_
      exact ⟨rfl,H15.mask [true]⟩
     ·
      refine g_cf hb13 ?_
      refine w_k5 ?_
      refine l_of (s_cl (new_any sd l p n c (by omega) _ (H2.exReads (k:=0) rfl hr (fun _ _ _ h=>h))) ?_)
      rintro ee18 wq16 hor19
      rcases hor19 with ⟨rfl,hEX,H17⟩ | ⟨X,rfl,hEX,hAX,hMX,hlX,H17⟩
      ·
       replace H17:=H2.ab0 H17
       refine b_ret rfl rfl ?_
       refine w_k9 ?_
       refine l_of (s_cl (newr_q sd l p n c (by omega) _ (H17.exReads (k:=0) rfl hr (fun _ _ _ h=>h))) ?_)
       rintro ee22 wq20 hor23
       rcases hor23 with ⟨rfl,hEK,H21⟩ | ⟨K,rfl,hEK,hRK,hlK,H21⟩
       ·
        replace H21:=H17.ab0 H21
        refine b_ret rfl rfl ?_
        refine w_k6 ?_
        refine g_wk [(0,_),(1,_),(2,_),(3,_),(4,_),(5,_),(13,_),(14,_),(15,_),(16,_)] ?_
        refine g_seq ?_
        refine w_k3 ?_
        refine w_b (v:=.bool (!decide (((newE sd l):Int)=(newE sd l)))) (hb:=b_neq) ?_
        refine w_m ?_
        refine w_g (nf rfl) xm ?_
        refine w_g (nf rfl) (x_bin rfl rfl rfl b_neq) ?_
        refine w_v (x_pick_f rfl rfl (nf rfl) rfl) ?_
        refine w_e ?_
        refine g_nt hEX ?_
        refine w_k5 ?_
        refine l_of (s_call0 H21 (wt1 rfl rfl rfl rfl (decide_eq_true rfl)) (x_call' rfl rfl cl6) (awake_s _) rfl rfl ?_)
        intro wq24 H25
        refine w_v (x_pick_t rfl rfl (decide_eq_true rfl) rfl) ?_
        refine w_k2 ?_
        refine g_wk [(12,_)] ?_
        refine g_ret ?_
        refine w_0 ?_
        refine fin_r [.tmp 12] [.bool true] ?_
        exact ⟨rfl,H25.mask [true]⟩
       ·
        exact absurd hEK hEX
      ·
       replace H17:S _ [_,_]:=H2.ab (new:=[_]) H17 rfl
       have H26:S _ [_,_,_]:=S.lstNil H17 RdI
       refine b_ret rfl rfl ?_
       refine w_k9 ?_
       refine l_of (s_cl (newr_q sd l p n c (by omega) _ (H26.exReads (k:=2) rfl hr (fun _ _ _ h=>h))) ?_)
       rintro ee29 wq27 hor30
       rcases hor30 with ⟨rfl,hEK,H28⟩ | ⟨K,rfl,hEK,hRK,hlK,H28⟩
       ·
        exact absurd hEX hEK
       ·
        replace H28:S _ [_,_,_,_]:=H26.ab (new:=[_]) H28 rfl
        refine b_ret rfl rfl ?_
        refine w_k6 ?_
        refine g_wk [(0,_),(1,_),(2,_),(3,_),(4,_),(5,_),(13,_),(14,_),(15,_),(16,_)] ?_
        refine g_seq ?_
        refine w_k3 ?_
        refine w_b (v:=.bool (!decide ((0:Int)=0))) (hb:=b_neq) ?_
        refine w_m ?_
        refine w_g (nf rfl) xm ?_
        refine w_g (nf rfl) (x_bin rfl rfl rfl b_neq) ?_
        refine w_v (x_pick_f rfl rfl (nf rfl) rfl) ?_
        refine w_e ?_
        refine g_nf rfl ?_
        refine w_k5 ?_
        refine l_of (s_cl (play_g hMX rn ⟨by omega,by omega⟩ (by omega) rfl (H28.tk [2,1])) ?_)
        rintro _ wq31 ⟨Xp,plp,rfl,hAp,hgp,hlp,hMp,hpp,H32⟩
        replace H32:S _ [_,_,_,_]:=H28.abI (new:=[_,_]) [2,1] H32 rfl
        refine b_ret rfl rfl ?_
        have hAp2:Xp.A=(stepsA rn.toNat (newA sd l)):=by rw [hAp,hAX]
        have hRK2:=hRK.more hpp
        have hok:=hMX.ok
        rw [hAX] at hok
        refine w_e ?_
        refine g_wk [(0,_),(1,_),(2,_),(3,_),(4,_),(5,_),(13,_),(15,_)] ?_
        refine w_s ?_
        refine w_r2 ?_
        refine l_of (s_cl (playr_q hok hRK2 rn ⟨by omega,by omega⟩ (by omega) rfl (H32.tk [2,1])) ?_)
        rintro _ wq33 ⟨Kp,plq,rfl,hRq,hgq,hlq,hpq,H34⟩
        replace H34:S _ [_,_,_,_]:=H32.abI (new:=[_,_]) [2,1] H34 rfl
        have hMq:=hMp.more hpq
        have hokp:=stepsA_ok hok rn.toNat
        refine b_ret rfl rfl ?_
        refine w_k5 ?_
        refine l_of (s_cl (best_q hMq (by omega) hgp who rk (by omega) (H34.tk [2,1])) ?_)
        rintro _ wq35 ⟨plb,rfl,hpb,H36⟩
        replace H36:S _ [_,_,_,_]:=H34.abI (new:=[_,_]) [2,1] H36 rfl
        rw [hAp2]
        have hRb:=hRq.more hpb
        refine b_ret rfl rfl ?_
        refine w_k8 ?_
        refine g_wk [(0,_),(1,_),(3,_),(4,_),(5,_),(14,_),(15,_),(17,_),(18,_)] ?_
        refine w_s ?_
        refine w_r3 ?_
        refine l_of (s_cl (bestr_q hokp hRb (by omega) hgq who rk (by omega) (H36.tk [2,1])) ?_)
        rintro _ wq37 ⟨plc,rfl,hpc,H38⟩
        replace H38:S _ [_,_,_,_]:=H36.abI (new:=[_,_]) [2,1] H38 rfl
        refine b_ret rfl rfl ?_
        refine w_k12 ?_
        refine w_b (v:=.bool (!decide (((bestT (stepsA rn.toNat (newA sd l)) who rk).1.1:Int)=(bestT (stepsA rn.toNat (newA sd l)) who rk).1.1))) (hb:=b_neq) ?_
        refine w_m ?_
        iterate 2 refine w_g (nf rfl) xm ?_
        refine w_g (nf rfl) (x_bin rfl rfl rfl b_neq) ?_
        refine w_v (x_pick_f rfl rfl (nf rfl) rfl) ?_
        refine w_m ?_
        iterate 2 refine w_g (nf rfl) xm ?_
        refine w_g (nf rfl) (x_bin rfl rfl rfl b_neq) ?_
        refine w_v (x_pick_f rfl rfl (nf rfl) rfl) ?_
        refine w_e ?_
        refine g_wk [(0,_),(1,_),(4,_),(5,_),(107,_)] ?_
        refine g_nf rfl ?_
        refine w_k7 ?_
        refine l_of (s_call0 H38 (wt0 rfl) (x_call' rfl rfl cl21) (equal_s sd l p n c rk bd (by omega) (by omega) _ (H38.exReads (k:=3) rfl hr (fun _ _ _ h=>h))) rfl rfl ?_)
        intro wq39 H40
        refine w_k11 ?_
        refine l_of (s_call0 H40 (wt0 rfl) (x_call' rfl rfl cl22) (equalr_s sd l p n c rk bd (by omega) (by omega) _ (H40.exReads (k:=3) rfl hr (fun _ _ _ h=>h))) rfl rfl ?_)
        intro wq41 H42
        refine w_k6 ?_
        refine g_wk [(0,_),(1,_),(4,_),(5,_),(14,_),(16,_),(21,_),(22,_)] ?_
        refine g_seq ?_
        refine w_k3 ?_
        refine w_b (v:=.bool (!(((eqV sd l rk bd).1) == ((eqV sd l rk bd).1)))) (hb:=(b_neN Tryz.underlying4 rfl)) ?_
        refine w_m ?_
        refine l_of (s_val (v:=.int .i64 ((eqV sd l rk bd).2)) (wt1 rfl rfl rfl rfl (by simp)) rfl rfl (x_move rfl rfl) ?_)
        refine l_of (s_val (v:=.int .i64 ((eqV sd l rk bd).2)) (wt1 rfl rfl rfl rfl (by simp)) rfl rfl (x_move rfl rfl) ?_)
        refine l_of (s_val (v:=.bool (!decide (((eqV sd l rk bd).2:Int)=(eqV sd l rk bd).2))) (wt1 rfl rfl rfl rfl (by simp)) rfl rfl (x_bin rfl rfl rfl b_neq) ?_)
        refine w_v (x_pick_f rfl rfl (by simp) rfl) ?_
        refine w_e ?_
        refine g_nf rfl ?_
        refine w_k6 ?_
        rcases Bool.eq_false_or_eq_true ((eqV sd l rk bd).1) with hb43 | hb43
        ·
         refine w_g hb43 xm ?_
         refine w_g hb43 (x_bin rfl rfl rfl b_lss) ?_
         refine w_v (x_pick_t rfl rfl hb43 rfl) ?_
         refine w_e ?_
         refine g_wk [(0,_),(1,_),(4,_),(5,_),(136,_)] ?_
         by_cases hb44:(bd:Int)<1000
         ·
          refine g_ct hb44 ?_
          refine w_k5 ?_
          have heq9:(eqV sd l rk bd).1=true:=hb43
          have hbd9:=(eqV_ok heq9).2.2
          refine w_b (v:=.int .i64 (bd+1)) (hb:=(b_add (w64 (by omega)))) ?_
          refine l_of (s_cl (equal_s sd l p n c rk (bd+1) (by omega) (by omega) _ (H42.exReads (k:=3) rfl hr (fun _ _ _ h=>h))) ?_)
          rintro _ wq45 ⟨rfl,H46⟩
          replace H46:=H42.ab0 H46
          rw [eqV_up hok heq9 (by omega)]
          refine b_ret rfl rfl ?_
          refine w_k6 ?_
          refine g_wk [(23,_),(24,_)] ?_
          refine w_s ?_
          refine w_k3 ?_
          refine w_g (decide_eq_true rfl) xm ?_
          refine w_v (x_pick_t rfl rfl (decide_eq_true rfl) rfl) ?_
          refine w_m ?_
          refine l_of (s_call0 H46 (wt1 rfl rfl rfl rfl rfl) (x_call' rfl rfl cl6) (awake_s _) rfl rfl ?_)
          intro wq47 H48
          refine w_v (x_pick_t rfl rfl rfl rfl) ?_
          refine w_k4 ?_
          refine fin_r [.tmp 12] [.bool true] ?_
          exact ⟨rfl,H48.mask [false,false,false,true]⟩
         ·
          refine g_cf hb44 ?_
          refine w_k3 ?_
          refine l_of (s_call0 H42 (wt0 rfl) (x_call' rfl rfl cl6) (awake_s _) rfl rfl ?_)
          intro wq49 H50
          refine w_k3 ?_
          refine fin_r [.tmp 12] [.bool true] ?_
          exact ⟨rfl,H50.mask [false,false,false,true]⟩
        ·
         iterate 2 refine w_n hb43 ?_
         refine w_v (x_pick_f rfl rfl hb43 rfl) ?_
         refine w_e ?_
         refine g_wk [(0,_),(1,_),(4,_),(5,_),(136,_)] ?_
         refine g_cond_f rfl rfl ?_
         refine w_k3 ?_
         refine l_of (s_call0 H42 (wt0 rfl) (x_call' rfl rfl cl6) (awake_s _) rfl rfl ?_)
         intro wq51 H52
         refine w_k3 ?_
         refine fin_r [.tmp 12] [.bool true] ?_
         exact ⟨rfl,H52.mask [false,false,false,true]⟩
 ·
  iterate 3 refine w_n (nt hb3) ?_
  refine w_v (x_pick_t rfl rfl (nt hb3) rfl) ?_
  refine w_m ?_
  iterate 2 refine w_n rfl ?_
  refine w_v (x_pick_t rfl rfl rfl rfl) ?_
  refine w_m ?_
  iterate 2 refine w_n rfl ?_
  refine w_v (x_pick_t rfl rfl rfl rfl) ?_
  refine w_m ?_
  iterate 2 refine w_n rfl ?_
  refine w_v (x_pick_t rfl rfl rfl rfl) ?_
  refine w_e ?_
  refine g_wk [(0,_),(1,_),(2,_),(3,_),(4,_),(5,_),(46,_)] ?_
  refine g_cond_t rfl rfl ?_
  refine w_s ?_
  refine l_of (s_call0 H2 (wt0 rfl) (x_call' rfl rfl cl6) (awake_s _) rfl rfl ?_)
  intro wq53 H54
  refine w_k4 ?_
  refine fin_r [.tmp 12] [.bool true] ?_
  exact ⟨rfl,H54.mask [true]⟩
end Go.Proofs.YtpbjekdjebjbkaaGreatDoor
