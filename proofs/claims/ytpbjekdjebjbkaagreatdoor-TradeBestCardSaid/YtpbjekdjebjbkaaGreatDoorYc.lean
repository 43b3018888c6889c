import Derived.Test.YtpbjekdjebjbkaaGreatDoorFm
import Derived.Test.YtpbjekdjebjbkaaGreatDoorTy
set_option maxRecDepth 20000
set_option maxHeartbeats 4000000
set_option linter.unusedSimpArgs false
set_option linter.unusedVariables false
namespace Go.Proofs.YtpbjekdjebjbkaaGreatDoor
open Go.RowKit
theorem kr_of {X:GM} (hA:GOK X.A):∀ s∈X.ss,1≤s.k∧s.k≤7:=fun s hs=>by
 have h1:s.k∈X.A.ss.map Sp.k:=List.mem_map.2 ⟨s.sp,List.mem_map.2 ⟨s,hs,rfl⟩,rfl⟩
 rw [hA.sk] at h1
 obtain ⟨p,hp,e⟩:=List.mem_map.1 h1
 rw [← e]
 exact (hA.pv p hp).1
theorem clone_g_s (l:List Rd) (a:Addr) (c:Nat) (hm:l.length≤1099511627776)  (w:World) (hr:Reads w (some a) l.length c 1 (fl rowL l)):Calls Tryz.prog 57 #[.slice (some a) l.length c] w fun e w'=>∃ p' c',e=.returned (.slice p' l.length c')∧S w' ([Rw 39 1 p' l.length c' (fl rowL l)]++[Old w no]):=by
 have H0:=S.old w
 refine enter 8 Tryz.func57 rfl rfl rfl ?_
 refine g_wk [(0,_)] ?_
 refine w_s ?_
 refine w_k5 ?_
 refine w_b (v:=.bool false) (hb:=(b_eqN (r:=false) Tryz.underlying56 rfl)) ?_
 refine w_e ?_
 refine g_cond_f rfl rfl ?_
 refine w_k3 ?_
 refine l_of (s_buildSlice0 H0 (wt0 rfl) rfl rfl rfl Tryz.underlying56 sz39 ?_)
 intro g1 wq2 H3
 replace H3:S wq2 [Rw 39 1 (some ⟨g1,0,none⟩) 0 0 (fl rowL ([]:List Rd)),Old w no]:=S.obFl rowE H3 (k:=0) rfl rfl (by decide) rfl
 refine w_m ?_
 have hln8a:=(H3.rr 0).lenL rowE
 have hln8b:=(H3.exReads (k:=1) rfl hr (fun _ _ _ h=>h)).lenL rowE
 have hln8:l.length=0+l.length:=by omega
 refine l_of (s_appLn (l:=[]) (l2:=l) rowE H3 0 (wt0 rfl) rfl rfl rfl rfl rfl rfl Tryz.underlying56 inf39 rfl (by decide) (H3.exReads (k:=1) rfl hr (fun _ _ _ h=>h)) (by omega) ?_)
 intro p4 c5 wq6 H7
 rw [List.nil_append] at H7 ⊢
 replace H7:S wq6 [Rw 39 1 p4 l.length c5 (fl rowL l),Old w no]:=H7
 refine w_k3 ?_
 refine fin_r [.tmp 2] [.slice p4 l.length c5] ?_
 exact ⟨_,_,rfl,H7⟩
theorem clone_g_n (n c:Nat)  (w:World):Calls Tryz.prog 57 #[.slice none n c] w fun e w'=>∃ p' c',e=.returned (.slice p' 0 c')∧S w' ([Rw 39 1 p' 0 c' (fl rowL ([]:List Rd))]++[Old w no]):=by
 have H0:=S.old w
 refine enter 8 Tryz.func57 rfl rfl rfl ?_
 refine g_wk [(0,_)] ?_
 refine w_s ?_
 refine w_k5 ?_
 refine w_b (v:=.bool true) (hb:=(b_eqN (r:=true) Tryz.underlying56 rfl)) ?_
 refine w_e ?_
 refine g_cond_t rfl rfl ?_
 refine w_k5 ?_
 refine fin_r [.tmp 2] [.slice none 0 0] ?_
 exact ⟨none,0,rfl,H0.nilFl 39 1 rowL⟩
theorem clone_g (l:List Rd) (p:Option Addr) (n c:Nat) (hm:l.length≤1099511627776) (w:World) (hr:Reads w p n c 1 (fl rowL l)):Calls Tryz.prog 57 #[.slice p n c] w fun e w'=>∃ p' c',e=.returned (.slice p' l.length c')∧S w' ([Rw 39 1 p' l.length c' (fl rowL l)]++[Old w no]):=by
 have hn:=hr.lenL rowE
 subst hn
 cases p with
 | some a=>exact clone_g_s l a c hm w hr
 | none =>
   have h0:l.length=0:=by
     refine Decidable.byContradiction fun hn=>?_
     obtain ⟨a,ha,_⟩:=hr.2.2 (by omega)
     cases ha
   obtain rfl:l=[]:=List.length_eq_zero_iff.1 h0
   exact clone_g_n 0 c w
theorem copy_x (pl:List Rd) (X:GM) (hX:MOK pl X) (hgl:X.gs.length≤1000)  (w:World) (HS:S w [X.I,Pool pl]):Calls Tryz.prog 47 #[.pointer (some ⟨X.g,0,none⟩)] w fun e w'=>∃ Y:GM,e=.returned (.pointer (some ⟨Y.g,0,none⟩))∧Y.A=X.A∧Y.gs=X.gs∧S w' ([Y.I,X.I,Pool pl]++[Old w (fps [X.I,Pool pl])]):=by
 have H0:=HS.beginI
 replace H0:S _ [_,_,_,_,_,_,_,_,_,_,_]:=S.unbig (L:=[_,_,_,_,_,_,_,_,_]) H0
 have hL:=hX.ok.lens
 have hn9:X.ps.length≤9:=hX.ok.n9
 have hkr:=kr_of hX.ok
 have hL1:=hL.1
 have hL2:=hL.2.1
 have hL3:=hL.2.2.1
 have hL4:=hL.2.2.2.1
 refine enter 63 Tryz.func47 rfl rfl rfl ?_
 refine g_wk [(0,_)] ?_
 refine w_s ?_
 refine w_k5 ?_
 refine w_b (v:=.bool false) (hb:=(b_eqN (r:=false) Tryz.underlying29 rfl)) ?_
 refine w_e ?_
 refine g_cond_f rfl rfl ?_
 refine w_k2 ?_
 refine g_seq ?_
 refine g_cut (ι:=Nat × Option Addr × Nat × Option Addr × Nat × Option Addr × Nat × Option Addr × Nat × Option Addr × Nat × List (Ro Int)) (fun (y,a1,c1,a2,c2,a3,c3,a4,c4,a5,c5,zz)=>[(0,.pointer (some ⟨X.g,0,none⟩)),(3,.pointer (some ⟨y,0,none⟩))]) (fun (y,a1,c1,a2,c2,a3,c3,a4,c4,a5,c5,zz) wx=>(zz.map Ro.l=X.bs.map Ro.l)∧S wx [Ob y (.cells #[.slice a1 X.gs.length c1,.string (X.sd),.slice a2 X.ps.length c2,.slice none 0 0,.slice a3 X.got.length c3,.slice a4 X.gave.length c4,.slice a5 zz.length c5] 61 (0,0)),Rw 39 1 a1 X.gs.length c1 (fl rowL X.gs),Rw 27 2 a2 X.ps.length c2 (fl plL X.ps),Rw 3 1 a3 X.got.length c3 (fl intL X.got),Rw 3 1 a4 X.gave.length c4 (fl intL X.gave),Rw 43 1 a5 zz.length c5 (fl rowL zz),(Lst BwI zz),Ob X.g (.cells #[.slice X.gp X.gs.length X.gc,.string (X.sd),.slice X.pp X.ps.length X.pc,.slice X.sp X.ss.length X.sc,.slice X.tp X.got.length X.tc,.slice X.vp X.gave.length X.vc,.slice X.bp X.bs.length X.bc] 61 (0,0)),Rw 39 1 X.gp X.gs.length X.gc (fl rowL X.gs),Rw 27 2 X.pp X.ps.length X.pc (fl plL X.ps),Rw 63 1 X.sp X.ss.length X.sc (fl sgL X.ss),Rw 3 1 X.tp X.got.length X.tc (fl intL X.got),Rw 3 1 X.vp X.gave.length X.vc (fl intL X.gave),Rw 43 1 X.bp X.bs.length X.bc (fl rowL X.bs),(Lst BwI X.bs),(Lst SgI X.ss),(Pool pl),Old w (fps [X.I,Pool pl])]) ?_ ?_
 ·
  refine g_anyY [] (fun wx=>S wx [Ob X.g (.cells #[.slice X.gp X.gs.length X.gc,.string (X.sd),.slice X.pp X.ps.length X.pc,.slice X.sp X.ss.length X.sc,.slice X.tp X.got.length X.tc,.slice X.vp X.gave.length X.vc,.slice X.bp X.bs.length X.bc] 61 (0,0))]) (fun wx=>S wx [Ob X.g (.cells #[.slice X.gp X.gs.length X.gc,.string (X.sd),.slice X.pp X.ps.length X.pc,.slice X.sp X.ss.length X.sc,.slice X.tp X.got.length X.tc,.slice X.vp X.gave.length X.vc,.slice X.bp X.bs.length X.bc] 61 (0,0))]) [] (by kernel_rfl) H0 (fun wq1 H2=>?_)
  refine y_p 0 rfl (fun _=>xm) ?_
  refine y_p 1 rfl (fun _=>xn) ?_
  refine y_p 2 rfl (fun _=>xf 0) ?_
  refine y_p 3 rfl (fun _=>xf 0) ?_
  have cm1:=H2.mask [true,false,false,false,false,false,false,false,false,false,false]
  refine y_t 4 rfl cm1 (fun _ H=>xl H 0) ?_
  refine y_p 7 rfl (fun _=>xm) ?_
  refine y_p 8 rfl (fun _=>xn) ?_
  refine y_p 9 rfl (fun _=>xf 1) ?_
  refine y_t 10 rfl cm1 (fun _ H=>xl H 0) ?_
  refine y_p 11 rfl (fun _=>xm) ?_
  refine y_p 12 rfl (fun _=>xn) ?_
  refine y_p 13 rfl (fun _=>xf 2) ?_
  refine y_t 14 rfl cm1 (fun _ H=>xl H 0) ?_
  refine y_p 16 rfl (fun _=>xm) ?_
  refine y_p 17 rfl (fun _=>xn) ?_
  refine y_p 18 rfl (fun _=>xf 4) ?_
  refine y_t 19 rfl cm1 (fun _ H=>xl H 0) ?_
  refine y_p 21 rfl (fun _=>xm) ?_
  refine y_p 22 rfl (fun _=>xn) ?_
  refine y_p 23 rfl (fun _=>xf 5) ?_
  refine y_t 24 rfl cm1 (fun _ H=>xl H 0) ?_
  refine y_p 26 rfl (fun _=>xm) ?_
  refine y_p 27 rfl (fun _=>xn) ?_
  refine y_p 28 rfl (fun _=>xf 6) ?_
  refine y_t 29 rfl cm1 (fun _ H=>xl H 0) ?_
  refine y_one (i:=5) (by kernel_rfl) rfl ?_
  refine s_cl (clone_g X.gs X.gp X.gs.length X.gc (by omega) _ (H2.rr 1)) ?_
  rintro _ wq5 ⟨pz3,cz4,rfl,H6⟩
  replace H6:S _ [_,_,_,_,_,_,_,_,_,_,_,_]:=H2.ab (new:=[_]) H6 rfl
  refine b_ret rfl rfl ?_
  have cm2:=H6.mask [false,true,false,false,false,false,false,false,false,false,false,false]
  refine y_k cm2 cm2 ?_
  refine y_p (v:=.agg #[.slice pz3 X.gs.length cz4]) 6 rfl (fun _=>x_build (vs:=[.slice pz3 X.gs.length cz4]) rfl rfl (cells:=#[.slice pz3 X.gs.length cz4]) (by kernel_rfl)) ?_
  refine y_one (i:=15) (by kernel_rfl) rfl ?_
  refine s_cl (clone_p X.ps X.pp X.ps.length X.pc (by omega) _ (H6.rr 3)) ?_
  rintro _ wq9 ⟨pz7,cz8,rfl,H10⟩
  replace H10:S _ [_,_,_,_,_,_,_,_,_,_,_,_,_]:=H6.ab (new:=[_]) H10 rfl
  refine b_ret rfl rfl ?_
  have cm3:=H10.mask [false,false,true,false,false,false,false,false,false,false,false,false,false]
  refine y_k cm3 cm3 ?_
  refine y_one (i:=20) (by kernel_rfl) rfl ?_
  refine s_cl (clone_i X.got X.tp X.got.length X.tc (by omega) _ (H10.rr 6)) ?_
  rintro _ wq13 ⟨pz11,cz12,rfl,H14⟩
  replace H14:S _ [_,_,_,_,_,_,_,_,_,_,_,_,_,_]:=H10.ab (new:=[_]) H14 rfl
  refine b_ret rfl rfl ?_
  have cm4:=H14.mask [false,false,false,true,false,false,false,false,false,false,false,false,false,false]
  refine y_k cm4 cm4 ?_
  refine y_one (i:=25) (by kernel_rfl) rfl ?_
  refine s_cl (clone_i X.gave X.vp X.gave.length X.vc (by omega) _ (H14.rr 8)) ?_
  rintro _ wq17 ⟨pz15,cz16,rfl,H18⟩
  replace H18:S _ [_,_,_,_,_,_,_,_,_,_,_,_,_,_,_]:=H14.ab (new:=[_]) H18 rfl
  refine b_ret rfl rfl ?_
  have cm5:=H18.mask [false,false,false,false,true,false,false,false,false,false,false,false,false,false,false]
  refine y_k cm5 cm5 ?_
  refine y_one (i:=30) (by kernel_rfl) rfl ?_
  refine s_cl (cloned_s X.bs X.bp X.bs.length X.bc (by omega) (fun x hx=>by have h9:=hL.2.2.2.2 x hx; omega) _ (H18.rr 10) (fun x hx=>(by obtain ⟨j9,hj9⟩:=List.getElem?_of_mem hx; exact H18.bwRd (k:=11) rfl hj9))) ?_
  rintro _ wq19 ⟨pz,cz,zz,rfl,hzz,H20⟩
  replace H20:S _ [_,_,_,_,_,_,_,_,_,_,_,_,_,_,_,_,_]:=H18.ab (new:=[_,_]) H20 rfl
  refine b_ret rfl rfl ?_
  have cm6:=H20.mask [false,false,false,false,false,false,true,false,false,false,false,false,false,false,false,false,false]
  refine y_k cm6 cm6 ?_
  refine y_p (v:=.agg #[.slice pz3 X.gs.length cz4,.string (X.sd),.slice pz7 X.ps.length cz8,.slice none 0 0,.slice pz11 X.got.length cz12,.slice pz15 X.gave.length cz16,.slice pz zz.length cz]) 31 rfl (fun _=>x_build (vs:=[.agg #[.slice pz3 X.gs.length cz4],.string (X.sd),.slice pz7 X.ps.length cz8,.slice pz11 X.got.length cz12,.slice pz15 X.gave.length cz16,.slice pz zz.length cz]) rfl rfl (cells:=#[.slice pz3 X.gs.length cz4,.string (X.sd),.slice pz7 X.ps.length cz8,.slice none 0 0,.slice pz11 X.got.length cz12,.slice pz15 X.gave.length cz16,.slice pz zz.length cz]) (by kernel_rfl)) ?_
  refine y_one (i:=32) (by kernel_rfl) rfl ?_
  refine s_box H20 (wt0 rfl) rfl rfl rfl rfl ?_
  intro g21 wq22 H23
  have cm7:=H23.mask [false,false,false,false,false,false,false,true,false,false,false,false,false,false,false,false,false,false]
  refine y_k cm7 cm7 ?_
  refine y_p 33 rfl (fun _=>xa) ?_
  refine y_done (by kernel_rfl) ?_
  refine w_0 ?_
  refine g_mid (g21,pz3,cz4,pz7,cz8,pz11,cz12,pz15,cz16,pz,cz,zz) ?_ ?_
  · exact ⟨rfl,rfl,trivial⟩
  · exact ⟨hzz,(H23.tk [0,6,5,4,3,1,2,7,8,9,10,11,12,13,14,15,16,17])⟩
 rintro ⟨y,a1,c1,a2,c2,a3,c3,a4,c4,a5,c5,zz⟩ wq24 ⟨hzz,H25⟩
 refine g_wk [(0,_),(3,_)] ?_
 refine g_seq ?_
 refine w_k9 ?_
 refine g_loop (ι:=Nat × Option Addr × Nat × List Sg) (fun (i,sq,sc,ssl)=>[(3,.pointer (some ⟨y,0,none⟩)),(44,.slice X.sp X.ss.length X.sc),(45,.int .i64 ((X.ss.length:Int))),(46,.int .i64 ((i:Int)))]) (fun (i,sq,sc,ssl) wx=>(i≤X.ss.length)∧(ssl.map Sg.sp=(X.ss.take i).map Sg.sp)∧S wx [Rw 63 1 sq ssl.length sc (fl sgL ssl),(Lst SgI ssl),Ob y (.cells #[.slice a1 X.gs.length c1,.string (X.sd),.slice a2 X.ps.length c2,.slice sq ssl.length sc,.slice a3 X.got.length c3,.slice a4 X.gave.length c4,.slice a5 zz.length c5] 61 (0,0)),Rw 39 1 a1 X.gs.length c1 (fl rowL X.gs),Rw 27 2 a2 X.ps.length c2 (fl plL X.ps),Rw 3 1 a3 X.got.length c3 (fl intL X.got),Rw 3 1 a4 X.gave.length c4 (fl intL X.gave),Rw 43 1 a5 zz.length c5 (fl rowL zz),(Lst BwI zz),Ob X.g (.cells #[.slice X.gp X.gs.length X.gc,.string (X.sd),.slice X.pp X.ps.length X.pc,.slice X.sp X.ss.length X.sc,.slice X.tp X.got.length X.tc,.slice X.vp X.gave.length X.vc,.slice X.bp X.bs.length X.bc] 61 (0,0)),Rw 39 1 X.gp X.gs.length X.gc (fl rowL X.gs),Rw 27 2 X.pp X.ps.length X.pc (fl plL X.ps),Rw 63 1 X.sp X.ss.length X.sc (fl sgL X.ss),Rw 3 1 X.tp X.got.length X.tc (fl intL X.got),Rw 3 1 X.vp X.gave.length X.vc (fl intL X.gave),Rw 43 1 X.bp X.bs.length X.bc (fl rowL X.bs),(Lst BwI X.bs),(Lst SgI X.ss),(Pool pl),Old w (fps [X.I,Pool pl])]) (fun (i,sq,sc,ssl)=>X.ss.length - i) (0,none,0,[]) ⟨rfl,rfl,rfl,rfl,trivial⟩ ⟨Nat.zero_le _,rfl,((S.lstNil (H25.nilFl 63 1 sgL) SgI).tk [1,0,2,3,4,5,6,7,8,9,10,11,12,13,14,15,16,17,18,19])⟩ ?_
 rintro ⟨i,sq,sc,ssl⟩ wq26 ⟨hi,hss,H27⟩
 refine g_wk [(3,_),(44,_),(45,_),(46,_)] ?_
 have hsln:ssl.length=i:=(by have h9:=congrArg List.length hss; rw [List.length_map,List.length_map,List.length_take] at h9; omega)
 refine w_k3 ?_
 refine g_seq ?_
 by_cases hb28:((i:Int):Int)<(X.ss.length:Int)
 ·
  refine g_ct hb28 ?_
  refine w_k5 ?_
  refine w_v (x_i i (H27.rr 12)) ?_
  obtain ⟨x29,hx29⟩:=(H27.rr 12).exL sgE i
  refine w_v (x_r i (H27.rr 12) (sgE.flAt1 hx29 rfl)) ?_
  refine w_k2 ?_
  refine g_anyY [] (fun wx=>S wx [Ob y (.cells #[.slice a1 X.gs.length c1,.string (X.sd),.slice a2 X.ps.length c2,.slice sq ssl.length sc,.slice a3 X.got.length c3,.slice a4 X.gave.length c4,.slice a5 zz.length c5] 61 (0,0))]) (fun wx=>S wx []) [11] (by kernel_rfl) H27 (fun wq30 H31=>?_)
  refine y_p 0 rfl (fun _=>xm) ?_
  refine y_p 1 rfl (fun _=>xm) ?_
  refine y_p 2 rfl (fun _=>xn) ?_
  refine y_p 3 rfl (fun _=>xf 3) ?_
  refine y_t 4 rfl (H31.mask [false,false,true,false,false,false,false,false,false,false,false,false,false,false,false,false,false,false,false,false]) (fun _ H=>xl H 0) ?_
  refine y_p 5 rfl (fun _=>xm) ?_
  refine y_one (i:=6) (by kernel_rfl) rfl ?_
  have H32:S _ [_,_,_,_,_,_,_,_,_,_,_,_,_,_,_,_,_,_,_,_,_]:=S.lstOut (F:=SgI) (H31.tk [17,0,1,2,3,4,5,6,7,8,9,10,11,12,13,14,15,16,18,19]) hx29
  obtain ⟨f9,rv9,hfd9,hcl9,hcp9⟩:=copied_all x29 (hkr x29 (List.mem_of_getElem? hx29))
  refine s_call (wt0 rfl) (x_invoke rfl rfl rfl hfd9 hcl9) (hcp9 _ (H32.tk [0])) ?_
  rintro _ wq33 ⟨s9,rfl,hs9,H34⟩
  replace H34:S _ [_,_,_,_,_,_,_,_,_,_,_,_,_,_,_,_,_,_,_,_,_,_]:=H32.abI (new:=[_,_]) [0] H34 rfl
  have H35:S _ [_,_,_,_,_,_,_,_,_,_,_,_,_,_,_,_,_,_,_,_,_]:=S.lstBack (F:=SgI) (H34.tk [1,2,0,3,4,5,6,7,8,9,10,11,12,13,14,15,16,17,18,19,20,21]) hx29
  refine b_ret rfl rfl ?_
  refine y_k (H35.mask [false,false,false,false,true,false,false,false,false,false,false,false,false,false,false,false,false,false,false,false,false]) (H35.mask [false,false,false,false,false,false,false,false,false,false,false,false,false,false,false,false,false,false,false,false,false]) ?_
  refine y_one (i:=7) (by kernel_rfl) rfl ?_
  refine s_b1 ze63 #[.iface s9.ty (s9.va)] H35 ?_
  intro g36 wq37 H38
  refine y_k (H38.mask [false,false,false,false,false,true,false,false,false,false,false,false,false,false,false,false,false,false,false,false,false,false]) (H38.mask [false,false,false,false,false,false,false,false,false,false,false,false,false,false,false,false,false,false,false,false,false,false]) ?_
  refine y_one (i:=8) (by kernel_rfl) rfl ?_
  have hln43a:=(H38.rr 3).lenL sgE
  have hln43:(ssl++[s9]).length=ssl.length+1:=by simp only [List.length_append,List.length_cons,List.length_nil] <;> omega
  refine s_appBn (m:=1) (l:=ssl) (l2:=[s9]) sgE H38 3 (j0:=0) rfl rfl ⟨rfl,Nat.le_refl _⟩ (wt0 rfl) rfl rfl rfl rfl rfl rfl Tryz.underlying59 inf63 rfl (by decide) (by omega) ?_
  intro p39 c40 wq41 H42
  refine y_k (H42.mask [false,false,false,false,false,true,false,false,false,false,false,false,false,false,false,false,false,false,false,false,false,false]) (H42.mask [false,false,false,false,false,false,false,false,false,false,false,false,false,false,false,false,false,false,false,false,false,false]) ?_
  refine y_p 9 rfl (fun _=>xn) ?_
  refine y_p 10 rfl (fun _=>xf 3) ?_
  refine y_one (i:=11) (by kernel_rfl) rfl ?_
  refine w_st #[.slice a1 X.gs.length c1,.string (X.sd),.slice a2 X.ps.length c2,.slice p39 ((ssl++[s9]).length) c40,.slice a3 X.got.length c3,.slice a4 X.gave.length c4,.slice a5 zz.length c5] H42 5 ?_
  intro wq44 H45
  refine y_kt rfl (H45.mask [false,false,false,false,false,false,false,false,false,false,false,false,false,false,false,false,false,false,false,false,false,false]) ?_
  refine y_done (by kernel_rfl) ?_
  refine w_k3 ?_
  refine w_i i ?_
  refine w_k2 ?_
  have H46:S _ [_,_,_,_,_,_,_,_,_,_,_,_,_,_,_,_,_,_,_,_,_]:=S.lstSnoc (F:=SgI) (x:=s9) (H45.tk [2,4,0,1,3,5,6,7,8,9,10,11,12,13,14,15,16,17,18,19,20,21])
  refine g_rd (i:=(i,sq,sc,ssl)) ((i+1),p39,c40,(ssl++[s9])) ⟨by omega,(by rw [take_snocT hx29,List.map_append,List.map_append,hss]; exact congrArg (_++[·]) hs9),(H46.tk [3,0,4,5,6,7,8,9,10,11,12,13,14,15,16,17,18,2,19,20])⟩
 ·
  refine g_cf hb28 ?_
  refine w_k10 ?_
  refine fin_r [.tmp 2] [.pointer (some ⟨y,0,none⟩)] ?_
  have hie:i=X.ss.length:=by omega
  rw [hie,List.take_length] at hss
  have H47:=S.big (L:=[_,_,_,_,_,_,_,_,_]) (H27.tk [2,3,4,0,5,6,7,8,1,9,10,11,12,13,14,15,16,17,18,19])
  have H48:=S.big (L:=[_,_,_,_,_,_,_,_,_]) (H47.tk [1,2,3,4,5,6,7,8,9,0,10,11])
  exact ⟨(⟨y,a1,c1,X.gs,X.sd,a2,c2,X.ps,sq,sc,ssl,a3,c3,X.got,a4,c4,X.gave,a5,c5,zz⟩:GM),rfl,(by unfold GM.A; dsimp only; rw [hss,hzz]),rfl,H48.tk [1,0,2,3]⟩
end Go.Proofs.YtpbjekdjebjbkaaGreatDoor
