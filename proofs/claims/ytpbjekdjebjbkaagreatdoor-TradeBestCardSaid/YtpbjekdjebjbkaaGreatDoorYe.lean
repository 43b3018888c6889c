import Derived.Test.YtpbjekdjebjbkaaGreatDoorFm
import Derived.Test.YtpbjekdjebjbkaaGreatDoorYd
set_option linter.unusedSimpArgs false
set_option linter.unusedVariables false
namespace Go.Proofs.YtpbjekdjebjbkaaGreatDoor
open Go.RowKit
theorem copy_g {pl:List Rd} {X:GM} {g0:Nat} {w:World} (hX:MOK pl X) (hgl:X.gs.length≤1000) (hg:X.g=g0) (HS:S w [X.I,Pool pl]):Calls Tryz.prog 47 #[.pointer (some ⟨g0,0,none⟩)] w fun e w'=>∃ Y:GM,e=.returned (.pointer (some ⟨Y.g,0,none⟩))∧Y.A=X.A∧Y.gs.length=X.gs.length∧MOK pl Y∧S w' ([Y.I,X.I,Pool pl]++[Old w (fps [X.I,Pool pl])]):=by
 subst hg
 refine (copy_x pl X hX hgl w HS).mono ?_
 rintro e w' ⟨Y,rfl,hA,hs,h⟩
 exact ⟨Y,rfl,hA,by rw [hs],⟨hA ▸ hX.ok,fun r hr=>hX.mem r (hs ▸ hr)⟩,h⟩
theorem change_g {pl:List Rd} {X:GM} {g0:Nat} {w:World} (hX:MOK pl X) (hg:X.g=g0) (n:Int) (hn:0≤n∧n<X.A.ps.length) (st rt:Int) (hp:(1≤st∧st≤7)∧0≤rt∧rt≤1000000) (HS:S w [X.I]):Calls Tryz.prog 11 #[.pointer (some ⟨g0,0,none⟩),.int .i64 n,.agg #[.int .i64 st,.int .i64 rt]] w fun e w'=>∃ Y:GM,e=.returned (.int .i64 0)∧Y.A=chA X.A n.toNat ⟨st,rt⟩∧Y.g=g0∧Y.gs.length=X.gs.length∧MOK pl Y∧S w' ([Y.I]++[Old w (fps [X.I])]):=by
 subst hg
 refine (change_x X hX.ok n hn st rt hp w HS).mono ?_
 rintro e w' ⟨Y,rfl,hA,hg2,hs,h⟩
 exact ⟨Y,rfl,hA,hg2,by rw [hs],⟨hA ▸ chA_ok hX.ok hp,fun r hr=>hX.mem r (hs ▸ hr)⟩,h⟩
noncomputable def gainV (A:GA) (n r:Nat) (rt st:Int) (s:Int):Int:=((stepsA r (if s=st then A else chA A n ⟨s,rt⟩)).got.getD n 0) - A.got.getD n 0
noncomputable def bestF (A:GA) (n r:Nat) (rt st:Int):Nat→Int × Int
 | 0=>(0,-1)
 | k+1=>if (bestF A n r rt st k).2<gainV A n r rt st ((k+1:Nat):Int) then (((k+1:Nat):Int),gainV A n r rt st ((k+1:Nat):Int)) else bestF A n r rt st k
theorem best_t {A:GA} {n r:Nat} {rt st at9 mo:Int} {k:Nat} (h:(at9,mo)=bestF A n r rt st k) (hl:mo<gainV A n r rt st ((k+1:Nat):Int)):(((k+1:Nat):Int),gainV A n r rt st ((k+1:Nat):Int))=bestF A n r rt st (k+1):=(if_pos (show (bestF A n r rt st k).2<_ by rw [← h]; exact hl)).symm
theorem best_f {A:GA} {n r:Nat} {rt st at9 mo:Int} {k:Nat} (h:(at9,mo)=bestF A n r rt st k) (hl:¬ mo<gainV A n r rt st ((k+1:Nat):Int)):(at9,mo)=bestF A n r rt st (k+1):=h.trans (if_neg (show ¬ (bestF A n r rt st k).2<_ by rw [← h]; exact hl)).symm
theorem stepsA_ok {A:GA} (h:GOK A):∀ k,GOK (stepsA k A)
 | 0=>h
 | k+1=>(stepsA_ok h k).step
theorem stepsA_gv (A:GA):∀ k,(stepsA k A).gv.length=A.gv.length+k
 | 0=>rfl
 | k+1=>by
   show ((stepsA k A).gv++[roundR (stepsA k A)]).length=_
   rw [List.length_append,List.length_singleton,stepsA_gv A k]; omega
theorem gotD_bd {A:GA} (h:GOK A) (n:Nat):0≤A.got.getD n 0∧A.got.getD n 0≤10000000 * (A.gv.length:Int):=h.gt.2.getD (by omega) n
set_option maxRecDepth 20000 in
set_option maxHeartbeats 4000000 in
theorem best_x (pl:List Rd) (X:GM) (hX:MOK pl X) (n:Int) (hn:0≤n∧n<X.ps.length) (pm:Pl) (hpm:X.ps[n.toNat]?=some pm) (st rt:Int) (hst:pm.st=st) (hrt:pm.rt=rt) (rn:Int) (hr0:0≤rn∧rn≤200) (hrg:X.gs.length+rn.toNat≤190)  (w:World) (HS:S w [X.I,Pool pl]):Calls Tryz.prog 19 #[.pointer (some ⟨X.g,0,none⟩),.int .i64 n,.int .i64 rn] w fun e w'=>∃ pl',e=.returned (.tuple #[.int .i64 (bestF X.A n.toNat rn.toNat rt st 7).1,.int .i64 (bestF X.A n.toNat rn.toNat rt st 7).2,.int .i64 0])∧(∀ r∈pl,r∈pl')∧S w' ([X.I,Pool pl']++[Old w (fps [X.I,Pool pl])]):=by
 have H0:=HS.beginI
 replace H0:S _ [_,_,_,_,_,_,_,_,_,_,_]:=S.unbig (L:=[_,_,_,_,_,_,_,_,_]) H0
 have hL:=hX.ok.lens
 have hn9:X.ps.length≤9:=hX.ok.n9
 have hL3:=hL.2.2.1
 have hpv9:=hX.ok.pv pm (List.mem_of_getElem? hpm)
 rw [hst,hrt] at hpv9
 have hak:askN X.ps.length [n]=0:=askN_0.2 (fun x hx=>by rw [List.mem_singleton.1 hx]; exact hn)
 refine enter 93 Tryz.func19 rfl rfl rfl ?_
 refine g_wk [(0,_),(1,_),(2,_)] ?_
 refine w_s ?_
 refine w_k8 ?_
 refine l_of (s_b1 ze3 #[.int .i64 n] H0 ?_)
 intro g1 wq2 H3
 have H4:S wq2 [Rw 3 1 (some ⟨g1,0,none⟩) 1 1 (fl intL ([n])),Ob X.g (.cells #[.slice X.gp X.gs.length X.gc,.string (X.sd),.slice X.pp X.ps.length X.pc,.slice X.sp X.ss.length X.sc,.slice X.tp X.got.length X.tc,.slice X.vp X.gave.length X.vc,.slice X.bp X.bs.length X.bc] 61 (0,0)),Rw 39 1 X.gp X.gs.length X.gc (fl rowL X.gs),Rw 27 2 X.pp X.ps.length X.pc (fl plL X.ps),Rw 63 1 X.sp X.ss.length X.sc (fl sgL X.ss),Rw 3 1 X.tp X.got.length X.tc (fl intL X.got),Rw 3 1 X.vp X.gave.length X.vc (fl intL X.gave),Rw 43 1 X.bp X.bs.length X.bc (fl rowL X.bs),(Lst BwI X.bs),(Lst SgI X.ss),(Pool pl),Old w (fps [X.I,Pool pl])]:=S.obFl intE H3 (k:=0) rfl rfl (by decide) rfl
 refine l_of (s_cl (asked_s X.g X.gp X.gc X.gs.length X.sd X.pp X.pc X.ps X.sp X.sc X.ss.length X.tp X.tc X.got.length X.vp X.vc X.gave.length X.bp X.bc X.bs.length [n] (some ⟨g1,0,none⟩) 1 (by simp) (by omega) _ (H4.tk [0,1])) ?_)
 rintro _ wq5 ⟨rfl,H6⟩
 replace H6:S _ [_,_,_,_,_,_,_,_,_,_,_,_]:=H4.abI (new:=[_,_]) [0,1] H6 rfl
 refine b_ret rfl rfl ?_
 refine w_k4 ?_
 refine w_b (v:=.bool (!decide (((askN X.ps.length [n]):Int)=0))) (hb:=b_neq) ?_
 refine w_e ?_
 refine g_nf hak ?_
 refine w_k8 ?_
 refine l_of (s_val (v:=.int .i64 rn) (wt1 rfl rfl rfl rfl (decide_eq_false (by omega))) rfl rfl (x_move rfl rfl) ?_)
 refine l_of (s_val (v:=.bool (decide ((200:Int)<rn))) (wt1 rfl rfl rfl rfl (decide_eq_false (by omega))) rfl rfl (x_bin rfl rfl rfl b_gtr) ?_)
 refine w_v (x_pick_f rfl rfl (decide_eq_false (by omega)) rfl) ?_
 refine w_k2 ?_
 refine g_cond_f rfl (decide_eq_false (by omega)) ?_
 refine w_k8 ?_
 refine w_b (v:=.int .i64 ((X.gs.length:Int)+rn)) (hb:=(b_add (w64 (by omega)))) ?_
 refine w_k3 ?_
 refine g_cond_f rfl (decide_eq_false (by omega)) ?_
 refine w_k12 ?_
 refine g_loop (ι:=Nat × Int × Int × List Rd) (fun (s,at9,mo,pl2)=>[(0,.pointer (some ⟨X.g,0,none⟩)),(1,.int .i64 n),(2,.int .i64 rn),(10,.int .i64 at9),(11,.int .i64 mo),(12,.int .i64 ((s:Int)))]) (fun (s,at9,mo,pl2) wx=>(1≤s∧s≤8)∧((at9,mo)=bestF X.A n.toNat rn.toNat rt st (s - 1))∧(MOK pl2 X)∧(∀ r∈pl,r∈pl2)∧S wx [Ob X.g (.cells #[.slice X.gp X.gs.length X.gc,.string (X.sd),.slice X.pp X.ps.length X.pc,.slice X.sp X.ss.length X.sc,.slice X.tp X.got.length X.tc,.slice X.vp X.gave.length X.vc,.slice X.bp X.bs.length X.bc] 61 (0,0)),Rw 39 1 X.gp X.gs.length X.gc (fl rowL X.gs),Rw 27 2 X.pp X.ps.length X.pc (fl plL X.ps),Rw 63 1 X.sp X.ss.length X.sc (fl sgL X.ss),Rw 3 1 X.tp X.got.length X.tc (fl intL X.got),Rw 3 1 X.vp X.gave.length X.vc (fl intL X.gave),Rw 43 1 X.bp X.bs.length X.bc (fl rowL X.bs),(Lst BwI X.bs),(Lst SgI X.ss),(Pool pl2),Old w (fps [X.I,Pool pl])]) (fun (s,at9,mo,pl2)=>8 - s) (1,0,-1,pl) ⟨rfl,rfl,rfl,rfl,rfl,rfl,trivial⟩ ⟨(by omega),rfl,hX,(fun _ h=>h),(H6.tk [1,2,3,4,5,6,7,8,9,10,11])⟩ ?_
 rintro ⟨s,at9,mo,pl2⟩ wq7 ⟨hs,hbf,hX2,hp2,H8⟩
 refine g_wk [(0,_),(1,_),(2,_),(10,_),(11,_),(12,_)] ?_
 refine g_seq ?_
 refine w_k4 ?_
 by_cases hb9:((s:Int):Int)≤7
 ·
  refine g_ct hb9 ?_
  refine w_k6 ?_
  have H10:S _ [_,_,_]:=S.big (L:=[_,_,_,_,_,_,_,_,_]) (H8.tk [0,1,2,3,4,5,6,7,8,9,10])
  refine l_of (s_cl (copy_g hX2 (by omega) rfl (H10.tk [0,1])) ?_)
  rintro _ wq11 ⟨Y,rfl,hYA,hYl,hYM,H12⟩
  have hnY:0≤n∧n<Y.A.ps.length:=by rw [hYA]; exact hn
  replace H12:S _ [_,_,_,_]:=H10.abI (new:=[_,_,_]) [0,1] H12 rfl
  refine b_ret rfl rfl ?_
  have H13:S _ [_,_,_,_,_,_,_,_,_,_,_,_]:=S.unbig (L:=[_,_,_,_,_,_,_,_,_]) (H12.tk [1,0,2,3])
  refine w_k10 ?_
  refine w_v (x_i ((n).toNat) (H13.rr 2)) ?_
  refine w_v (v:=.pointer ((X.pp).map fun q=>q.add (((n).toNat) * 2+0))) (ex_cast (x_fieldAddrG (m:=((n).toNat) * 2) ((H13.rr 2).some (by omega)) rfl rfl fo27_0) rfl) ?_
  obtain ⟨x14,hx14⟩:=(H13.rr 2).exL plE ((n).toNat)
  have hxqx14:x14=pm:=Option.some.inj (hx14.symm.trans hpm)
  have hxsx14:x14.st=st:=by rw [hxqx14]; exact hst
  have hxrx14:x14.rt=rt:=by rw [hxqx14]; exact hrt
  refine w_v (v:=.int .i64 st) (ex_cast (x_loadF1 (i:=0) (j:=((n).toNat)) plE (H13.rr 2) hx14 rfl rfl Tryz.underlying3 rfl rfl) (by rw [hxsx14])) ?_
  refine w_b (v:=.bool (!decide (((s:Int):Int)=st))) (hb:=b_neq) ?_
  refine w_e ?_
  by_cases hb15:((s:Int):Int)=st
  ·
   have heq9:(s:Int)=st:=hb15
   refine g_nf hb15 ?_
   refine w_k5 ?_
   refine l_of (s_cl (play_g hYM rn hr0 (by rw [hYl]; omega) rfl (H13.tk [9,10])) ?_)
   rintro _ wq16 ⟨Xp,plp,rfl,hAp,hgp,hlp,hMp,hpp,H17⟩
   replace H17:S _ [_,_,_,_,_,_,_,_,_,_,_,_]:=H13.abI (new:=[_,_]) [9,10] H17 rfl
   refine b_ret rfl rfl ?_
   have H18:S _ [_,_,_,_,_,_,_,_,_,_,_,_,_,_,_,_,_,_,_,_]:=S.unbig (L:=[_,_,_,_,_,_,_,_,_]) (H17.tk [0,1,2,3,4,5,6,7,8,9,10,11])
   rw [hgp] at H18
   have hAp2:Xp.A=stepsA rn.toNat (if (s:Int)=st then X.A else chA X.A n.toNat ⟨s,rt⟩):=by rw [hAp,hYA,if_pos heq9]
   have hLp:=hMp.ok.gt.1
   have hps9:Xp.A.ps.length=X.ps.length:=by rw [hAp2,stepsA_ps]; split <;> first | rfl | exact List.length_set ..
   have hgq9:Xp.got.length=X.ps.length:=hLp.trans hps9
   refine w_e ?_
   refine g_seq ?_
   refine g_quiet (by kernel_rfl) (by kernel_rfl) H18 ?_
   refine q_v (fun _ _=>xm) ?_
   refine q_v (fun _ _=>xn) ?_
   refine q_v (fun _ _=>x_f) ?_
   refine q_v (fun _ H=>xl H 0) ?_
   refine q_v (fun _ _=>xm) ?_
   refine q_v (fun _ _=>x_ip ((n).toNat) ((H18.rr 4).some (by omega))) ?_
   obtain ⟨x19,hx19⟩:=(H18.rr 4).exL intE ((n).toNat)
   refine q_v (fun _ H=>x_r ((n).toNat) (H.rr 4) (intE.flAt1 hx19 rfl)) ?_
   refine q_v (fun _ _=>xm) ?_
   refine q_v (fun _ _=>xn) ?_
   refine q_v (fun _ _=>x_f) ?_
   refine q_v (fun _ H=>xl H 10) ?_
   refine q_v (fun _ _=>xm) ?_
   refine q_v (fun _ _=>x_ip ((n).toNat) ((H18.rr 14).some (by omega))) ?_
   obtain ⟨x20,hx20⟩:=(H18.rr 14).exL intE ((n).toNat)
   refine q_v (fun _ H=>x_r ((n).toNat) (H.rr 14) (intE.flAt1 hx20 rfl)) ?_
   have hgn9:x19 - x20=(gainV X.A n.toNat rn.toNat rt st s):=by unfold gainV; rw [← hAp2,getD_atT (show Xp.A.got[n.toNat]?=some x19 from hx19),getD_atT (show X.A.got[n.toNat]?=some x20 from hx20)]
   have hba9:=hMp.ok.gt.2.at (show Xp.A.got[n.toNat]?=some x19 from hx19)
   have hbb9:=hX.ok.gt.2.at (show X.A.got[n.toNat]?=some x20 from hx20)
   have hga9:(Xp.A.gv.length:Int)≤200:=by rw [hMp.gvl]; omega
   have hgb9:(X.A.gv.length:Int)≤200:=by rw [hX.gvl]; omega
   refine q_v (v:=.int .i64 ((gainV X.A n.toNat rn.toNat rt st s))) (fun _ _=>ex_cast (x_bin rfl rfl rfl (b_sub (w64 (by omega)))) (by rw [hgn9])) ?_
   refine q_v (fun _ _=>xa) ?_
   refine q_nil (fun wq21 H22=>?_)
   refine w_k6 ?_
   by_cases hb23:(mo:Int)<(gainV X.A n.toNat rn.toNat rt st s)
   ·
    refine g_ct hb23 ?_
    refine w_k10 ?_
    refine w_i s ?_
    refine w_k2 ?_
    refine g_rd (i:=(s,at9,mo,pl2)) ((s+1),(s:Int),(gainV X.A n.toNat rn.toNat rt st s),plp) ⟨(by omega),(by obtain ⟨k9,rfl⟩:∃ k,s=k+1:=⟨s - 1,by omega⟩; exact best_t (k:=k9) hbf hb23),(hX2.more hpp),(fun r hr=>hpp r (hp2 r hr)),(H22.tk [10,11,12,13,14,15,16,17,18,9,19])⟩
   ·
    refine g_cf hb23 ?_
    refine w_k5 ?_
    refine w_i s ?_
    refine w_k2 ?_
    refine g_rd (i:=(s,at9,mo,pl2)) ((s+1),at9,mo,plp) ⟨(by omega),(by obtain ⟨k9,rfl⟩:∃ k,s=k+1:=⟨s - 1,by omega⟩; exact best_f (k:=k9) hbf hb23),(hX2.more hpp),(fun r hr=>hpp r (hp2 r hr)),(H22.tk [10,11,12,13,14,15,16,17,18,9,19])⟩
  ·
   have hne9:¬ (s:Int)=st:=hb15
   refine g_nt hb15 ?_
   refine w_k9 ?_
   refine w_v (x_i ((n).toNat) (H13.rr 2)) ?_
   refine w_v (v:=.pointer ((X.pp).map fun q=>q.add (((n).toNat) * 2+1))) (ex_cast (x_fieldAddrG (m:=((n).toNat) * 2) ((H13.rr 2).some (by omega)) rfl rfl fo27_1) rfl) ?_
   refine w_v (v:=.int .i64 rt) (ex_cast (x_loadF1 (i:=1) (j:=((n).toNat)) plE (H13.rr 2) hx14 rfl rfl Tryz.underlying3 rfl rfl) (by rw [hxrx14])) ?_
   refine w_v (v:=.agg #[.int .i64 ((s:Int)),.int .i64 rt]) (x_build (vs:=[.int .i64 ((s:Int)),.int .i64 rt]) rfl rfl (cells:=#[.int .i64 ((s:Int)),.int .i64 rt]) (by kernel_rfl)) ?_
   refine l_of (s_cl (change_g hYM rfl n hnY s rt ⟨by omega,by omega⟩ (H13.tk [9])) ?_)
   rintro _ wq24 ⟨Y1,rfl,hYA1,hYg1,hYl1,hYM1,H25⟩
   replace H25:S _ [_,_,_,_,_,_,_,_,_,_,_,_]:=H13.abI (new:=[_]) [9] H25 rfl
   refine b_ret rfl rfl ?_
   refine w_k4 ?_
   refine l_of (s_cl (play_g hYM1 rn hr0 (by rw [hYl1,hYl]; omega) hYg1 (H25.tk [0,10])) ?_)
   rintro _ wq26 ⟨Xp,plp,rfl,hAp,hgp,hlp,hMp,hpp,H27⟩
   replace H27:S _ [_,_,_,_,_,_,_,_,_,_,_,_]:=H25.abI (new:=[_,_]) [0,10] H27 rfl
   refine b_ret rfl rfl ?_
   have H28:S _ [_,_,_,_,_,_,_,_,_,_,_,_,_,_,_,_,_,_,_,_]:=S.unbig (L:=[_,_,_,_,_,_,_,_,_]) (H27.tk [0,1,2,3,4,5,6,7,8,9,10,11])
   rw [hgp] at H28
   have hAp2:Xp.A=stepsA rn.toNat (if (s:Int)=st then X.A else chA X.A n.toNat ⟨s,rt⟩):=by rw [hAp,hYA1,hYA,if_neg hne9]
   have hLp:=hMp.ok.gt.1
   have hps9:Xp.A.ps.length=X.ps.length:=by rw [hAp2,stepsA_ps]; split <;> first | rfl | exact List.length_set ..
   have hgq9:Xp.got.length=X.ps.length:=hLp.trans hps9
   refine w_e ?_
   refine g_seq ?_
   refine g_quiet (by kernel_rfl) (by kernel_rfl) H28 ?_
   refine q_v (fun _ _=>xm) ?_
   refine q_v (fun _ _=>xn) ?_
   refine q_v (fun _ _=>x_f) ?_
   refine q_v (fun _ H=>xl H 0) ?_
   refine q_v (fun _ _=>xm) ?_
   refine q_v (fun _ _=>x_ip ((n).toNat) ((H28.rr 4).some (by omega))) ?_
   obtain ⟨x29,hx29⟩:=(H28.rr 4).exL intE ((n).toNat)
   refine q_v (fun _ H=>x_r ((n).toNat) (H.rr 4) (intE.flAt1 hx29 rfl)) ?_
   refine q_v (fun _ _=>xm) ?_
   refine q_v (fun _ _=>xn) ?_
   refine q_v (fun _ _=>x_f) ?_
   refine q_v (fun _ H=>xl H 10) ?_
   refine q_v (fun _ _=>xm) ?_
   refine q_v (fun _ _=>x_ip ((n).toNat) ((H28.rr 14).some (by omega))) ?_
   obtain ⟨x30,hx30⟩:=(H28.rr 14).exL intE ((n).toNat)
   refine q_v (fun _ H=>x_r ((n).toNat) (H.rr 14) (intE.flAt1 hx30 rfl)) ?_
   have hgn9:x29 - x30=(gainV X.A n.toNat rn.toNat rt st s):=by unfold gainV; rw [← hAp2,getD_atT (show Xp.A.got[n.toNat]?=some x29 from hx29),getD_atT (show X.A.got[n.toNat]?=some x30 from hx30)]
   have hba9:=hMp.ok.gt.2.at (show Xp.A.got[n.toNat]?=some x29 from hx29)
   have hbb9:=hX.ok.gt.2.at (show X.A.got[n.toNat]?=some x30 from hx30)
   have hga9:(Xp.A.gv.length:Int)≤200:=by rw [hMp.gvl]; omega
   have hgb9:(X.A.gv.length:Int)≤200:=by rw [hX.gvl]; omega
   refine q_v (v:=.int .i64 ((gainV X.A n.toNat rn.toNat rt st s))) (fun _ _=>ex_cast (x_bin rfl rfl rfl (b_sub (w64 (by omega)))) (by rw [hgn9])) ?_
   refine q_v (fun _ _=>xa) ?_
   refine q_nil (fun wq31 H32=>?_)
   refine w_0 ?_
   refine g_wk [(0,_),(1,_),(2,_),(10,_),(11,_),(12,_),(14,_)] ?_
   refine w_s ?_
   refine w_k4 ?_
   by_cases hb33:(mo:Int)<(gainV X.A n.toNat rn.toNat rt st s)
   ·
    refine g_ct hb33 ?_
    refine w_k10 ?_
    refine w_i s ?_
    refine w_k2 ?_
    refine g_rd (i:=(s,at9,mo,pl2)) ((s+1),(s:Int),(gainV X.A n.toNat rn.toNat rt st s),plp) ⟨(by omega),(by obtain ⟨k9,rfl⟩:∃ k,s=k+1:=⟨s - 1,by omega⟩; exact best_t (k:=k9) hbf hb33),(hX2.more hpp),(fun r hr=>hpp r (hp2 r hr)),(H32.tk [10,11,12,13,14,15,16,17,18,9,19])⟩
   ·
    refine g_cf hb33 ?_
    refine w_k5 ?_
    refine w_i s ?_
    refine w_k2 ?_
    refine g_rd (i:=(s,at9,mo,pl2)) ((s+1),at9,mo,plp) ⟨(by omega),(by obtain ⟨k9,rfl⟩:∃ k,s=k+1:=⟨s - 1,by omega⟩; exact best_f (k:=k9) hbf hb33),(hX2.more hpp),(fun r hr=>hpp r (hp2 r hr)),(H32.tk [10,11,12,13,14,15,16,17,18,9,19])⟩
 ·
  refine g_cf hb9 ?_
  refine w_k13 ?_
  refine fin_r [.tmp 6,.tmp 7,.tmp 8] [.int .i64 at9,.int .i64 mo,.int .i64 0] ?_
  have hse:s=8:=by omega
  subst hse
  have hb7:(at9,mo)=bestF X.A n.toNat rn.toNat rt st 7:=hbf
  rw [← hb7]
  exact ⟨pl2,rfl,hp2,S.big (L:=[_,_,_,_,_,_,_,_,_]) (H8.tk [0,1,2,3,4,5,6,7,8,9,10])⟩
end Go.Proofs.YtpbjekdjebjbkaaGreatDoor
