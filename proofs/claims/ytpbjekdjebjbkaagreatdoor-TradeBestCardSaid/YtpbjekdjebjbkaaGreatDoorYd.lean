import Derived.Test.YtpbjekdjebjbkaaGreatDoorFm
import Derived.Test.YtpbjekdjebjbkaaGreatDoorYc
set_option linter.unusedSimpArgs false
set_option linter.unusedVariables false
namespace Go.Proofs.YtpbjekdjebjbkaaGreatDoor
open Go.RowKit
def chA (A:GA) (n:Nat) (p:Pl):GA:={ A with ps:=A.ps.set n p,ss:=A.ss.set n (spN p.st) }
theorem chA_ok {A:GA} (h:GOK A) {n:Nat} {p:Pl} (hp:(1≤p.st∧p.st≤7)∧0≤p.rt∧p.rt≤1000000):GOK (chA A n p) where
 n2:=by show 2≤(A.ps.set n p).length; rw [List.length_set]; exact h.n2
 n9:=by show (A.ps.set n p).length≤9; rw [List.length_set]; exact h.n9
 sd:=h.sd
 pv q hq:=by
   rcases List.mem_or_eq_of_mem_set hq with hq | rfl
   · exact h.pv q hq
   · exact hp
 sk:=by
   show (A.ss.set n (spN p.st)).map Sp.k=(A.ps.set n p).map Pl.st
   rw [List.map_set,List.map_set,h.sk]; rfl
 sP s hs j v hv:=by
   rcases List.mem_or_eq_of_mem_set hs with hs | rfl
   · exact h.sP s hs j v hv
   · cases hv
 sB s hs j v hv:=by
   rcases List.mem_or_eq_of_mem_set hs with hs | rfl
   · exact h.sB s hs j v hv
   · cases hv
 gr r hr:=by
   show RdOK (A.ps.set n p).length r
   rw [List.length_set]; exact h.gr r hr
 gt:=by
   show A.got.length=(A.ps.set n p).length∧_
   rw [List.length_set]; exact h.gt
 gg:=by
   show A.gave.length=(A.ps.set n p).length∧_
   rw [List.length_set]; exact h.gg
 bw:=by
   show A.bw.length=(A.ps.set n p).length∧∀ l∈A.bw,l.length=(A.ps.set n p).length∧_
   rw [List.length_set]; exact h.bw
theorem valP_of {p:Pl} (hp:(1≤p.st∧p.st≤7)∧0≤p.rt∧p.rt≤1000000):valP p=true:=by
 unfold valP
 rw [decide_eq_true hp.1.1,decide_eq_true hp.1.2,decide_eq_true hp.2.1,decide_eq_true hp.2.2]; rfl
set_option maxRecDepth 20000 in
set_option maxHeartbeats 4000000 in
theorem change_x (X:GM) (hX:GOK X.A) (n:Int) (hn:0≤n∧n<X.ps.length) (st rt:Int) (hp:(1≤st∧st≤7)∧0≤rt∧rt≤1000000)  (w:World) (HS:S w [X.I]):Calls Tryz.prog 11 #[.pointer (some ⟨X.g,0,none⟩),.int .i64 n,.agg #[.int .i64 st,.int .i64 rt]] w fun e w'=>∃ Y:GM,e=.returned (.int .i64 0)∧Y.A=chA X.A n.toNat (⟨st,rt⟩:Pl)∧Y.g=X.g∧Y.gs=X.gs∧S w' ([Y.I]++[Old w (fps [X.I])]):=by
 have H0:=HS.beginI
 replace H0:S w [Ob X.g (.cells #[.slice X.gp X.gs.length X.gc,.string (X.sd),.slice X.pp X.ps.length X.pc,.slice X.sp X.ss.length X.sc,.slice X.tp X.got.length X.tc,.slice X.vp X.gave.length X.vc,.slice X.bp X.bs.length X.bc] 61 (0,0)),Rw 39 1 X.gp X.gs.length X.gc (fl rowL X.gs),Rw 27 2 X.pp X.ps.length X.pc (fl plL X.ps),Rw 63 1 X.sp X.ss.length X.sc (fl sgL X.ss),Rw 3 1 X.tp X.got.length X.tc (fl intL X.got),Rw 3 1 X.vp X.gave.length X.vc (fl intL X.gave),Rw 43 1 X.bp X.bs.length X.bc (fl rowL X.bs),(Lst BwI X.bs),(Lst SgI X.ss),Old w (fps [X.I])]:=S.unbig (L:=[_,_,_,_,_,_,_,_,_]) H0
 have hL:=hX.lens
 have hn9:X.ps.length≤9:=hX.n9
 have hL1:=hL.1
 have hvp:valP (⟨st,rt⟩:Pl)=true:=valP_of hp
 have hak:askN X.ps.length [n]=0:=askN_0.2 (fun x hx=>by rw [List.mem_singleton.1 hx]; exact hn)
 refine enter 38 Tryz.func11 rfl rfl rfl ?_
 refine g_weak [(0,.pointer (some ⟨X.g,0,none⟩)),(1,.int .i64 n),(2,.agg #[.int .i64 st,.int .i64 rt])] ⟨rfl,rfl,rfl,trivial⟩ ?_
 refine w_s ?_
 refine l_of (s_box H0 (wt0 rfl) rfl rfl rfl rfl ?_)
 intro g1 wq2 H3
 refine w_a ?_
 refine w_e ?_
 refine g_seq ?_
 refine w_s ?_
 refine w_m ?_
 refine w_b (v:=.bool false) (hb:=(b_eqN (r:=false) Tryz.underlying29 rfl)) ?_
 refine w_m ?_
 refine w_g (v:=.agg #[.int .i64 st,.int .i64 rt]) rfl (x_loadA H3 0 rfl rfl Tryz.underlying27 rfl sz27 rfl rfl rfl) ?_
 refine l_of (s_call0 H3 (wt1 rfl rfl rfl rfl rfl) (x_call' rfl rfl cl7) (valid_p (⟨st,rt⟩:Pl) _) rfl rfl ?_)
 intro wq4 H5
 refine w_g (v:=.bool (!((valP (⟨st,rt⟩:Pl))))) rfl (x_not (b:=(valP (⟨st,rt⟩:Pl))) rfl rfl) ?_
 refine w_v (v:=.bool (!((valP (⟨st,rt⟩:Pl))))) (x_pick_f rfl rfl rfl rfl) ?_
 refine w_e ?_
 refine g_cond_f rfl (neg_of hvp) ?_
 refine g_skip ?_
 refine g_then ?_
 refine g_seq ?_
 refine w_s ?_
 refine w_r2 ?_
 refine l_of (s_buildSlice H5 (wt0 rfl) rfl rfl rfl (vs:=[.int .i64 n]) rfl Tryz.underlying43 sz3 ze3 rfl rfl (cells:=#[.int .i64 n]) (by kernel_rfl) ?_)
 intro g6 wq7 H8
 have H9:S wq7 [Rw 3 1 (some ⟨g6,0,none⟩) 1 1 (fl intL ([n])),Ob g1 (.cells #[.int .i64 st,.int .i64 rt] 27 (0,0)),Ob X.g (.cells #[.slice X.gp X.gs.length X.gc,.string (X.sd),.slice X.pp X.ps.length X.pc,.slice X.sp X.ss.length X.sc,.slice X.tp X.got.length X.tc,.slice X.vp X.gave.length X.vc,.slice X.bp X.bs.length X.bc] 61 (0,0)),Rw 39 1 X.gp X.gs.length X.gc (fl rowL X.gs),Rw 27 2 X.pp X.ps.length X.pc (fl plL X.ps),Rw 63 1 X.sp X.ss.length X.sc (fl sgL X.ss),Rw 3 1 X.tp X.got.length X.tc (fl intL X.got),Rw 3 1 X.vp X.gave.length X.vc (fl intL X.gave),Rw 43 1 X.bp X.bs.length X.bc (fl rowL X.bs),(Lst BwI X.bs),(Lst SgI X.ss),Old w (fps [X.I])]:=S.obFl intE H8 (k:=0) rfl rfl (by decide) rfl
 refine l_of (s_call (wt0 rfl) (x_call' rfl rfl cl29) (asked_s X.g X.gp X.gc X.gs.length X.sd X.pp X.pc X.ps X.sp X.sc X.ss.length X.tp X.tc X.got.length X.vp X.vc X.gave.length X.bp X.bc X.bs.length [n] (some ⟨g6,0,none⟩) 1 (by simp) (by omega) _ (H9.takes [0,2] (by decide))) ?_)
 rintro _ wq10 ⟨rfl,H11⟩
 replace H11:S wq10 [Rw 3 1 (some ⟨g6,0,none⟩) 1 1 (fl intL ([n])),Ob X.g (.cells #[.slice X.gp X.gs.length X.gc,.string (X.sd),.slice X.pp X.ps.length X.pc,.slice X.sp X.ss.length X.sc,.slice X.tp X.got.length X.tc,.slice X.vp X.gave.length X.vc,.slice X.bp X.bs.length X.bc] 61 (0,0)),Ob g1 (.cells #[.int .i64 st,.int .i64 rt] 27 (0,0)),Rw 39 1 X.gp X.gs.length X.gc (fl rowL X.gs),Rw 27 2 X.pp X.ps.length X.pc (fl plL X.ps),Rw 63 1 X.sp X.ss.length X.sc (fl sgL X.ss),Rw 3 1 X.tp X.got.length X.tc (fl intL X.got),Rw 3 1 X.vp X.gave.length X.vc (fl intL X.gave),Rw 43 1 X.bp X.bs.length X.bc (fl rowL X.bs),(Lst BwI X.bs),(Lst SgI X.ss),Old w (fps [X.I])]:=H9.absorbI (new:=[Rw 3 1 (some ⟨g6,0,none⟩) 1 1 (fl intL ([n])),Ob X.g (.cells #[.slice X.gp X.gs.length X.gc,.string (X.sd),.slice X.pp X.ps.length X.pc,.slice X.sp X.ss.length X.sc,.slice X.tp X.got.length X.tc,.slice X.vp X.gave.length X.vc,.slice X.bp X.bs.length X.bc] 61 (0,0))]) [0,2] H11
 refine b_ret rfl rfl ?_
 refine w_a ?_
 refine w_e ?_
 refine w_s ?_
 refine w_m ?_
 refine w_b (v:=.bool (!decide (((askN X.ps.length [n]):Int)=0))) (hb:=b_neq) ?_
 refine w_e ?_
 refine g_cond_f rfl (nf hak) ?_
 refine g_skip ?_
 refine g_then ?_
 refine g_seq ?_
 refine g_anyY [] (fun wx=>S wx [Ob X.g (.cells #[.slice X.gp X.gs.length X.gc,.string (X.sd),.slice X.pp X.ps.length X.pc,.slice X.sp X.ss.length X.sc,.slice X.tp X.got.length X.tc,.slice X.vp X.gave.length X.vc,.slice X.bp X.bs.length X.bc] 61 (0,0)),Ob g1 (.cells #[.int .i64 st,.int .i64 rt] 27 (0,0))]) (fun wx=>S wx []) [15,17] (by kernel_rfl) H11 (fun wq12 H13=>?_)
 refine w_y 0 rfl (wt0 rfl) rfl rfl rfl (by kernel_rfl) (fun _=>x_move rfl rfl) ?_
 refine w_y 1 rfl (wt0 rfl) rfl rfl rfl (by kernel_rfl) (fun _=>x_nilCheck rfl rfl) ?_
 refine w_y 2 rfl (wt0 rfl) rfl rfl rfl (by kernel_rfl) (fun _=>x_fieldAddr (off':=2) rfl rfl fo61_2 rfl) ?_
 have cm1:=H13.mask [false,true,true,false,false,false,false,false,false,false,false,false]
 refine y_take (v:=.slice X.pp X.ps.length X.pc) 3 rfl (wt0 rfl) rfl rfl rfl (by kernel_rfl) (by kernel_rfl) (by kernel_rfl) (by kernel_rfl) (by kernel_rfl) cm1 (fun wx H=>x_load1 H 0 rfl rfl Tryz.underlying22 rfl rfl rfl) ?_
 refine w_y 4 rfl (wt0 rfl) rfl rfl rfl (by kernel_rfl) (fun _=>x_move rfl rfl) ?_
 refine w_y 5 rfl (wt0 rfl) rfl rfl rfl (by kernel_rfl) (fun _=>x_move rfl rfl) ?_
 refine w_y 6 rfl (wt0 rfl) rfl rfl rfl (by kernel_rfl) (fun _=>x_nilCheck rfl rfl) ?_
 refine w_y 7 rfl (wt0 rfl) rfl rfl rfl (by kernel_rfl) (fun _=>x_fieldAddr (off':=3) rfl rfl fo61_3 rfl) ?_
 refine y_take (v:=.slice X.sp X.ss.length X.sc) 8 rfl (wt0 rfl) rfl rfl rfl (by kernel_rfl) (by kernel_rfl) (by kernel_rfl) (by kernel_rfl) (by kernel_rfl) cm1 (fun wx H=>x_load1 H 0 rfl rfl Tryz.underlying59 rfl rfl rfl) ?_
 refine w_y 9 rfl (wt0 rfl) rfl rfl rfl (by kernel_rfl) (fun _=>x_move rfl rfl) ?_
 refine y_take (v:=.agg #[.int .i64 st,.int .i64 rt]) 10 rfl (wt0 rfl) rfl rfl rfl (by kernel_rfl) (by kernel_rfl) (by kernel_rfl) (by kernel_rfl) (by kernel_rfl) cm1 (fun wx H=>x_loadA H 1 rfl rfl Tryz.underlying27 rfl sz27 rfl rfl rfl) ?_
 refine w_y 11 rfl (wt0 rfl) rfl rfl rfl (by kernel_rfl) (fun _=>x_fieldAddr (off':=0) rfl rfl fo27_0 rfl) ?_
 refine y_take (v:=.int .i64 st) 12 rfl (wt0 rfl) rfl rfl rfl (by kernel_rfl) (by kernel_rfl) (by kernel_rfl) (by kernel_rfl) (by kernel_rfl) cm1 (fun wx H=>x_load1 H 1 rfl rfl Tryz.underlying3 rfl rfl rfl) ?_
 refine y_one (i:=13) (by kernel_rfl) rfl ?_
 refine s_call (wt0 rfl) (x_call' rfl rfl cl27) (made_all st hp.1 _) ?_
 rintro _ wq14 ⟨s9,rfl,hs9,H15⟩
 replace H15:S wq14 [(SgI s9),Rw 3 1 (some ⟨g6,0,none⟩) 1 1 (fl intL ([n])),Ob X.g (.cells #[.slice X.gp X.gs.length X.gc,.string (X.sd),.slice X.pp X.ps.length X.pc,.slice X.sp X.ss.length X.sc,.slice X.tp X.got.length X.tc,.slice X.vp X.gave.length X.vc,.slice X.bp X.bs.length X.bc] 61 (0,0)),Ob g1 (.cells #[.int .i64 st,.int .i64 rt] 27 (0,0)),Rw 39 1 X.gp X.gs.length X.gc (fl rowL X.gs),Rw 27 2 X.pp X.ps.length X.pc (fl plL X.ps),Rw 63 1 X.sp X.ss.length X.sc (fl sgL X.ss),Rw 3 1 X.tp X.got.length X.tc (fl intL X.got),Rw 3 1 X.vp X.gave.length X.vc (fl intL X.gave),Rw 43 1 X.bp X.bs.length X.bc (fl rowL X.bs),(Lst BwI X.bs),(Lst SgI X.ss),Old w (fps [X.I])]:=H13.absorb (new:=[(SgI s9)]) H15
 refine b_ret rfl rfl ?_
 refine y_k (H15.mask [false,false,true,true,false,false,false,false,false,false,false,false,false]) (H15.mask [false,false,false,false,false,false,false,false,false,false,false,false,false]) ?_
 refine w_y (v:=.pointer ((X.pp).map fun q=>q.add (((n).toNat) * 2))) 14 rfl (wt0 rfl) rfl rfl rfl (by kernel_rfl) (fun _=>x_idxP ((n).toNat) ((H15.rwReads (k:=5) rfl).some (by omega)) rfl rfl rfl Tryz.underlying22 sz27 (by omega)) ?_
 refine y_one (i:=15) (by kernel_rfl) rfl ?_
 refine s_stoL (j:=((n).toNat)) plE (⟨st,rt⟩:Pl) H15 5 (wt0 rfl) rfl rfl rfl rfl rfl rfl sz27 (by omega) ?_
 intro wq16 H17
 refine y_kt rfl (H17.mask [false,false,false,false,false,false,false,false,false,false,false,false,false]) ?_
 refine w_y (v:=.pointer ((X.sp).map fun q=>q.add (((n).toNat) * 1))) 16 rfl (wt0 rfl) rfl rfl rfl (by kernel_rfl) (fun _=>x_idxP ((n).toNat) ((H17.rwReads (k:=6) rfl).some (by omega)) rfl rfl rfl Tryz.underlying59 sz63 (by omega)) ?_
 refine y_one (i:=17) (by kernel_rfl) rfl ?_
 refine s_stoL (j:=((n).toNat)) sgE s9 H17 6 (wt0 rfl) rfl rfl rfl rfl rfl rfl sz63 (by omega) ?_
 intro wq18 H19
 refine y_kt rfl (H19.mask [false,false,false,false,false,false,false,false,false,false,false,false,false]) ?_
 refine y_done (by kernel_rfl) ?_
 refine g_then ?_
 refine w_s ?_
 refine w_a ?_
 refine w_e ?_
 refine g_ret ?_
 refine fin_ret [.tmp 6] [.int .i64 0] rfl ⟨rfl,trivial⟩ ?_
 obtain ⟨x9,hx9⟩:=ex_at (l:=X.ss) (j:=n.toNat) (by omega)
 have H20:=S.lstOut (F:=SgI) (H19.takes [11,0,2,4,5,6,7,8,9,10,12] (by decide)) hx9
 have H21:=S.lstIn (F:=SgI) (x:=s9) (l:=X.ss) (j:=n.toNat) (H20.takes [2,1,3,4,5,6,7,8,9,10,11] (by decide)) (List.getElem?_eq_some_iff.1 hx9).1
 have e0:Ob X.g (.cells #[.slice X.gp X.gs.length X.gc,.string (X.sd),.slice X.pp X.ps.length X.pc,.slice X.sp X.ss.length X.sc,.slice X.tp X.got.length X.tc,.slice X.vp X.gave.length X.vc,.slice X.bp X.bs.length X.bc] 61 (0,0))=Ob X.g (.cells #[.slice X.gp X.gs.length X.gc,.string (X.sd),.slice X.pp (X.ps.set n.toNat (⟨st,rt⟩:Pl)).length X.pc,.slice X.sp (X.ss.set n.toNat s9).length X.sc,.slice X.tp X.got.length X.tc,.slice X.vp X.gave.length X.vc,.slice X.bp X.bs.length X.bc] 61 (0,0)):=by rw [List.length_set,List.length_set]
 have e1:Rw 27 2 X.pp X.ps.length X.pc (fl plL (X.ps.set ((n).toNat) (⟨st,rt⟩:Pl)))=Rw 27 2 X.pp (X.ps.set n.toNat (⟨st,rt⟩:Pl)).length X.pc (fl plL (X.ps.set ((n).toNat) (⟨st,rt⟩:Pl))):=by rw [List.length_set]
 have e2:Rw 63 1 X.sp X.ss.length X.sc (fl sgL (X.ss.set ((n).toNat) s9))=Rw 63 1 X.sp (X.ss.set n.toNat s9).length X.sc (fl sgL (X.ss.set ((n).toNat) s9)):=by rw [List.length_set]
 rw [e0,e1,e2] at H21
 have H22:=S.big (L:=[_,_,_,_,_,_,_,_,_]) (H21.takes [1,2,3,4,5,6,7,8,0,9] (by decide))
 exact ⟨{ X with ps:=X.ps.set n.toNat (⟨st,rt⟩:Pl),ss:=X.ss.set n.toNat s9 },rfl,(by unfold GM.A chA; dsimp only; rw [List.map_set,hs9]),rfl,rfl,H22⟩
end Go.Proofs.YtpbjekdjebjbkaaGreatDoor
