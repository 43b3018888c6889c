import Derived.Test.YtpbjekdjebjbkaaGreatDoorFm
import Derived.Test.YtpbjekdjebjbkaaGreatDoorLk
set_option linter.unusedSimpArgs false
set_option linter.unusedVariables false
namespace Go.Proofs.YtpbjekdjebjbkaaGreatDoor
open Go.RowKit
theorem reg_is {l o t:List Rv} {slots:Int} (hs:sorted1 l=o++t) (ho:o.length≤(slots - 1).toNat) (he:o.length=(slots - 1).toNat∨t=[]):reg1 l slots=o:=by
 unfold reg1
 rw [hs]
 rcases he with he | he
 · have e:min (o++t).length (slots - 1).toNat=o.length:=by rw [List.length_append]; omega
   rw [e]; exact List.take_left
 · subst he
   rw [List.append_nil,List.take_of_length_le (by omega)]
theorem filt2 {l:List Rv}:(l.filter qW).filter (fun x=>!x.snb)=l.filter qR:=by
 rw [List.filter_filter]
 refine List.filter_congr fun x _=>?_
 unfold qR qW
 cases x.intr <;> cases x.seed <;> cases x.snb <;> rfl
theorem reg_end {k m:Nat} {B:List Rv} (h:k=m∨B.length=0):k=m∨srt Rv.zero c1 B=[]:=h.imp_right fun h=>List.eq_nil_of_length_eq_zero (by rw [srt_len,h])
set_option maxRecDepth 20000 in
set_option maxHeartbeats 4000000 in
theorem regular_r (slots:Int) (hsl:0≤slots∧slots≤100) (l:List Rv) (p:Option Addr) (n c:Nat) (hn2:n≤19) (hval:∀ x∈l,validR x=true)  (w:World) (hr:Reads w p n c 10 (fl rvL l)):Calls Tryz.prog 63 #[.int .i64 slots,.slice p n c] w fun e w'=>∃ p' c',e=.returned (.slice p' ((reg1 l slots).map Rv.id).length c')∧S w' ([Rw 3 1 p' ((reg1 l slots).map Rv.id).length c' (fl intL ((reg1 l slots).map Rv.id))]++[Old w no]):=by
 have H0:=S.old w
 have hnl:=hr.lenL rvE
 have hfl:(l.filter qR).length≤19:=by have:=List.length_filter_le qR l; omega
 have hfw:=List.length_filter_le qW l
 refine enter 49 Tryz.func63 rfl rfl rfl ?_
 refine g_wk [(0,_),(1,_)] ?_
 refine w_s ?_
 refine w_k8 ?_
 refine l_of (s_cl (inter_r l p n c (by omega) _ (H0.exReads (k:=0) rfl hr (fun _ _ _ h=>h))) ?_)
 rintro _ wq1 ⟨pi,ci,rfl,H2⟩
 replace H2:S _ [_,_]:=H0.ab (new:=[_]) H2 rfl
 refine b_ret rfl rfl ?_
 refine w_k4 ?_
 refine g_loop (ι:=Nat × Option Addr × Nat × List Rv) (fun (i,pa,ca,A)=>[(0,.int .i64 slots),(5,.slice pa A.length ca),(11,.slice pi ((l.filter qW).length) ci),(12,.int .i64 (((l.filter qW).length:Int))),(13,.int .i64 ((i:Int)))]) (fun (i,pa,ca,A) wx=>(i≤(l.filter qW).length)∧(A=((l.filter qW).take i).filter (fun x=>!x.snb))∧(A.length≤i)∧S wx [Rw 111 10 pa A.length ca (fl rvL A),Rw 111 10 pi ((l.filter qW).length) ci (fl rvL (l.filter qW)),Old w no]) (fun (i,pa,ca,A)=>((l.filter qW).length) - i) (0,none,0,[]) ⟨rfl,rfl,rfl,rfl,rfl,trivial⟩ ⟨Nat.zero_le _,(by rw [List.take_zero]; rfl),(Nat.le_refl 0),((H2.tk [0,1]).nilFl 111 10 rvL)⟩ ?_
 rintro ⟨i,pa,ca,A⟩ wq3 ⟨hi,hA,hAl,H4⟩
 refine g_wk [(0,_),(5,_),(11,_),(12,_),(13,_)] ?_
 refine w_s ?_
 refine w_k2 ?_
 refine g_seq ?_
 by_cases hb5:((i:Int):Int)<((l.filter qW).length:Int)
 ·
  refine g_ct hb5 ?_
  refine w_k5 ?_
  refine w_v (x_i i (H4.rr 1)) ?_
  obtain ⟨x6,hx6⟩:=(H4.rr 1).exL rvE i
  refine w_v (x_loadRA (vs:=rvL x6) i (H4.rr 1) (by omega) rfl rfl Tryz.underlying111 rfl sz111 (by rfl) (rvE.flAt hx6)) ?_
  refine l_of (s_alloc H4 (wt0 rfl) rfl rfl rfl ze111 ?_)
  intro g7 wq8 H9
  refine l_of (w_st #[.int .i64 (x6.id),.bool x6.intr,.bool x6.chk,.int .i64 (x6.frm),.int .i64 (x6.to),.int .i64 (x6.lt),.int .i64 (x6.since),.bool x6.snb,.bool x6.now,.bool x6.seed] H9 0 ?_)
  intro wq10 H11
  refine w_k4 ?_
  refine w_v (x_not (b:=x6.snb) rfl rfl) ?_
  refine w_e ?_
  rcases Bool.eq_false_or_eq_true (x6.snb) with hb12 | hb12
  ·
   refine g_cond_f rfl (neg_of hb12) ?_
   refine w_k4 ?_
   refine w_i i ?_
   refine w_k2 ?_
   refine g_rd (i:=(i,pa,ca,A)) ((i+1),pa,ca,A) ⟨by omega,(by rw [take_snocL hx6,List.filter_append,← hA]; simp [hb12]),(by first | omega | (simp only [List.length_append,List.length_cons,List.length_nil]; omega)),(H11.tk [1,2,3])⟩
  ·
   refine g_cond_t rfl (neg_of hb12) ?_
   refine w_k2 ?_
   refine w_v (v:=.agg #[.int .i64 (x6.id),.bool x6.intr,.bool x6.chk,.int .i64 (x6.frm),.int .i64 (x6.to),.int .i64 (x6.lt),.int .i64 (x6.since),.bool x6.snb,.bool x6.now,.bool x6.seed]) (x_loadA H11 0 rfl rfl Tryz.underlying111 rfl sz111 rfl rfl rfl) ?_
   refine l_of (s_b1 ze111 #[.int .i64 (x6.id),.bool x6.intr,.bool x6.chk,.int .i64 (x6.frm),.int .i64 (x6.to),.int .i64 (x6.lt),.int .i64 (x6.since),.bool x6.snb,.bool x6.now,.bool x6.seed] H11 ?_)
   intro g13 wq14 H15
   have hln20a:=(H15.rr 2).lenL rvE
   have hln20:(A++[x6]).length=A.length+1:=by simp only [List.length_append,List.length_cons,List.length_nil] <;> omega
   refine l_of (s_appBn (m:=1) (l:=A) (l2:=[x6]) rvE H15 2 (j0:=0) rfl rfl ⟨rfl,Nat.le_refl _⟩ (wt0 rfl) rfl rfl rfl rfl rfl rfl Tryz.underlying109 inf111 rfl (by decide) (by omega) ?_)
   intro p16 c17 wq18 H19
   refine w_k5 ?_
   refine w_i i ?_
   refine w_k2 ?_
   refine g_rd (i:=(i,pa,ca,A)) ((i+1),p16,c17,(A++[x6])) ⟨by omega,(by rw [take_snocL hx6,List.filter_append,← hA]; simp [hb12]),(by first | omega | (simp only [List.length_append,List.length_cons,List.length_nil]; omega)),(H19.tk [2,3,4])⟩
 ·
  refine g_cf hb5 ?_
  refine w_k10 ?_
  refine g_loop (ι:=Option Addr × Nat × List Rv × Option Addr × Nat × List Int × List Rv) (fun (pb,cb,B9,po,co,O,o9)=>[(0,.int .i64 slots),(5,.slice pb B9.length cb),(8,.slice po O.length co)]) (fun (pb,cb,B9,po,co,O,o9) wx=>(Picks c1 (l.filter qR) o9 B9)∧(O=o9.map Rv.id)∧(o9.length≤(slots - 1).toNat)∧S wx [Rw 111 10 pb B9.length cb (fl rvL B9),Rw 3 1 po O.length co (fl intL O),Old w no]) (fun (pb,cb,B9,po,co,O,o9)=>B9.length) (pa,ca,A,none,0,[],[]) ⟨rfl,rfl,rfl,trivial⟩ ⟨(by rw [hA,List.take_of_length_le (by omega),filt2]; exact Picks.nil),rfl,(Nat.zero_le _),(((H4.tk [0,2]).nilFl 3 1 intL).tk [1,0,2])⟩ ?_
  rintro ⟨pb,cb,B9,po,co,O,o9⟩ wq21 ⟨hP,hO,hOs,H22⟩
  refine g_wk [(0,_),(5,_),(8,_)] ?_
  refine g_seq ?_
  refine w_k4 ?_
  refine w_b (v:=.int .i64 (slots - 1)) (hb:=(b_sub (w64 (by omega)))) ?_
  refine w_k2 ?_
  by_cases hb23:((O.length:Int):Int)<slots - 1
  ·
   refine w_g (decide_eq_true hb23) xm ?_
   refine w_g (decide_eq_true hb23) x_q ?_
   refine w_g (decide_eq_true hb23) (x_bin rfl rfl rfl b_gtr) ?_
   refine w_v (x_pick_t rfl rfl (decide_eq_true hb23) rfl) ?_
   refine w_e ?_
   by_cases hb24:(0:Int)<(B9.length:Int)
   ·
    refine g_ct hb24 ?_
    refine w_k5 ?_
    have hDB:∀ x∈B9,DV x:=fun x hx=>validR_D (hval x (List.mem_filter.1 (hP.sub.subset hx)).1)
    have hBl:B9.length≤19:=Nat.le_trans hP.sub.length_le hfl
    refine l_of (s_cl (best1_r B9 pb B9.length cb (by omega) (by omega) hDB _ (H22.rr 0)) ?_)
    rintro _ wq25 ⟨j9,x9,rfl,hB9,H26⟩
    replace H26:=H22.ab0 H26
    have hjl9:=hB9.1
    refine b_ret rfl rfl ?_
    refine w_k6 ?_
    refine w_v (x_i j9 (H26.rr 0)) ?_
    refine w_v (v:=.pointer ((pb).map fun q=>q.add (j9 * 10+0))) (ex_cast (x_fieldAddrG (m:=j9 * 10) ((H26.rr 0).some (by omega)) rfl rfl fo111_0) rfl) ?_
    refine w_v (x_loadF1 (i:=0) (j:=j9) rvE (H26.rr 0) hB9.2.1 rfl rfl Tryz.underlying3 rfl rfl) ?_
    refine l_of (s_b1 ze3 #[.int .i64 (x9.id)] H26 ?_)
    intro g27 wq28 H29
    have hln34a:=(H29.rr 2).lenL intE
    have hln34:(O++[x9.id]).length=O.length+1:=by simp only [List.length_append,List.length_cons,List.length_nil] <;> omega
    refine l_of (s_appBn (m:=1) (l:=O) (l2:=[x9.id]) intE H29 2 (j0:=0) rfl rfl ⟨rfl,Nat.le_refl _⟩ (wt0 rfl) rfl rfl rfl rfl rfl rfl Tryz.underlying43 inf3 rfl (by decide) (by omega) ?_)
    intro p30 c31 wq32 H33
    refine w_k5 ?_
    refine l_of (s_cl (without_r B9 pb B9.length cb (by omega) j9 (by omega) _ (H33.rr 1)) ?_)
    rintro _ wq37 ⟨pw35,cw36,rfl,H38⟩
    replace H38:S _ [_,_,_,_,_]:=H33.ab (new:=[_]) H38 rfl
    refine b_ret rfl rfl ?_
    refine w_k4 ?_
    refine g_round (i:=(pb,cb,B9,po,co,O,o9)) (pw35,cw36,(B9.eraseIdx j9),p30,c31,(O++[x9.id]),(o9++[x9])) ?_ ?_ ?_
    · exact ⟨rfl,rfl,rfl,trivial⟩
    · exact ⟨(Picks.step hP hB9),(by rw [hO,List.map_append]; rfl),(by have hol:O.length=o9.length:=(by rw [hO,List.length_map]); rw [List.length_append,List.length_singleton]; omega),(H38.tk [0,3,4])⟩
    · (try dsimp only); rw [List.length_eraseIdx_of_lt hB9.1]; have:=hB9.1; omega
   ·
    refine g_cf hb24 ?_
    refine w_k10 ?_
    refine fin_r [.tmp 4] [.slice po O.length co] ?_
    have hol:O.length=o9.length:=by rw [hO,List.length_map]
    have hsr:=(hP.srt (d:=Rv.zero) c1_wk (by omega)).2
    have hrg:reg1 l slots=o9:=reg_is hsr hOs (reg_end (by omega))
    rw [hrg,← hO]
    exact ⟨_,_,rfl,H22.tk [1,2]⟩
  ·
   iterate 3 refine w_n (decide_eq_false hb23) ?_
   refine w_v (x_pick_f rfl rfl (decide_eq_false hb23) rfl) ?_
   refine w_e ?_
   refine g_cond_f rfl rfl ?_
   refine w_k10 ?_
   refine fin_r [.tmp 4] [.slice po O.length co] ?_
   have hol:O.length=o9.length:=by rw [hO,List.length_map]
   have hsr:=(hP.srt (d:=Rv.zero) c1_wk (by omega)).2
   have hrg:reg1 l slots=o9:=reg_is hsr hOs (reg_end (by omega))
   rw [hrg,← hO]
   exact ⟨_,_,rfl,H22.tk [1,2]⟩
end Go.Proofs.YtpbjekdjebjbkaaGreatDoor
