import Derived.Test.YtpbjekdjebjbkaaGreatDoorFm
import Derived.Test.YtpbjekdjebjbkaaGreatDoorLj
set_option maxRecDepth 20000
set_option maxHeartbeats 4000000
set_option linter.unusedSimpArgs false
set_option linter.unusedVariables false
namespace Go.Proofs.YtpbjekdjebjbkaaGreatDoor
open Go.RowKit
theorem cl73:callable Tryz.prog 73=true:=by kernel_rfl
theorem cl77:callable Tryz.prog 77=true:=by kernel_rfl
def sgN (x y:Bool):Int:=if (x && !y)=true then -1 else if (y && !x)=true then 1 else 0
theorem sgN_nc (x y:Rv):sgN (!x.chk) (!y.chk)=ncN x - ncN y:=by
 unfold sgN ncN ncB
 cases x.chk <;> cases y.chk <;> rfl
theorem c1_lex:c1=lexC [fun x=>-x.frm,ncN,Rv.since,Rv.id]:=by
 funext x y
 unfold c1
 simp only [lexC]
 have e:-x.frm - -y.frm=y.frm - x.frm:=by omega
 rw [e]
 repeat' split
 all_goals omega
theorem c1_wk:Wk c1:=by rw [c1_lex]; exact lexC_wk _
def BestTo (c:Rv→Rv→Int) (l:List Rv) (i:Nat) (a:Int):Prop:=(i=0∧a=-1)∨∃ (j:Nat) (x:Rv),a=(j:Int)∧IsBest c l i j x
theorem BestTo.of {c:Rv→Rv→Int} {l:List Rv} {i j:Nat} {x:Rv} (h:IsBest c l i j x):BestTo c l i (j:Int):=.inr ⟨j,x,rfl,h⟩
theorem BestTo.at {c:Rv→Rv→Int} {l:List Rv} {i:Nat} {a:Int} (h:BestTo c l i a) (ha:¬ a<0):∃ (j:Nat) (x:Rv),a=(j:Int)∧IsBest c l i j x:=h.resolve_left fun h=>by omega
theorem BestTo.fin {c:Rv→Rv→Int} {l:List Rv} {i:Nat} {a:Int} (h:BestTo c l i a) (hi:¬ i=0):∃ (j:Nat) (x:Rv),a=(j:Int)∧IsBest c l i j x:=h.resolve_left fun h=>hi h.1
theorem BestTo.first {c:Rv→Rv→Int} {l:List Rv} {i:Nat} {a:Int} {x:Rv} (h:BestTo c l i a) (W:Wk c) (ha:a<0) (hx:l[i]?=some x):IsBest c l (i+1) i x:=by
 rcases h with ⟨h1,h2⟩ | ⟨j,z,h1,_⟩
 · subst h1; exact IsBest.first W hx
 · omega
theorem erase_td {α:Type} (l:List α) (i:Nat):l.take i++l.drop (i+1)=l.eraseIdx i:=(List.eraseIdx_eq_take_drop_succ l i).symm
theorem signed_r (x y:Bool)  (w:World):Calls Tryz.prog 77 #[.bool x,.bool y] w fun e w'=>e=.returned (.int .i64 (sgN x y))∧S w' [Old w no]:=by
 have H0:=S.old w
 refine enter 17 Tryz.func77 rfl rfl rfl ?_
 refine g_wk [(0,_),(1,_)] ?_
 refine w_s ?_
 refine w_k7 ?_
 rcases Bool.eq_false_or_eq_true (x) with hb1 | hb1
 ·
  refine w_g hb1 xm ?_
  refine w_g hb1 (x_not (b:=y) rfl rfl) ?_
  refine w_v (x_pick_t rfl rfl hb1 rfl) ?_
  refine w_k2 ?_
  rcases Bool.eq_false_or_eq_true (y) with hb2 | hb2
  ·
   refine g_cond_f rfl (neg_of hb2) ?_
   refine w_k3 ?_
   refine w_g hb2 xm ?_
   refine w_g hb2 (x_not (b:=x) rfl rfl) ?_
   refine w_v (x_pick_t rfl rfl hb2 rfl) ?_
   refine w_k2 ?_
   refine g_cond_f rfl (neg_of hb1) ?_
   refine w_k7 ?_
   refine fin_r [.tmp 4] [.int .i64 0] ?_
   exact ⟨by unfold sgN; simp_all [tupled],H0.mask [true]⟩
  ·
   refine g_cond_t rfl (neg_of hb2) ?_
   refine w_k6 ?_
   refine fin_r [.tmp 4] [.int .i64 (-1)] ?_
   exact ⟨by unfold sgN; simp_all [tupled],H0.mask [true]⟩
 ·
  iterate 2 refine w_n hb1 ?_
  refine w_v (x_pick_f rfl rfl hb1 rfl) ?_
  refine w_k2 ?_
  refine g_cond_f rfl rfl ?_
  refine w_k3 ?_
  rcases Bool.eq_false_or_eq_true (y) with hb3 | hb3
  ·
   refine w_g hb3 xm ?_
   refine w_g hb3 (x_not (b:=x) rfl rfl) ?_
   refine w_v (x_pick_t rfl rfl hb3 rfl) ?_
   refine w_k2 ?_
   refine g_cond_t rfl (neg_of hb1) ?_
   refine w_k6 ?_
   refine fin_r [.tmp 4] [.int .i64 1] ?_
   exact ⟨by unfold sgN; simp_all [tupled],H0.mask [true]⟩
  ·
   iterate 2 refine w_n hb3 ?_
   refine w_v (x_pick_f rfl rfl hb3 rfl) ?_
   refine w_k2 ?_
   refine g_cond_f rfl rfl ?_
   refine w_k7 ?_
   refine fin_r [.tmp 4] [.int .i64 0] ?_
   exact ⟨by unfold sgN; simp_all [tupled],H0.mask [true]⟩
theorem less1_r (x y:Rv) (hx:DV x) (hy:DV y)  (w:World):Calls Tryz.prog 73 #[.int .i64 1,.agg #[.int .i64 (x.id),.bool x.intr,.bool x.chk,.int .i64 (x.frm),.int .i64 (x.to),.int .i64 (x.lt),.int .i64 (x.since),.bool x.snb,.bool x.now,.bool x.seed],.agg #[.int .i64 (y.id),.bool y.intr,.bool y.chk,.int .i64 (y.frm),.int .i64 (y.to),.int .i64 (y.lt),.int .i64 (y.since),.bool y.snb,.bool y.now,.bool y.seed]] w fun e w'=>e=.returned (.int .i64 (c1 x y))∧S w' [Old w no]:=by
 have H0:=S.old w
 unfold DV at hx hy
 have hsg:=sgN_nc x y
 refine enter 93 Tryz.func73 rfl rfl rfl ?_
 refine g_wk [(0,_),(1,_),(2,_)] ?_
 refine w_s ?_
 refine l_of (s_box H0 (wt0 rfl) rfl rfl rfl rfl ?_)
 intro g1 wq2 H3
 refine l_of (s_box H3 (wt0 rfl) rfl rfl rfl rfl ?_)
 intro g4 wq5 H6
 refine w_a ?_
 refine w_es ?_
 refine w_a ?_
 refine w_e ?_
 refine g_seq ?_
 refine w_s ?_
 refine w_m ?_
 refine w_e ?_
 refine w_bs ?_
 refine w_b ?_
 refine w_a ?_
 refine w_e ?_
 refine g_ct rfl ?_
 refine g_anyY [] (fun wx=>S wx [Ob g4 (.cells #[.int .i64 (y.id),.bool y.intr,.bool y.chk,.int .i64 (y.frm),.int .i64 (y.to),.int .i64 (y.lt),.int .i64 (y.since),.bool y.snb,.bool y.now,.bool y.seed] 111 (0,0)),Ob g1 (.cells #[.int .i64 (x.id),.bool x.intr,.bool x.chk,.int .i64 (x.frm),.int .i64 (x.to),.int .i64 (x.lt),.int .i64 (x.since),.bool x.snb,.bool x.now,.bool x.seed] 111 (0,0))]) (fun wx=>S wx [Ob g4 (.cells #[.int .i64 (y.id),.bool y.intr,.bool y.chk,.int .i64 (y.frm),.int .i64 (y.to),.int .i64 (y.lt),.int .i64 (y.since),.bool y.snb,.bool y.now,.bool y.seed] 111 (0,0)),Ob g1 (.cells #[.int .i64 (x.id),.bool x.intr,.bool x.chk,.int .i64 (x.frm),.int .i64 (x.to),.int .i64 (x.lt),.int .i64 (x.since),.bool x.snb,.bool x.now,.bool x.seed] 111 (0,0))]) [] (by kernel_rfl) H6 (fun wq7 H8=>?_)
 refine w_y 0 rfl (wt0 rfl) rfl rfl rfl (by kernel_rfl) (fun _=>x_fieldAddr (off':=3) rfl rfl fo111_3 rfl) ?_
 refine y_take (v:=.int .i64 (y.frm)) 1 rfl (wt0 rfl) rfl rfl rfl (by kernel_rfl) (by kernel_rfl) (by kernel_rfl) (by kernel_rfl) (by kernel_rfl) (H8.mask [true,true,false]) (fun wx H=>x_load1 H 0 rfl rfl Tryz.underlying3 rfl rfl rfl) ?_
 refine w_y 2 rfl (wt0 rfl) rfl rfl rfl (by kernel_rfl) (fun _=>x_fieldAddr (off':=3) rfl rfl fo111_3 rfl) ?_
 refine y_take (v:=.int .i64 (x.frm)) 3 rfl (wt0 rfl) rfl rfl rfl (by kernel_rfl) (by kernel_rfl) (by kernel_rfl) (by kernel_rfl) (by kernel_rfl) (H8.mask [true,true,false]) (fun wx H=>x_load1 H 1 rfl rfl Tryz.underlying3 rfl rfl rfl) ?_
 refine w_y (v:=.int .i64 (y.frm - x.frm)) 4 rfl (wt0 rfl) rfl rfl rfl (by kernel_rfl) (fun _=>x_bin rfl rfl rfl (b_sub (w64 (by omega)))) ?_
 refine w_y 5 rfl (wt0 rfl) rfl rfl rfl (by kernel_rfl) (fun _=>x_fieldAddr (off':=2) rfl rfl fo111_2 rfl) ?_
 refine y_take (v:=.bool x.chk) 6 rfl (wt0 rfl) rfl rfl rfl (by kernel_rfl) (by kernel_rfl) (by kernel_rfl) (by kernel_rfl) (by kernel_rfl) (H8.mask [true,true,false]) (fun wx H=>x_load1 H 1 rfl rfl Tryz.underlying4 rfl rfl rfl) ?_
 refine w_y (v:=.bool (!(x.chk))) 7 rfl (wt0 rfl) rfl rfl rfl (by kernel_rfl) (fun _=>x_not (b:=x.chk) rfl rfl) ?_
 refine w_y 8 rfl (wt0 rfl) rfl rfl rfl (by kernel_rfl) (fun _=>x_fieldAddr (off':=2) rfl rfl fo111_2 rfl) ?_
 refine y_take (v:=.bool y.chk) 9 rfl (wt0 rfl) rfl rfl rfl (by kernel_rfl) (by kernel_rfl) (by kernel_rfl) (by kernel_rfl) (by kernel_rfl) (H8.mask [true,true,false]) (fun wx H=>x_load1 H 0 rfl rfl Tryz.underlying4 rfl rfl rfl) ?_
 refine w_y (v:=.bool (!(y.chk))) 10 rfl (wt0 rfl) rfl rfl rfl (by kernel_rfl) (fun _=>x_not (b:=y.chk) rfl rfl) ?_
 refine w_y 12 rfl (wt0 rfl) rfl rfl rfl (by kernel_rfl) (fun _=>x_fieldAddr (off':=6) rfl rfl fo111_6 rfl) ?_
 refine y_take (v:=.int .i64 (x.since)) 13 rfl (wt0 rfl) rfl rfl rfl (by kernel_rfl) (by kernel_rfl) (by kernel_rfl) (by kernel_rfl) (by kernel_rfl) (H8.mask [true,true,false]) (fun wx H=>x_load1 H 1 rfl rfl Tryz.underlying3 rfl rfl rfl) ?_
 refine w_y 14 rfl (wt0 rfl) rfl rfl rfl (by kernel_rfl) (fun _=>x_fieldAddr (off':=6) rfl rfl fo111_6 rfl) ?_
 refine y_take (v:=.int .i64 (y.since)) 15 rfl (wt0 rfl) rfl rfl rfl (by kernel_rfl) (by kernel_rfl) (by kernel_rfl) (by kernel_rfl) (by kernel_rfl) (H8.mask [true,true,false]) (fun wx H=>x_load1 H 0 rfl rfl Tryz.underlying3 rfl rfl rfl) ?_
 refine w_y (v:=.int .i64 (x.since - y.since)) 16 rfl (wt0 rfl) rfl rfl rfl (by kernel_rfl) (fun _=>x_bin rfl rfl rfl (b_sub (w64 (by omega)))) ?_
 refine y_one (i:=11) (by kernel_rfl) rfl ?_
 refine s_call0 H8 (wt0 rfl) (x_call' rfl rfl cl77) (signed_r (!(x.chk)) (!(y.chk)) _) rfl rfl ?_
 intro wq9 H10
 refine y_k (H10.mask [true,true,false]) (H10.mask [true,true,false]) ?_
 refine y_one (i:=17) (by kernel_rfl) rfl ?_
 refine s_buildSlice H10 (wt0 rfl) rfl rfl rfl (vs:=[.int .i64 (y.frm - x.frm),.int .i64 ((sgN (!(x.chk)) (!(y.chk)))),.int .i64 (x.since - y.since)]) rfl Tryz.underlying43 sz3 ze3 rfl rfl (cells:=#[.int .i64 (y.frm - x.frm),.int .i64 ((sgN (!(x.chk)) (!(y.chk)))),.int .i64 (x.since - y.since)]) (by kernel_rfl) ?_
 intro g11 wq12 H13
 have cm1:=H13.mask [false,true,true,false]
 refine y_k cm1 cm1 ?_
 refine w_y 18 rfl (wt0 rfl) rfl rfl rfl (by kernel_rfl) (fun _=>x_assign rfl rfl) ?_
 refine y_done (by kernel_rfl) ?_
 refine g_in ?_
 refine g_then ?_
 refine g_seq ?_
 refine w_s ?_
 refine w_r2 ?_
 refine w_1 H13 2 ?_
 refine w_f 0 ?_
 refine w_1 H13 1 ?_
 refine w_b (v:=.int .i64 (x.id - y.id)) (hb:=(b_sub (w64 (by omega)))) ?_
 refine l_of (s_buildSlice H13 (wt0 rfl) rfl rfl rfl (vs:=[.int .i64 (x.id - y.id)]) rfl Tryz.underlying43 sz3 ze3 rfl rfl (cells:=#[.int .i64 (x.id - y.id)]) (by kernel_rfl) ?_)
 intro g14 wq15 H16
 have H17:S wq15 [Ob g14 (.cells #[.int .i64 (x.id - y.id)] 3 (0,0)),Rw 3 1 (some ⟨g11,0,none⟩) 3 3 (fl intL ([y.frm - x.frm,(sgN (!(x.chk)) (!(y.chk))),x.since - y.since])),Ob g4 (.cells #[.int .i64 (y.id),.bool y.intr,.bool y.chk,.int .i64 (y.frm),.int .i64 (y.to),.int .i64 (y.lt),.int .i64 (y.since),.bool y.snb,.bool y.now,.bool y.seed] 111 (0,0)),Ob g1 (.cells #[.int .i64 (x.id),.bool x.intr,.bool x.chk,.int .i64 (x.frm),.int .i64 (x.to),.int .i64 (x.lt),.int .i64 (x.since),.bool x.snb,.bool x.now,.bool x.seed] 111 (0,0)),Old w no]:=S.obFl intE H16 (k:=1) rfl rfl (by decide) rfl
 have hln22a:=(H17.rwReads (k:=1) rfl).lenL intE
 have hln22:([y.frm - x.frm,(sgN (!(x.chk)) (!(y.chk))),x.since - y.since]++[x.id - y.id]).length=3+1:=by simp only [List.length_append,List.length_cons,List.length_nil] <;> omega
 refine l_of (s_appBn (m:=1) (l:=[y.frm - x.frm,(sgN (!(x.chk)) (!(y.chk))),x.since - y.since]) (l2:=[x.id - y.id]) intE H17 1 (j0:=0) rfl rfl ⟨rfl,Nat.le_refl _⟩ (wt0 rfl) rfl rfl rfl rfl rfl rfl Tryz.underlying43 inf3 rfl (by decide) (by omega) ?_)
 intro p18 c19 wq20 H21
 refine w_v (v:=.int .i64 4) x_q ?_
 refine w_m ?_
 refine w_e ?_
 refine g_block ?_
 refine g_rounds 5 ?_
 refine g_roundU ?_
 refine w_s ?_
 refine w_b ?_
 refine w_e ?_
 refine g_seq ?_
 refine g_cond_t rfl (by decide) ?_
 refine w_ht ?_
 refine g_seq ?_
 refine w_bs ?_
 refine w_v (v:=.pointer ((p18).map fun q=>q.add (0 * 1))) (x_i 0 (H21.rr 1)) ?_
 refine w_v (v:=.int .i64 ((y.frm - x.frm))) (x_r 0 (H21.rr 1) (intE.flAt1 rfl rfl)) ?_
 refine w_a ?_
 refine w_es ?_
 refine w_m ?_
 refine w_b (v:=.bool (!decide (((y.frm - x.frm):Int)=0))) (hb:=b_neq) ?_
 refine w_e ?_
 by_cases hb23:((y.frm - x.frm):Int)=0
 ·
  refine g_cond_f rfl (nf hb23) ?_
  refine g_skip ?_
  refine g_in ?_
  refine g_then ?_
  refine g_weak [(83,.slice p18 (([y.frm - x.frm,(sgN (!(x.chk)) (!(y.chk))),x.since - y.since]++[x.id - y.id]).length) c19),(84,.int .i64 4),(85,.int .i64 0)] ⟨rfl,rfl,rfl,trivial⟩ ?_
  refine g_region ?_
  refine w_b (v:=.int .i64 1) (hb:=(b_add (r:=1) (by decide))) ?_
  refine w_m ?_
  refine w_e ?_
  refine g_roundU ?_
  refine w_s ?_
  refine w_b ?_
  refine w_e ?_
  refine g_seq ?_
  refine g_cond_t rfl (by decide) ?_
  refine w_ht ?_
  refine g_seq ?_
  refine w_bs ?_
  refine w_v (v:=.pointer ((p18).map fun q=>q.add (1 * 1))) (x_i 1 (H21.rr 1)) ?_
  refine w_v (v:=.int .i64 ((sgN (!(x.chk)) (!(y.chk))))) (x_r 1 (H21.rr 1) (intE.flAt1 rfl rfl)) ?_
  refine w_a ?_
  refine w_es ?_
  refine w_m ?_
  refine w_b (v:=.bool (!decide (((sgN (!(x.chk)) (!(y.chk))):Int)=0))) (hb:=b_neq) ?_
  refine w_e ?_
  by_cases hb24:((sgN (!(x.chk)) (!(y.chk))):Int)=0
  ·
   refine g_cond_f rfl (nf hb24) ?_
   refine g_skip ?_
   refine g_in ?_
   refine g_then ?_
   refine g_region ?_
   refine w_b (v:=.int .i64 2) (hb:=(b_add (r:=2) (by decide))) ?_
   refine w_m ?_
   refine w_e ?_
   refine g_roundU ?_
   refine w_s ?_
   refine w_b ?_
   refine w_e ?_
   refine g_seq ?_
   refine g_cond_t rfl (by decide) ?_
   refine w_ht ?_
   refine g_seq ?_
   refine w_bs ?_
   refine w_v (v:=.pointer ((p18).map fun q=>q.add (2 * 1))) (x_i 2 (H21.rr 1)) ?_
   refine w_v (v:=.int .i64 ((x.since - y.since))) (x_r 2 (H21.rr 1) (intE.flAt1 rfl rfl)) ?_
   refine w_a ?_
   refine w_es ?_
   refine w_m ?_
   refine w_b (v:=.bool (!decide (((x.since - y.since):Int)=0))) (hb:=b_neq) ?_
   refine w_e ?_
   by_cases hb25:((x.since - y.since):Int)=0
   ·
    refine g_cond_f rfl (nf hb25) ?_
    refine g_skip ?_
    refine g_in ?_
    refine g_then ?_
    refine g_region ?_
    refine w_b (v:=.int .i64 3) (hb:=(b_add (r:=3) (by decide))) ?_
    refine w_m ?_
    refine w_e ?_
    refine g_roundU ?_
    refine w_s ?_
    refine w_b ?_
    refine w_e ?_
    refine g_seq ?_
    refine g_cond_t rfl (by decide) ?_
    refine w_ht ?_
    refine g_seq ?_
    refine w_bs ?_
    refine w_v (v:=.pointer ((p18).map fun q=>q.add (3 * 1))) (x_i 3 (H21.rr 1)) ?_
    refine w_v (v:=.int .i64 ((x.id - y.id))) (x_r 3 (H21.rr 1) (intE.flAt1 rfl rfl)) ?_
    refine w_a ?_
    refine w_es ?_
    refine w_m ?_
    refine w_b (v:=.bool (!decide (((x.id - y.id):Int)=0))) (hb:=b_neq) ?_
    refine w_e ?_
    by_cases hb26:((x.id - y.id):Int)=0
    ·
     refine g_cond_f rfl (nf hb26) ?_
     refine g_skip ?_
     refine g_in ?_
     refine g_then ?_
     refine g_region ?_
     refine w_b (v:=.int .i64 4) (hb:=(b_add (r:=4) (by decide))) ?_
     refine w_m ?_
     refine w_e ?_
     refine g_roundU ?_
     refine w_s ?_
     refine w_b ?_
     refine w_e ?_
     refine g_seq ?_
     refine g_cond_f rfl (by decide) ?_
     refine g_exit ?_
     iterate 2 refine g_then_exit ?_
     refine g_in_hit ?_
     refine g_then ?_
     refine w_s ?_
     refine w_a ?_
     refine w_e ?_
     refine g_ret ?_
     refine fin_r [.tmp 6] [.int .i64 0] ?_
     have hv:c1 x y=0:=by
      unfold c1
      repeat' split
      all_goals omega
     exact ⟨by rw [hv]; rfl,H21.mask [false,false,false,false,true]⟩
    ·
     refine g_nt hb26 ?_
     refine w_s ?_
     refine w_r2 ?_
     refine w_e ?_
     refine g_ret ?_
     refine g_in_ret ?_
     iterate 2 refine g_then_ret ?_
     refine g_in_ret ?_
     refine g_then_ret ?_
     refine fin_r [.tmp 6] [.int .i64 ((x.id - y.id))] ?_
     have hv:c1 x y=(x.id - y.id):=by
      unfold c1
      repeat' split
      all_goals omega
     exact ⟨by rw [hv]; rfl,H21.mask [false,false,false,false,true]⟩
   ·
    refine g_nt hb25 ?_
    refine w_s ?_
    refine w_r2 ?_
    refine w_e ?_
    refine g_ret ?_
    refine g_in_ret ?_
    iterate 2 refine g_then_ret ?_
    refine g_in_ret ?_
    refine g_then_ret ?_
    refine fin_r [.tmp 6] [.int .i64 ((x.since - y.since))] ?_
    have hv:c1 x y=(x.since - y.since):=by
     unfold c1
     repeat' split
     all_goals omega
    exact ⟨by rw [hv]; rfl,H21.mask [false,false,false,false,true]⟩
  ·
   refine g_nt hb24 ?_
   refine w_s ?_
   refine w_r2 ?_
   refine w_e ?_
   refine g_ret ?_
   refine g_in_ret ?_
   iterate 2 refine g_then_ret ?_
   refine g_in_ret ?_
   refine g_then_ret ?_
   refine fin_r [.tmp 6] [.int .i64 ((sgN (!(x.chk)) (!(y.chk))))] ?_
   have hv:c1 x y=(sgN (!(x.chk)) (!(y.chk))):=by
    unfold c1
    repeat' split
    all_goals omega
   exact ⟨by rw [hv]; rfl,H21.mask [false,false,false,false,true]⟩
 ·
  refine g_nt hb23 ?_
  refine w_s ?_
  refine w_r2 ?_
  refine w_e ?_
  refine g_wk [(6,_)] ?_
  refine g_ret ?_
  refine g_in_ret ?_
  iterate 2 refine g_then_ret ?_
  refine g_in_ret ?_
  refine g_then_ret ?_
  refine fin_r [.tmp 6] [.int .i64 ((y.frm - x.frm))] ?_
  have hv:c1 x y=(y.frm - x.frm):=by
   unfold c1
   repeat' split
   all_goals omega
  exact ⟨by rw [hv]; rfl,H21.mask [false,false,false,false,true]⟩
theorem best1_r (l:List Rv) (p:Option Addr) (n c9:Nat) (hn2:n≤1000) (hne:0<n) (hDl:∀ x∈l,DV x)  (w:World) (hr:Reads w p n c9 10 (fl rvL l)):Calls Tryz.prog 68 #[.int .i64 1,.slice p n c9] w fun e w'=>∃ (j:Nat) (x:Rv),e=.returned (.int .i64 (j:Int))∧IsBest c1 l l.length j x∧S w' [Old w no]:=by
 have H0:=S.old w
 have hnl:=hr.lenL rvE
 refine enter 30 Tryz.func68 rfl rfl rfl ?_
 refine g_wk [(0,_),(1,_)] ?_
 refine w_s ?_
 refine w_k12 ?_
 refine g_loop (ι:=Nat × Int) (fun (i,at9)=>[(0,.int .i64 1),(1,.slice p n c9),(5,.int .i64 at9),(8,.slice p n c9),(9,.int .i64 ((n:Int))),(10,.int .i64 ((i:Int)))]) (fun (i,at9) wx=>(i≤n)∧(BestTo c1 l i at9)∧S wx [Old w no]) (fun (i,at9)=>n - i) (0,(-1)) ⟨rfl,rfl,rfl,rfl,rfl,rfl,trivial⟩ ⟨Nat.zero_le _,.inl ⟨rfl,rfl⟩,H0⟩ ?_
 rintro ⟨i,at9⟩ wq1 ⟨hi,hat,H2⟩
 refine g_wk [(0,_),(1,_),(5,_),(8,_),(9,_),(10,_)] ?_
 refine w_s ?_
 refine w_k2 ?_
 refine g_seq ?_
 by_cases hb3:((i:Int):Int)<(n:Int)
 ·
  refine g_ct hb3 ?_
  refine w_k6 ?_
  refine w_v (x_i i (H2.exReads (k:=0) rfl hr (fun _ _ _ h=>h))) ?_
  obtain ⟨x4,hx4⟩:=(H2.exReads (k:=0) rfl hr (fun _ _ _ h=>h)).exL rvE i
  refine w_v (x_loadRA (vs:=rvL x4) i (H2.exReads (k:=0) rfl hr (fun _ _ _ h=>h)) (by omega) rfl rfl Tryz.underlying111 rfl sz111 (by rfl) (rvE.flAt hx4)) ?_
  refine l_of (s_alloc H2 (wt0 rfl) rfl rfl rfl ze111 ?_)
  intro g5 wq6 H7
  refine w_a ?_
  refine l_of (w_st #[.int .i64 (x4.id),.bool x4.intr,.bool x4.chk,.int .i64 (x4.frm),.int .i64 (x4.to),.int .i64 (x4.lt),.int .i64 (x4.since),.bool x4.snb,.bool x4.now,.bool x4.seed] H7 0 ?_)
  intro wq8 H9
  refine w_e ?_
  refine g_seq ?_
  refine g_any [] (fun wx=>S wx [Ob g5 (.cells #[.int .i64 (x4.id),.bool x4.intr,.bool x4.chk,.int .i64 (x4.frm),.int .i64 (x4.to),.int .i64 (x4.lt),.int .i64 (x4.since),.bool x4.snb,.bool x4.now,.bool x4.seed] 111 (0,0)),Old w no]) [] (by kernel_rfl) H9 (fun wq10 H11=>?_)
  refine w_t 0 rfl H11 (fun _ _=>xm) ?_
  refine w_t 1 rfl H11 (fun _ _=>x_bin rfl rfl rfl b_lss) ?_
  refine w_t 2 rfl H11 (fun _ _=>xm) ?_
  by_cases hb12:(at9:Int)<0
  ·
   refine w_tn 3 rfl (decide_eq_true hb12) H11 ?_
   refine w_tn 4 rfl (decide_eq_true hb12) H11 ?_
   refine w_tn 5 rfl (decide_eq_true hb12) H11 ?_
   refine w_tn 6 rfl (decide_eq_true hb12) H11 ?_
   refine w_tn 7 rfl (decide_eq_true hb12) H11 ?_
   refine w_tn 8 rfl (decide_eq_true hb12) H11 ?_
   refine a_one (i:=9) (by kernel_rfl) rfl ?_
   refine s_not (wn1 rfl rfl rfl rfl (decide_eq_true hb12)) rfl rfl ?_
   refine a_k H11 ?_
   refine w_tn 10 rfl (decide_eq_true hb12) H11 ?_
   refine w_t (v:=.bool true) 11 rfl H11 (fun _ _=>x_pick_t rfl rfl (decide_eq_true hb12) rfl) ?_
   refine a_done (by kernel_rfl) ?_
   refine w_0 ?_
   refine g_cond_t rfl rfl ?_
   refine w_k7 ?_
   refine w_i i ?_
   refine w_k2 ?_
   refine g_rd (i:=(i,at9)) ((i+1),(i:Int)) ⟨by omega,(BestTo.of (hat.first c1_wk hb12 hx4)),(H11.mask [false,true])⟩
  ·
   obtain ⟨j1,z1,rfl,hB1⟩:=hat.at hb12
   have hjl1:=(List.getElem?_eq_some_iff.1 hB1.2.1).1
   have hji1:=hB1.1
   refine w_tg 3 rfl (decide_eq_false hb12) H11 (fun _ _=>xm) ?_
   refine w_tg (v:=.agg #[.int .i64 (x4.id),.bool x4.intr,.bool x4.chk,.int .i64 (x4.frm),.int .i64 (x4.to),.int .i64 (x4.lt),.int .i64 (x4.since),.bool x4.snb,.bool x4.now,.bool x4.seed]) 4 rfl (decide_eq_false hb12) H11 (fun _ H=>x_loadA H 0 rfl rfl Tryz.underlying111 rfl sz111 rfl rfl rfl) ?_
   refine w_tg 5 rfl (decide_eq_false hb12) H11 (fun _ _=>xm) ?_
   refine w_tg 6 rfl (decide_eq_false hb12) H11 (fun _ _=>xm) ?_
   refine w_tg (v:=.pointer ((p).map fun q=>q.add (j1 * 10))) 7 rfl (decide_eq_false hb12) H11 (fun _ _=>x_ip j1 ((H11.exReads (k:=1) rfl hr (fun _ _ _ h=>h)).some (by omega))) ?_
   refine w_tg (v:=.agg #[.int .i64 (z1.id),.bool z1.intr,.bool z1.chk,.int .i64 (z1.frm),.int .i64 (z1.to),.int .i64 (z1.lt),.int .i64 (z1.since),.bool z1.snb,.bool z1.now,.bool z1.seed]) 8 rfl (decide_eq_false hb12) H11 (fun _ H=>x_loadRA (vs:=rvL z1) j1 (H.exReads (k:=1) rfl hr (fun _ _ _ h=>h)) (by omega) rfl rfl Tryz.underlying111 rfl sz111 (by rfl) (rvE.flAt hB1.2.1)) ?_
   refine a_one (i:=9) (by kernel_rfl) rfl ?_
   refine s_call0 H11 (wt1 rfl rfl rfl rfl (decide_eq_false hb12)) (x_call' rfl rfl cl73) (less1_r x4 z1 (hDl _ (List.mem_of_getElem? hx4)) (hDl _ (List.mem_of_getElem? hB1.2.1)) _) rfl rfl ?_
   intro wq13 H14
   refine a_k H14 ?_
   refine w_tg 10 rfl (decide_eq_false hb12) H14 (fun _ _=>x_bin rfl rfl rfl b_lss) ?_
   refine w_t (v:=.bool (decide (((c1 x4 z1):Int)<0))) 11 rfl H14 (fun _ _=>x_pick_f rfl rfl (decide_eq_false hb12) rfl) ?_
   refine a_done (by kernel_rfl) ?_
   refine w_0 ?_
   by_cases hb15:((c1 x4 z1):Int)<0
   ·
    refine g_ct hb15 ?_
    refine w_k7 ?_
    refine w_i i ?_
    refine w_k2 ?_
    refine g_rd (i:=(i,(j1:Int))) ((i+1),(i:Int)) ⟨by omega,(BestTo.of (hB1.take c1_wk hx4 hb15)),(H14.mask [false,true])⟩
   ·
    refine g_cf hb15 ?_
    refine w_k4 ?_
    refine w_i i ?_
    refine w_k2 ?_
    refine g_rd (i:=(i,(j1:Int))) ((i+1),(j1:Int)) ⟨by omega,(BestTo.of (hB1.keep hx4 hb15)),(H14.mask [false,true])⟩
 ·
  refine g_cf hb3 ?_
  refine w_k10 ?_
  refine fin_r [.tmp 4] [.int .i64 at9] ?_
  obtain ⟨j9,z9,hj9,hB9⟩:=hat.fin (by omega)
  have hin:i=l.length:=by omega
  rw [hin] at hB9
  subst hj9
  exact ⟨j9,z9,rfl,hB9,H2.mask [true]⟩
theorem without_r (l:List Rv) (p:Option Addr) (n c:Nat) (hn2:n≤1000) (i:Nat) (hi:i<n)  (w:World) (hr:Reads w p n c 10 (fl rvL l)):Calls Tryz.prog 66 #[.slice p n c,.int .i64 ((i:Int))] w fun e w'=>∃ p' c',e=.returned (.slice p' (l.eraseIdx i).length c')∧S w' ([Rw 111 10 p' (l.eraseIdx i).length c' (fl rvL (l.eraseIdx i))]++[Old w no]):=by
 have H0:=S.old w
 have hnl:=hr.lenL rvE
 refine enter 17 Tryz.func66 rfl rfl rfl ?_
 refine g_wk [(0,_),(1,_)] ?_
 refine w_s ?_
 refine w_k9 ?_
 have hnc:=(H0.exReads (k:=0) rfl hr (fun _ _ _ h=>h)).2.1
 refine w_v (v:=.slice p i c) (ex_cast (x_sliceH i rfl rfl rfl Tryz.underlying109 sz111 (by omega)) (by rw [cutP0])) ?_
 have H1:S _ [_,_]:=H0.nilFl 111 10 rvL
 have hln6a:=(H1.rr 0).lenL rvE
 have hln6b:=((H1.exReads (k:=1) rfl hr (fun _ _ _ h=>h)).takeL rvE i (by omega)).lenL rvE
 have hln6:(l.take i).length=0+i:=by omega
 refine l_of (s_appLn (l:=[]) (l2:=(l.take i)) rvE H1 0 (wt0 rfl) rfl rfl rfl rfl rfl rfl Tryz.underlying109 inf111 rfl (by decide) ((H1.exReads (k:=1) rfl hr (fun _ _ _ h=>h)).takeL rvE i (by omega)) (by omega) ?_)
 intro p2 c3 wq4 H5
 rw [List.nil_append] at H5 ⊢
 replace H5:S wq4 [Rw 111 10 p2 ((l.take i).length) c3 (fl rvL (l.take i)),Old w no]:=H5
 refine w_k6 ?_
 refine w_i i ?_
 have hnc:=(H5.exReads (k:=1) rfl hr (fun _ _ _ h=>h)).2.1
 have hnl:=(H5.exReads (k:=1) rfl hr (fun _ _ _ h=>h)).lenL rvE
 have hdl:(l.drop (i+1)).length=n - (i+1):=by rw [List.length_drop,← hnl]
 refine w_v (v:=.slice (cutP p (i+1) c 10) ((l.drop (i+1)).length) (c - (i+1))) (ex_cast (x_cut (i+1) rfl rfl rfl Tryz.underlying109 sz111 (by omega)) (by rw [List.length_drop,← hnl])) ?_
 have hln11a:=(H5.rr 0).lenL rvE
 have hln11b:=((H5.exReads (k:=1) rfl hr (fun _ _ _ h=>h)).cutLn rvE (i+1) (by omega)).lenL rvE
 have hln11:((l.take i)++(l.drop (i+1))).length=((l.take i).length)+((l.drop (i+1)).length):=by simp only [List.length_append,List.length_cons,List.length_nil] <;> omega
 refine l_of (s_appLn (l:=(l.take i)) (l2:=(l.drop (i+1))) rvE H5 0 (wt0 rfl) rfl rfl rfl rfl rfl rfl Tryz.underlying109 inf111 rfl (by decide) ((H5.exReads (k:=1) rfl hr (fun _ _ _ h=>h)).cutLn rvE (i+1) (by omega)) (by omega) ?_)
 intro p7 c8 wq9 H10
 refine w_k3 ?_
 refine fin_r [.tmp 4] [.slice p7 (((l.take i)++(l.drop (i+1))).length) c8] ?_
 rw [← erase_td l i]
 exact ⟨_,_,rfl,H10.tk [0,1]⟩
theorem inter_r (l:List Rv) (p:Option Addr) (n c:Nat) (hn2:n≤1000)  (w:World) (hr:Reads w p n c 10 (fl rvL l)):Calls Tryz.prog 62 #[.int .i64 1,.slice p n c] w fun e w'=>∃ p' c',e=.returned (.slice p' (l.filter qW).length c')∧S w' ([Rw 111 10 p' (l.filter qW).length c' (fl rvL (l.filter qW))]++[Old w no]):=by
 have H0:=S.old w
 have hnl:=hr.lenL rvE
 refine enter 31 Tryz.func62 rfl rfl rfl ?_
 refine g_wk [(0,_),(1,_)] ?_
 refine w_s ?_
 refine w_k12 ?_
 refine g_loop (ι:=Nat × Option Addr × Nat × List Rv) (fun (i,pa,ca,A)=>[(0,.int .i64 1),(5,.slice pa A.length ca),(8,.slice p n c),(9,.int .i64 ((n:Int))),(10,.int .i64 ((i:Int)))]) (fun (i,pa,ca,A) wx=>(i≤n)∧(A=(l.take i).filter qW)∧(A.length≤i)∧S wx [Rw 111 10 pa A.length ca (fl rvL A),Old w no]) (fun (i,pa,ca,A)=>n - i) (0,none,0,[]) ⟨rfl,rfl,rfl,rfl,rfl,trivial⟩ ⟨Nat.zero_le _,(by rw [List.take_zero]; rfl),(Nat.le_refl 0),((H0.tk [0]).nilFl 111 10 rvL)⟩ ?_
 rintro ⟨i,pa,ca,A⟩ wq1 ⟨hi,hA,hAl,H2⟩
 refine g_wk [(0,_),(5,_),(8,_),(9,_),(10,_)] ?_
 refine w_s ?_
 refine w_k2 ?_
 refine g_seq ?_
 by_cases hb3:((i:Int):Int)<(n:Int)
 ·
  refine g_ct hb3 ?_
  refine w_k5 ?_
  refine w_v (x_i i (H2.exReads (k:=1) rfl hr (fun _ _ _ h=>h))) ?_
  obtain ⟨x4,hx4⟩:=(H2.exReads (k:=1) rfl hr (fun _ _ _ h=>h)).exL rvE i
  refine w_v (x_loadRA (vs:=rvL x4) i (H2.exReads (k:=1) rfl hr (fun _ _ _ h=>h)) (by omega) rfl rfl Tryz.underlying111 rfl sz111 (by rfl) (rvE.flAt hx4)) ?_
  refine l_of (s_alloc H2 (wt0 rfl) rfl rfl rfl ze111 ?_)
  intro g5 wq6 H7
  refine l_of (w_st #[.int .i64 (x4.id),.bool x4.intr,.bool x4.chk,.int .i64 (x4.frm),.int .i64 (x4.to),.int .i64 (x4.lt),.int .i64 (x4.since),.bool x4.snb,.bool x4.now,.bool x4.seed] H7 0 ?_)
  intro wq8 H9
  refine w_k5 ?_
  rcases Bool.eq_false_or_eq_true (x4.intr) with hb10 | hb10
  ·
   refine w_g hb10 xm ?_
   refine w_g hb10 (x_bin rfl rfl rfl b_eql) ?_
   refine w_g hb10 xm ?_
   refine l_of (s_val (v:=.pointer (some ⟨g5,9,none⟩)) (wt1 rfl rfl rfl rfl (by decide)) rfl rfl (x_fieldAddr rfl rfl fo111_9 rfl) ?_)
   refine l_of (s_val (v:=.bool x4.seed) (wt1 rfl rfl rfl rfl (by decide)) rfl rfl (x_load1 H9 0 rfl rfl Tryz.underlying4 rfl rfl rfl) ?_)
   refine l_of (s_val (v:=.bool (!(x4.seed))) (wt1 rfl rfl rfl rfl (by decide)) rfl rfl (x_not (b:=x4.seed) rfl rfl) ?_)
   refine w_g hb10 (x_pick_f rfl rfl (by decide) rfl) ?_
   refine w_v (x_pick_t rfl rfl hb10 rfl) ?_
   refine w_e ?_
   rcases Bool.eq_false_or_eq_true (x4.seed) with hb11 | hb11
   ·
    refine g_cond_f rfl (neg_of hb11) ?_
    refine w_k4 ?_
    refine w_i i ?_
    refine w_k2 ?_
    refine g_rd (i:=(i,pa,ca,A)) ((i+1),pa,ca,A) ⟨by omega,(by rw [take_snocL hx4,List.filter_append,← hA]; unfold qW; simp [hb10,hb11]),(by first | omega | (simp only [List.length_append,List.length_cons,List.length_nil]; omega)),(H9.tk [1,2])⟩
   ·
    refine g_cond_t rfl (neg_of hb11) ?_
    refine w_k2 ?_
    refine w_v (v:=.agg #[.int .i64 (x4.id),.bool x4.intr,.bool x4.chk,.int .i64 (x4.frm),.int .i64 (x4.to),.int .i64 (x4.lt),.int .i64 (x4.since),.bool x4.snb,.bool x4.now,.bool x4.seed]) (x_loadA H9 0 rfl rfl Tryz.underlying111 rfl sz111 rfl rfl rfl) ?_
    refine l_of (s_b1 ze111 #[.int .i64 (x4.id),.bool x4.intr,.bool x4.chk,.int .i64 (x4.frm),.int .i64 (x4.to),.int .i64 (x4.lt),.int .i64 (x4.since),.bool x4.snb,.bool x4.now,.bool x4.seed] H9 ?_)
    intro g12 wq13 H14
    have hln19a:=(H14.rr 2).lenL rvE
    have hln19:(A++[x4]).length=A.length+1:=by simp only [List.length_append,List.length_cons,List.length_nil] <;> omega
    refine l_of (s_appBn (m:=1) (l:=A) (l2:=[x4]) rvE H14 2 (j0:=0) rfl rfl ⟨rfl,Nat.le_refl _⟩ (wt0 rfl) rfl rfl rfl rfl rfl rfl Tryz.underlying109 inf111 rfl (by decide) (by omega) ?_)
    intro p15 c16 wq17 H18
    refine w_k5 ?_
    refine w_i i ?_
    refine w_k2 ?_
    refine g_rd (i:=(i,pa,ca,A)) ((i+1),p15,c16,(A++[x4])) ⟨by omega,(by rw [take_snocL hx4,List.filter_append,← hA]; unfold qW; simp [hb10,hb11]),(by first | omega | (simp only [List.length_append,List.length_cons,List.length_nil]; omega)),(H18.tk [2,3])⟩
  ·
   iterate 3 refine w_n hb10 ?_
   refine l_of (s_not (wn2 rfl rfl rfl rfl) rfl rfl ?_)
   refine l_of (s_not (wn2 rfl rfl rfl rfl) rfl rfl ?_)
   refine l_of (s_not (wn2 rfl rfl rfl rfl) rfl rfl ?_)
   refine w_n hb10 ?_
   refine w_v (x_pick_f rfl rfl hb10 rfl) ?_
   refine w_e ?_
   refine g_cond_f rfl rfl ?_
   refine w_k4 ?_
   refine w_i i ?_
   refine w_k2 ?_
   refine g_rd (i:=(i,pa,ca,A)) ((i+1),pa,ca,A) ⟨by omega,(by rw [take_snocL hx4,List.filter_append,← hA]; unfold qW; simp [hb10]),(by first | omega | (simp only [List.length_append,List.length_cons,List.length_nil]; omega)),(H9.tk [1,2])⟩
 ·
  refine g_cf hb3 ?_
  refine w_k10 ?_
  refine fin_r [.tmp 4] [.slice pa A.length ca] ?_
  rw [List.take_of_length_le (by omega)] at hA
  rw [← hA]
  exact ⟨_,_,rfl,H2.tk [0,1]⟩
end Go.Proofs.YtpbjekdjebjbkaaGreatDoor
