import Derived.Test.YthmmfhdpkddniaaGreatDoorFm
import Derived.Test.YthmmfhdpkddniaaGreatDoorCi
set_option linter.unusedSimpArgs false
set_option linter.unusedVariables false
namespace Go.Proofs.YthmmfhdpkddniaaGreatDoor
open Go.RowKit
theorem ze177:zeO Tryz.prog 177=some (.map none):=by kernel_rfl
theorem zV_fl (l:List Int):zV l=fl intL l:=map_fl (fun _=>rfl) l
theorem cand1_ok:callable Tryz.prog 156=true:=by kernel_rfl
theorem sortCand {A:PK} {p:Pee} (b mg:Nat) (M:Int→Option Rk8) (l:List Int) (hl:l=A.candL p) (hM:∀ y∈l,M y=some (rkR A p y)) (hn:A.n≤24) (po:Option Addr) (co:Nat) (w:World) (HS:S w [Rw 3 1 po l.length co (fl intL l),Big [Ob b (.cells #[.map (some mg)] 177 (0,0)),Mp (Value.int .i64) rk8V okI mg M]]) :
   Calls Tryz.prog 155 #[.slice po l.length co,.func (.func 156) #[] #[.pointer (some ⟨b,0,none⟩)]] w fun e w'=>e=.returned (.tuple #[])∧S w' ([Rw 3 1 po l.length co (fl intL (A.cand p)),Big [Ob b (.cells #[.map (some mg)] 177 (0,0)),Mp (Value.int .i64) rk8V okI mg M]]++[Old w (fps [Rw 3 1 po l.length co (fl intL l),Big [Ob b (.cells #[.map (some mg)] 177 (0,0)),Mp (Value.int .i64) rk8V okI mg M]])]):=by
 have hnd:(A.candL p).Nodup:=(idxs_nodup _).filter _
 have hlen:l.length≤24:=by rw [hl]; have:=candL_len A p; omega
 have hok:∀ x∈l,okI x:=fun x hx=>by
   rw [hl] at hx
   have:=mem_idxs.1 (List.mem_filter.1 hx).1
   exact ⟨by omega,by omega⟩
 have h9:=sortF_s l po l.length co (Big [Ob b (.cells #[.map (some mg)] 177 (0,0)),Mp (Value.int .i64) rk8V okI mg M]) 156 #[.pointer (some ⟨b,0,none⟩)] (cdC A p) rfl (by omega) (fun args w=>run_callFunc cand1_ok args) (fun x _=>cdC_irr) (fun x _ y _ z _=>cdC_tr) (fun x _ y _ z _=>cdC_nt) (fun x _ y _=>cdC_eq)
   (fun x hx y hy w1 h1=>cand1_s b mg M x y (hok x hx) (hok y hy) (rkR A p x) (rkR A p y) (hM x hx) (hM y hy) w1 (by have h2:=S.unbig (L:=[_,_]) h1; exact h2)) w (by rw [zV_fl]; exact HS)
 rw [zV_fl] at h9
 refine h9.mono ?_
 rintro e w' ⟨rfl,m,⟨hp,hs⟩,h⟩
 have hm:m=A.cand p:=cand_sorted hn (by rw [← hl]; exact hp) hs hnd
 subst hm
 rw [zV_fl] at h
 exact ⟨rfl,h⟩
set_option maxRecDepth 20000 in
set_option maxHeartbeats 4000000 in
theorem cand_x (X:XP) (A:PK) (j:Nat) (hX:XOK X A) (hI:PKI j A) (q:Nat) (m:Mt) (hm:X.ms[q]?=some m)  (w:World) (HS:S w [(XI X A)]):Calls Tryz.prog 135 #[.pointer (some ⟨X.g,0,none⟩),.pointer (some ⟨m.b,0,none⟩)] w fun e w'=>∃ (po:Option Addr) (co:Nat),e=.returned (.slice po (A.cand m.pe).length co)∧S w' ([Rw 3 1 po (A.cand m.pe).length co (fl intL (A.cand m.pe)),(XI X A)]++[Old w (fps [(XI X A)])]):=by
 have H0:=HS.beginI
 have hn24:=hI.n24
 have hn1:=hI.n1
 have hpz1:=hI.pz1
 have hpz2:=hI.pz2
 have hla1:=hI.la1
 have hla2:=hI.la2
 have hadl:=hI.hadl
 have hwl:=hI.wishl
 replace H0:S w [Ob X.g (.cells #[.map (some X.mg),.int .i64 ((A.n:Int)),.int .i64 ((A.pz:Int)),.int .i64 ((A.la:Int)),.string (A.seed),.bool A.ino,.slice X.hp A.had.length X.hc,.slice X.wp A.wish.length X.wc,.map (some X.bg)] 85 (0,0)),Rw 4 1 X.hp A.had.length X.hc (fl boolL A.had),Rw 40 2 X.wp A.wish.length X.wc (fl wisL A.wish),Mp (Value.int .i64) ptV okI X.mg (mtM X.ms),(Lst MtI X.ms),Mp plK ptV okP X.bg (bkM X.bs),(Lst BkI X.bs),Old w (fps [(XI X A)])]:=S.unbig (L:=[_,_,_,_,_,_,_]) H0
 refine enter 55 Tryz.func135 rfl rfl rfl ?_
 refine g_wk [(0,_),(1,_)] ?_
 refine w_s ?_
 refine w_a ?_
 refine w_es ?_
 refine l_of (s_makeMap (α:=Rk8) (Value.int .i64) rk8V okI H0 (wt0 rfl) rfl rfl rfl ?_)
 intro mg1 wq2 H3
 refine l_of (s_alloc H3 (wt0 rfl) rfl rfl rfl ze177 ?_)
 intro g4 wq5 H6
 refine l_of (w_st #[.map (some mg1)] H6 0 ?_)
 intro wq7 H8
 refine w_es ?_
 refine w_a ?_
 refine w_e ?_
 refine g_seq ?_
 refine w_s ?_
 refine w_r3 ?_
 refine w_1 H8 2 ?_
 refine w_m ?_
 refine w_e ?_
 refine g_block ?_
 refine g_loop (ι:=Nat × Option Addr × Nat × List Int × (Int→Option Rk8)) (fun (ii,ro,co,oz,MM)=>[(0,.pointer (some ⟨X.g,0,none⟩)),(1,.pointer (some ⟨m.b,0,none⟩)),(5,.pointer (some ⟨g4,0,none⟩)),(6,.slice ro oz.length co),(12,.int .i64 ((A.n:Int))),(13,.int .i64 ((ii:Int)))]) (fun (ii,ro,co,oz,MM) wx=>(ii≤A.n)∧(oz=((idxs A.n).take ii).filter (A.candB m.pe))∧(∀ y∈oz,MM y=some (rkR A m.pe y))∧(oz.length≤ii)∧S wx [Rw 3 1 ro oz.length co (fl intL oz),Ob g4 (.cells #[.map (some mg1)] 177 (0,0)),Mp (Value.int .i64) rk8V okI mg1 MM,Ob X.g (.cells #[.map (some X.mg),.int .i64 ((A.n:Int)),.int .i64 ((A.pz:Int)),.int .i64 ((A.la:Int)),.string (A.seed),.bool A.ino,.slice X.hp A.had.length X.hc,.slice X.wp A.wish.length X.wc,.map (some X.bg)] 85 (0,0)),Rw 4 1 X.hp A.had.length X.hc (fl boolL A.had),Rw 40 2 X.wp A.wish.length X.wc (fl wisL A.wish),Mp (Value.int .i64) ptV okI X.mg (mtM X.ms),(Lst MtI X.ms),Mp plK ptV okP X.bg (bkM X.bs),(Lst BkI X.bs),Old w (fps [(XI X A)])]) (fun (ii,ro,co,oz,MM)=>A.n - ii) (0,none,0,[],(fun _=>none)) ⟨rfl,rfl,rfl,rfl,rfl,rfl,trivial⟩ ⟨(Nat.zero_le _),rfl,(fun y hy=>absurd hy List.not_mem_nil),(Nat.le_refl 0),((S.nilFl H8 3 1 intL).tk [0,1,2,3,4,5,6,7,8,9,10])⟩ ?_
 rintro ⟨ii,ro,co,oz,MM⟩ wq9 ⟨hq,hoz,hMM,hol,H10⟩
 refine g_wk [(0,_),(1,_),(5,_),(6,_),(12,_),(13,_)] ?_
 refine w_s ?_
 refine w_b ?_
 refine w_e ?_
 refine g_seq ?_
 by_cases hb11:((ii:Int):Int)<(A.n:Int)
 ·
  refine g_ct hb11 ?_
  refine w_ht ?_
  refine g_seq ?_
  refine w_bs ?_
  refine w_r2 ?_
  refine w_es ?_
  refine w_r2 ?_
  have H12:S wq9 [(XI X A),Rw 3 1 ro oz.length co (fl intL oz),Ob g4 (.cells #[.map (some mg1)] 177 (0,0)),Mp (Value.int .i64) rk8V okI mg1 MM,Old w (fps [(XI X A)])]:=S.big (L:=[_,_,_,_,_,_,_]) (H10.tk [3,4,5,6,7,8,9,0,1,2,10])
  refine l_of (s_cl (open_x X A j hX hI (ii:Int) (by omega) _ (H12.tk [0])) ?_)
  rintro _ wq13 ⟨rfl,H14⟩
  replace H14:S _ [_,_,_,_,_]:=H12.abI (new:=[_]) [0] H14 rfl
  have H15:S wq13 [Ob X.g (.cells #[.map (some X.mg),.int .i64 ((A.n:Int)),.int .i64 ((A.pz:Int)),.int .i64 ((A.la:Int)),.string (A.seed),.bool A.ino,.slice X.hp A.had.length X.hc,.slice X.wp A.wish.length X.wc,.map (some X.bg)] 85 (0,0)),Rw 4 1 X.hp A.had.length X.hc (fl boolL A.had),Rw 40 2 X.wp A.wish.length X.wc (fl wisL A.wish),Mp (Value.int .i64) ptV okI X.mg (mtM X.ms),(Lst MtI X.ms),Mp plK ptV okP X.bg (bkM X.bs),(Lst BkI X.bs),Rw 3 1 ro oz.length co (fl intL oz),Ob g4 (.cells #[.map (some mg1)] 177 (0,0)),Mp (Value.int .i64) rk8V okI mg1 MM,Old w (fps [(XI X A)])]:=S.unbig (L:=[_,_,_,_,_,_,_]) (H14.tk [0,1,2,3,4])
  refine b_ret rfl rfl ?_
  refine w_m ?_
  rcases Bool.eq_false_or_eq_true ((A.openB (ii:Int))) with hb16 | hb16
  ·
   iterate 3 refine w_g hb16 xm ?_
   refine l_of (s_call (wt1 rfl rfl rfl rfl hb16) (x_call' rfl rfl cl132) (hasM_x X A j hX hI q m hm (ii:Int) (by omega) _ (H15.tk [0,4])) ?_)
   rintro _ wq17 ⟨rfl,H18⟩
   replace H18:S _ [_,_,_,_,_,_,_,_,_,_,_]:=H15.abI (new:=[_,_]) [0,4] H18 rfl
   refine b_ret rfl rfl ?_
   refine w_v (v:=.bool ((bitAt m.fld (ii:Int)))) (x_pick_t rfl rfl hb16 rfl) ?_
   refine w_m ?_
   rcases Bool.eq_false_or_eq_true ((bitAt m.fld (ii:Int))) with hb19 | hb19
   ·
    refine w_g hb19 xm ?_
    refine w_g hb19 xn ?_
    refine w_g hb19 (xf 3) ?_
    refine w_g (v:=.bool m.ch) hb19 (x_loadC rfl rfl Tryz.underlying4 rfl (H18.mtCell (k:=1) rfl hm (c:=3) rfl)) ?_
    refine w_g (v:=.bool (!(m.ch))) hb19 (x_not (b:=m.ch) rfl rfl) ?_
    refine w_g hb19 xm ?_
    rcases Bool.eq_false_or_eq_true (m.ch) with hb20 | hb20
    ·
     refine w_g (neg_of hb20) xm ?_
     refine w_g (neg_of hb20) xn ?_
     refine w_g (neg_of hb20) (xf 1) ?_
     refine w_g (v:=.map (some m.am)) (neg_of hb20) (x_loadC rfl rfl Tryz.underlying86 rfl (H18.mtCell (k:=1) rfl hm (c:=1) rfl)) ?_
     refine w_g (neg_of hb20) xm ?_
     refine w_g (v:=.bool ((bitAt m.alw (ii:Int)))) (neg_of hb20) (ex_cast (x_lookup1 (x:=(ii:Int)) (intTy Tryz.underlying86 Tryz.underlying3) (H18.mtAlw (k:=1) rfl hm) 0 rfl rfl rfl rfl (⟨by omega,by omega⟩) ze4) (by rw [look_B,bMap_get (by omega)])) ?_
     refine w_g (v:=.bool ((bitAt m.alw (ii:Int)))) hb19 (x_pick_f rfl rfl (neg_of hb20) rfl) ?_
     refine w_v (v:=.bool ((bitAt m.alw (ii:Int)))) (x_pick_t rfl rfl hb19 rfl) ?_
     refine w_e ?_
     refine g_wk [(0,_),(1,_),(5,_),(6,_),(7,_),(12,_),(13,_),(39,_)] ?_
     rcases Bool.eq_false_or_eq_true ((bitAt m.alw (ii:Int))) with hb21 | hb21
     ·
      refine g_cond_t rfl hb21 ?_
      refine w_s ?_
      refine w_r2 ?_
      refine l_of (s_buildSlice H18 (wt0 rfl) rfl rfl rfl (vs:=[.int .i64 ((ii:Int))]) rfl Tryz.underlying59 sz3 ze3 rfl rfl (cells:=#[.int .i64 ((ii:Int))]) (by kernel_rfl) ?_)
      intro g22 wq23 H24
      have hln29a:=(H24.rr 8).lenL intE
      have hln29:(oz++[(ii:Int)]).length=oz.length+1:=by simp only [List.length_append,List.length_cons,List.length_nil] <;> omega
      refine l_of (s_appBn (m:=1) (l:=oz) (l2:=[(ii:Int)]) intE H24 8 (j0:=0) rfl rfl ⟨rfl,Nat.le_refl _⟩ (wt0 rfl) rfl rfl rfl rfl rfl rfl Tryz.underlying59 inf3 rfl (by decide) (by omega) ?_)
      intro p25 c26 wq27 H28
      refine w_a ?_
      refine w_e ?_
      refine g_any [] (fun wx=>S wx [Ob g4 (.cells #[.map (some mg1)] 177 (0,0))]) [6] (by kernel_rfl) H28 (fun wq30 H31=>?_)
      have cm1:=H31.mask [false,false,false,false,false,false,false,false,false,true,false,false]
      refine w_t 0 rfl cm1 (fun _ H=>xl H 0) ?_
      refine w_t 1 rfl cm1 (fun _ _=>xm) ?_
      refine w_t 2 rfl cm1 (fun _ _=>xm) ?_
      refine w_t 3 rfl cm1 (fun _ _=>xm) ?_
      refine w_t 4 rfl cm1 (fun _ _=>xm) ?_
      refine a_one (i:=5) (by kernel_rfl) rfl ?_
      have H32:S wq30 [(XI X A),Ob g22 (.cells #[.int .i64 ((ii:Int))] 3 (0,0)),Rw 3 1 p25 ((oz++[(ii:Int)]).length) c26 (fl intL (oz++[(ii:Int)])),Ob g4 (.cells #[.map (some mg1)] 177 (0,0)),Mp (Value.int .i64) rk8V okI mg1 MM,Old w (fps [(XI X A)])]:=S.big (L:=[_,_,_,_,_,_,_]) (H31.tk [1,3,4,5,2,6,7,0,8,9,10,11])
      refine s_cl (ranked_x X A j hX hI q m hm (ii:Int) ⟨by omega,by omega⟩ _ (H32.tk [0])) ?_
      rintro _ wq33 ⟨rfl,H34⟩
      replace H34:S _ [_,_,_,_,_,_]:=H32.abI (new:=[_]) [0] H34 rfl
      have H35:S wq33 [Ob X.g (.cells #[.map (some X.mg),.int .i64 ((A.n:Int)),.int .i64 ((A.pz:Int)),.int .i64 ((A.la:Int)),.string (A.seed),.bool A.ino,.slice X.hp A.had.length X.hc,.slice X.wp A.wish.length X.wc,.map (some X.bg)] 85 (0,0)),Rw 4 1 X.hp A.had.length X.hc (fl boolL A.had),Rw 40 2 X.wp A.wish.length X.wc (fl wisL A.wish),Mp (Value.int .i64) ptV okI X.mg (mtM X.ms),(Lst MtI X.ms),Mp plK ptV okP X.bg (bkM X.bs),(Lst BkI X.bs),Ob g22 (.cells #[.int .i64 ((ii:Int))] 3 (0,0)),Rw 3 1 p25 ((oz++[(ii:Int)]).length) c26 (fl intL (oz++[(ii:Int)])),Ob g4 (.cells #[.map (some mg1)] 177 (0,0)),Mp (Value.int .i64) rk8V okI mg1 MM,Old w (fps [(XI X A)])]:=S.unbig (L:=[_,_,_,_,_,_,_]) (H34.tk [0,1,2,3,4,5])
      refine b_ret rfl rfl ?_
      refine a_k (H35.mask [false,false,false,false,false,false,false,false,false,true,false,false]) ?_
      refine a_one (i:=6) (by kernel_rfl) rfl ?_
      refine s_mapUpdate (x:=(ii:Int)) (a:=(⟨(b10 (decide (0<A.du (ii:Int)))),(A.du (ii:Int)),(b10 (A.partB (ii:Int))),(b10 (bitAt m.sug (ii:Int))),(0 - A.lv (ii:Int)),(if A.ino=true then 0 else (A.countV (ii:Int):Int)),(if A.ino=true then 0 else drV A.seed (ii:Int)),(ii:Int)⟩:Rk8)) (intTy Tryz.underlying177 Tryz.underlying3) H35 10 (wt0 rfl) rfl rfl rfl rfl rfl rfl (⟨by omega,by omega⟩) ?_
      intro wq36 H37
      refine a_kt rfl ?_
      refine a_done (by kernel_rfl) ?_
      refine g_in ?_
      refine g_then ?_
      refine g_wk [(0,_),(1,_),(5,_),(6,_),(12,_),(13,_)] ?_
      refine g_region ?_
      refine w_b (v:=.int .i64 (((ii+1:Nat):Int))) (hb:=(b_add (by rw [w64 (by omega)]; omega))) ?_
      refine w_m ?_
      refine w_e ?_
      refine g_rd (i:=(ii,ro,co,oz,MM)) ((ii+1),p25,c26,(oz++[(ii:Int)]),(upM MM (ii:Int) (⟨(b10 (decide (0<A.du (ii:Int)))),(A.du (ii:Int)),(b10 (A.partB (ii:Int))),(b10 (bitAt m.sug (ii:Int))),(0 - A.lv (ii:Int)),(if A.ino=true then 0 else (A.countV (ii:Int):Int)),(if A.ino=true then 0 else drV A.seed (ii:Int)),(ii:Int)⟩:Rk8))) ⟨(by omega),(by rw [take_snocL (idxs_at (by omega)),List.filter_append,List.filter_cons,if_pos (show A.candB m.pe (ii:Int)=true from (by unfold PK.candB; simp [Mt.pe,hb11,hb16,hb19,hb20,hb21])),List.filter_nil,← hoz]),(fun y hy=>if e:y=(ii:Int) then (if_pos e).trans (by rw [e]; rfl) else (if_neg e).trans (hMM y ((List.mem_append.1 hy).resolve_right fun h=>e (List.mem_singleton.1 h)))),(by first | omega | (simp only [List.length_append,List.length_cons,List.length_nil]; omega)),(H37.tk [8,9,10,0,1,2,3,4,5,6,11])⟩
     ·
      refine g_cond_f rfl hb21 ?_
      refine g_skip ?_
      refine g_in ?_
      refine g_then ?_
      refine g_region ?_
      refine w_b (v:=.int .i64 (((ii+1:Nat):Int))) (hb:=(b_add (by rw [w64 (by omega)]; omega))) ?_
      refine w_m ?_
      refine w_e ?_
      refine g_rd (i:=(ii,ro,co,oz,MM)) ((ii+1),ro,co,oz,MM) ⟨(by omega),(by rw [take_snocL (idxs_at (by omega)),List.filter_append,List.filter_cons,if_neg (show ¬ A.candB m.pe (ii:Int)=true from (by unfold PK.candB; simp [Mt.pe,hb11,hb16,hb19,hb20,hb21])),List.filter_nil,List.append_nil,← hoz]),hMM,(by first | omega | (simp only [List.length_append,List.length_cons,List.length_nil]; omega)),(H18.tk [7,8,9,0,2,3,4,1,5,6,10])⟩
    ·
     iterate 6 refine w_n (neg_of hb20) ?_
     refine w_g (v:=.bool true) hb19 (x_pick_t rfl rfl (neg_of hb20) rfl) ?_
     refine w_v (v:=.bool true) (x_pick_t rfl rfl hb19 rfl) ?_
     refine w_e ?_
     refine g_wk [(0,_),(1,_),(5,_),(6,_),(7,_),(12,_),(13,_),(39,_)] ?_
     refine g_cond_t rfl rfl ?_
     refine w_s ?_
     refine w_r2 ?_
     refine l_of (s_buildSlice H18 (wt0 rfl) rfl rfl rfl (vs:=[.int .i64 ((ii:Int))]) rfl Tryz.underlying59 sz3 ze3 rfl rfl (cells:=#[.int .i64 ((ii:Int))]) (by kernel_rfl) ?_)
     intro g38 wq39 H40
     have hln45a:=(H40.rr 8).lenL intE
     have hln45:(oz++[(ii:Int)]).length=oz.length+1:=by simp only [List.length_append,List.length_cons,List.length_nil] <;> omega
     refine l_of (s_appBn (m:=1) (l:=oz) (l2:=[(ii:Int)]) intE H40 8 (j0:=0) rfl rfl ⟨rfl,Nat.le_refl _⟩ (wt0 rfl) rfl rfl rfl rfl rfl rfl Tryz.underlying59 inf3 rfl (by decide) (by omega) ?_)
     intro p41 c42 wq43 H44
     refine w_a ?_
     refine w_e ?_
     refine g_any [] (fun wx=>S wx [Ob g4 (.cells #[.map (some mg1)] 177 (0,0))]) [6] (by kernel_rfl) H44 (fun wq46 H47=>?_)
     have cm2:=H47.mask [false,false,false,false,false,false,false,false,false,true,false,false]
     refine w_t 0 rfl cm2 (fun _ H=>xl H 0) ?_
     refine w_t 1 rfl cm2 (fun _ _=>xm) ?_
     refine w_t 2 rfl cm2 (fun _ _=>xm) ?_
     refine w_t 3 rfl cm2 (fun _ _=>xm) ?_
     refine w_t 4 rfl cm2 (fun _ _=>xm) ?_
     refine a_one (i:=5) (by kernel_rfl) rfl ?_
     have H48:S wq46 [(XI X A),Ob g38 (.cells #[.int .i64 ((ii:Int))] 3 (0,0)),Rw 3 1 p41 ((oz++[(ii:Int)]).length) c42 (fl intL (oz++[(ii:Int)])),Ob g4 (.cells #[.map (some mg1)] 177 (0,0)),Mp (Value.int .i64) rk8V okI mg1 MM,Old w (fps [(XI X A)])]:=S.big (L:=[_,_,_,_,_,_,_]) (H47.tk [1,3,4,5,2,6,7,0,8,9,10,11])
     refine s_cl (ranked_x X A j hX hI q m hm (ii:Int) ⟨by omega,by omega⟩ _ (H48.tk [0])) ?_
     rintro _ wq49 ⟨rfl,H50⟩
     replace H50:S _ [_,_,_,_,_,_]:=H48.abI (new:=[_]) [0] H50 rfl
     have H51:S wq49 [Ob X.g (.cells #[.map (some X.mg),.int .i64 ((A.n:Int)),.int .i64 ((A.pz:Int)),.int .i64 ((A.la:Int)),.string (A.seed),.bool A.ino,.slice X.hp A.had.length X.hc,.slice X.wp A.wish.length X.wc,.map (some X.bg)] 85 (0,0)),Rw 4 1 X.hp A.had.length X.hc (fl boolL A.had),Rw 40 2 X.wp A.wish.length X.wc (fl wisL A.wish),Mp (Value.int .i64) ptV okI X.mg (mtM X.ms),(Lst MtI X.ms),Mp plK ptV okP X.bg (bkM X.bs),(Lst BkI X.bs),Ob g38 (.cells #[.int .i64 ((ii:Int))] 3 (0,0)),Rw 3 1 p41 ((oz++[(ii:Int)]).length) c42 (fl intL (oz++[(ii:Int)])),Ob g4 (.cells #[.map (some mg1)] 177 (0,0)),Mp (Value.int .i64) rk8V okI mg1 MM,Old w (fps [(XI X A)])]:=S.unbig (L:=[_,_,_,_,_,_,_]) (H50.tk [0,1,2,3,4,5])
     refine b_ret rfl rfl ?_
     refine a_k (H51.mask [false,false,false,false,false,false,false,false,false,true,false,false]) ?_
     refine a_one (i:=6) (by kernel_rfl) rfl ?_
     refine s_mapUpdate (x:=(ii:Int)) (a:=(⟨(b10 (decide (0<A.du (ii:Int)))),(A.du (ii:Int)),(b10 (A.partB (ii:Int))),(b10 (bitAt m.sug (ii:Int))),(0 - A.lv (ii:Int)),(if A.ino=true then 0 else (A.countV (ii:Int):Int)),(if A.ino=true then 0 else drV A.seed (ii:Int)),(ii:Int)⟩:Rk8)) (intTy Tryz.underlying177 Tryz.underlying3) H51 10 (wt0 rfl) rfl rfl rfl rfl rfl rfl (⟨by omega,by omega⟩) ?_
     intro wq52 H53
     refine a_kt rfl ?_
     refine a_done (by kernel_rfl) ?_
     refine g_in ?_
     refine g_then ?_
     refine g_wk [(0,_),(1,_),(5,_),(6,_),(12,_),(13,_)] ?_
     refine g_region ?_
     refine w_b (v:=.int .i64 (((ii+1:Nat):Int))) (hb:=(b_add (by rw [w64 (by omega)]; omega))) ?_
     refine w_m ?_
     refine w_e ?_
     refine g_rd (i:=(ii,ro,co,oz,MM)) ((ii+1),p41,c42,(oz++[(ii:Int)]),(upM MM (ii:Int) (⟨(b10 (decide (0<A.du (ii:Int)))),(A.du (ii:Int)),(b10 (A.partB (ii:Int))),(b10 (bitAt m.sug (ii:Int))),(0 - A.lv (ii:Int)),(if A.ino=true then 0 else (A.countV (ii:Int):Int)),(if A.ino=true then 0 else drV A.seed (ii:Int)),(ii:Int)⟩:Rk8))) ⟨(by omega),(by rw [take_snocL (idxs_at (by omega)),List.filter_append,List.filter_cons,if_pos (show A.candB m.pe (ii:Int)=true from (by unfold PK.candB; simp [Mt.pe,hb11,hb16,hb19,hb20])),List.filter_nil,← hoz]),(fun y hy=>if e:y=(ii:Int) then (if_pos e).trans (by rw [e]; rfl) else (if_neg e).trans (hMM y ((List.mem_append.1 hy).resolve_right fun h=>e (List.mem_singleton.1 h)))),(by first | omega | (simp only [List.length_append,List.length_cons,List.length_nil]; omega)),(H53.tk [8,9,10,0,1,2,3,4,5,6,11])⟩
   ·
    iterate 6 refine w_n hb19 ?_
    refine l_of (s_not (wn2 rfl rfl rfl rfl) rfl rfl ?_)
    refine l_of (s_not (wn2 rfl rfl rfl rfl) rfl rfl ?_)
    refine l_of (s_not (wn2 rfl rfl rfl rfl) rfl rfl ?_)
    refine l_of (s_not (wn2 rfl rfl rfl rfl) rfl rfl ?_)
    refine l_of (s_not (wn2 rfl rfl rfl rfl) rfl rfl ?_)
    refine l_of (s_not (wn2 rfl rfl rfl rfl) rfl rfl ?_)
    refine w_n hb19 ?_
    refine w_v (v:=.bool false) (x_pick_f rfl rfl hb19 rfl) ?_
    refine w_e ?_
    refine g_wk [(0,_),(1,_),(5,_),(6,_),(7,_),(12,_),(13,_),(39,_)] ?_
    refine g_cond_f rfl rfl ?_
    refine g_skip ?_
    refine g_in ?_
    refine g_then ?_
    refine g_region ?_
    refine w_b (v:=.int .i64 (((ii+1:Nat):Int))) (hb:=(b_add (by rw [w64 (by omega)]; omega))) ?_
    refine w_m ?_
    refine w_e ?_
    refine g_rd (i:=(ii,ro,co,oz,MM)) ((ii+1),ro,co,oz,MM) ⟨(by omega),(by rw [take_snocL (idxs_at (by omega)),List.filter_append,List.filter_cons,if_neg (show ¬ A.candB m.pe (ii:Int)=true from (by unfold PK.candB; simp [Mt.pe,hb11,hb16,hb19])),List.filter_nil,List.append_nil,← hoz]),hMM,(by first | omega | (simp only [List.length_append,List.length_cons,List.length_nil]; omega)),(H18.tk [7,8,9,0,2,3,4,1,5,6,10])⟩
  ·
   iterate 4 refine w_n hb16 ?_
   refine w_v (v:=.bool false) (x_pick_f rfl rfl hb16 rfl) ?_
   refine w_m ?_
   iterate 6 refine w_n rfl ?_
   refine l_of (s_not (wn2 rfl rfl rfl rfl) rfl rfl ?_)
   refine l_of (s_not (wn2 rfl rfl rfl rfl) rfl rfl ?_)
   refine l_of (s_not (wn2 rfl rfl rfl rfl) rfl rfl ?_)
   refine l_of (s_not (wn2 rfl rfl rfl rfl) rfl rfl ?_)
   refine l_of (s_not (wn2 rfl rfl rfl rfl) rfl rfl ?_)
   refine l_of (s_not (wn2 rfl rfl rfl rfl) rfl rfl ?_)
   refine w_n rfl ?_
   refine w_v (v:=.bool false) (x_pick_f rfl rfl rfl rfl) ?_
   refine w_e ?_
   refine g_wk [(0,_),(1,_),(5,_),(6,_),(7,_),(12,_),(13,_),(39,_)] ?_
   refine g_cond_f rfl rfl ?_
   refine g_skip ?_
   refine g_in ?_
   refine g_then ?_
   refine g_region ?_
   refine w_b (v:=.int .i64 (((ii+1:Nat):Int))) (hb:=(b_add (by rw [w64 (by omega)]; omega))) ?_
   refine w_m ?_
   refine w_e ?_
   refine g_rd (i:=(ii,ro,co,oz,MM)) ((ii+1),ro,co,oz,MM) ⟨(by omega),(by rw [take_snocL (idxs_at (by omega)),List.filter_append,List.filter_cons,if_neg (show ¬ A.candB m.pe (ii:Int)=true from (by unfold PK.candB; simp [Mt.pe,hb11,hb16])),List.filter_nil,List.append_nil,← hoz]),hMM,(by first | omega | (simp only [List.length_append,List.length_cons,List.length_nil]; omega)),(H15.tk [7,8,9,0,1,2,3,4,5,6,10])⟩
 ·
  refine g_cf hb11 ?_
  refine g_exit ?_
  iterate 2 refine g_then_exit ?_
  refine g_in_hit ?_
  refine g_then ?_
  refine w_s ?_
  refine w_m ?_
  refine w_v (v:=.func (.func 156) #[] #[.pointer (some ⟨g4,0,none⟩)]) (x_makeFunc rfl rfl rfl) ?_
  have hq9:ii=A.n:=by omega
  have hoc:oz=A.candL m.pe:=by rw [hoz,hq9,List.take_of_length_le (by rw [idxs_len]; exact Nat.le_refl _)]; rfl
  have H54:S wq9 [(Big [Ob g4 (.cells #[.map (some mg1)] 177 (0,0)),Mp (Value.int .i64) rk8V okI mg1 MM]),Rw 3 1 ro oz.length co (fl intL oz),Ob X.g (.cells #[.map (some X.mg),.int .i64 ((A.n:Int)),.int .i64 ((A.pz:Int)),.int .i64 ((A.la:Int)),.string (A.seed),.bool A.ino,.slice X.hp A.had.length X.hc,.slice X.wp A.wish.length X.wc,.map (some X.bg)] 85 (0,0)),Rw 4 1 X.hp A.had.length X.hc (fl boolL A.had),Rw 40 2 X.wp A.wish.length X.wc (fl wisL A.wish),Mp (Value.int .i64) ptV okI X.mg (mtM X.ms),(Lst MtI X.ms),Mp plK ptV okP X.bg (bkM X.bs),(Lst BkI X.bs),Old w (fps [(XI X A)])]:=S.big (L:=[Ob g4 (.cells #[.map (some mg1)] 177 (0,0)),Mp (Value.int .i64) rk8V okI mg1 MM]) (H10.tk [1,2,0,3,4,5,6,7,8,9,10])
  refine l_of (s_cl (sortCand (A:=A) (p:=m.pe) g4 mg1 MM oz hoc hMM hn24 ro co _ (H54.tk [1,0])) ?_)
  rintro _ wq55 ⟨rfl,H56⟩
  replace H56:S _ [_,_,_,_,_,_,_,_,_,_]:=H54.abI (new:=[_,_]) [1,0] H56 rfl
  have H57:S wq55 [Ob g4 (.cells #[.map (some mg1)] 177 (0,0)),Mp (Value.int .i64) rk8V okI mg1 MM,Rw 3 1 ro oz.length co (fl intL (A.cand m.pe)),Ob X.g (.cells #[.map (some X.mg),.int .i64 ((A.n:Int)),.int .i64 ((A.pz:Int)),.int .i64 ((A.la:Int)),.string (A.seed),.bool A.ino,.slice X.hp A.had.length X.hc,.slice X.wp A.wish.length X.wc,.map (some X.bg)] 85 (0,0)),Rw 4 1 X.hp A.had.length X.hc (fl boolL A.had),Rw 40 2 X.wp A.wish.length X.wc (fl wisL A.wish),Mp (Value.int .i64) ptV okI X.mg (mtM X.ms),(Lst MtI X.ms),Mp plK ptV okP X.bg (bkM X.bs),(Lst BkI X.bs),Old w (fps [(XI X A)])]:=S.unbig (H56.tk [1,0,2,3,4,5,6,7,8,9])
  refine b_ret rfl rfl ?_
  refine w_es ?_
  refine w_r2 ?_
  refine w_e ?_
  refine g_ret ?_
  refine fin_r [.tmp 4] [.slice ro oz.length co] ?_
  have hl9:(A.cand m.pe).length=oz.length:=by rw [hoc]; exact srt_len _ _ _
  exact ⟨ro,co,by rw [hl9]; rfl,by rw [hl9]; exact ((S.big (L:=[_,_,_,_,_,_,_]) (H57.tk [3,4,5,6,7,8,9,2,10])).tk [1,0,2])⟩
end Go.Proofs.YthmmfhdpkddniaaGreatDoor
