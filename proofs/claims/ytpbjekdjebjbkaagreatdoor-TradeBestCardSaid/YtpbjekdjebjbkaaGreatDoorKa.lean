import Derived.Test.YtpbjekdjebjbkaaGreatDoorFm
import Derived.Test.YtpbjekdjebjbkaaGreatDoorFu
import Derived.Test.YtpbjekdjebjbkaaGreatDoorFj
import Derived.Test.YtpbjekdjebjbkaaGreatDoorSel
import Derived.Test.YtpbjekdjebjbkaaGreatDoorSc
set_option maxRecDepth 20000
set_option maxHeartbeats 4000000
set_option linter.unusedSimpArgs false
set_option linter.unusedVariables false
namespace Go.Proofs.YtpbjekdjebjbkaaGreatDoor
open Go.RowKit
theorem inf111:infO Tryz.prog 111=some (some (.agg #[.int .i64 0,.bool false,.bool false,.int .i64 0,.int .i64 0,.int .i64 0,.int .i64 0,.bool false,.bool false,.bool false]),10,56):=by kernel_rfl
theorem sz3:szO Tryz.prog 3=some 1:=by kernel_rfl
theorem ze111:zeO Tryz.prog 111=some (.agg #[.int .i64 0,.bool false,.bool false,.int .i64 0,.int .i64 0,.int .i64 0,.int .i64 0,.bool false,.bool false,.bool false]):=by kernel_rfl
structure Rv where
 id:Int
 intr:Bool
 chk:Bool
 frm:Int
 to:Int
 lt:Int
 since:Int
 snb:Bool
 now:Bool
 seed:Bool
def rvL (x:Rv):List Value:=[.int .i64 x.id,.bool x.intr,.bool x.chk,.int .i64 x.frm,.int .i64 x.to,.int .i64 x.lt,.int .i64 x.since,.bool x.snb,.bool x.now,.bool x.seed]
abbrev Rv.v (x:Rv):Value:=.agg #[.int .i64 x.id,.bool x.intr,.bool x.chk,.int .i64 x.frm,.int .i64 x.to,.int .i64 x.lt,.int .i64 x.since,.bool x.snb,.bool x.now,.bool x.seed]
theorem rvE:Enc 10 rvL:=⟨by decide,fun _=>rfl,fun _=>rfl⟩
def Rv.zero:Rv:=⟨0,false,false,0,0,0,0,false,false,false⟩
theorem indexF_r (l:List Rv) (p:Option Addr) (n c:Nat) (hn:n≤9223372036854775807) (q:Rv→Bool) (gc:Nat) (fi ca:Array Value) (X:Item) (D:Rv→Prop) (hq:FunC Tryz.prog gc fi ca X (fun x:Rv=>[x.v]) (fun x=>.bool (q x)) D) (hD:∀ x∈l,D x)  (w:World) (HS:S w [X]) (hr:Reads w p n c 10 (fl rvL l)) (hap:Apart w X p n c 10 (fl rvL l)):Calls Tryz.prog 165 #[.slice p n c,.func (.func gc) fi ca] w fun e w'=>e=.returned (.int .i64 (ixI q l))∧S w' ([X]++[Old w (fps [X])]):=by
 have H0:=HS.beginI
 have hn2:=hr.lenL rvE
 refine enter 19 Tryz.func165 rfl rfl rfl ?_
 refine g_wk [(0,_),(1,_)] ?_
 refine w_s ?_
 refine w_k9 ?_
 refine g_loop (ι:=Nat) (fun i=>[(0,.slice p n c),(1,.func (.func gc) fi ca),(7,.int .i64 ((n:Int))),(8,.int .i64 ((i:Int)))]) (fun i wx=>(i≤n)∧(∀ y∈l.take i,q y=false)∧S wx [X,Old w (fps [X])]) (fun i=>n - i) (0) ⟨rfl,rfl,rfl,rfl,trivial⟩ ⟨Nat.zero_le _,(fun y hy=>by simp at hy),H0⟩ ?_
 rintro i wq1 ⟨hi,hno,H2⟩
 refine g_wk [(0,_),(1,_),(7,_),(8,_)] ?_
 refine w_s ?_
 refine w_k2 ?_
 refine g_seq ?_
 by_cases hb3:((i:Int):Int)<(n:Int)
 ·
  refine g_ct hb3 ?_
  refine w_k12 ?_
  refine w_v (x_i i ((hap _ (H2.tk [0,1])))) ?_
  obtain ⟨x4,hx4⟩:=((hap _ (H2.tk [0,1]))).exL rvE i
  refine w_v (x_loadRA (vs:=rvL x4) i ((hap _ (H2.tk [0,1]))) (by omega) rfl rfl Tryz.underlying111 rfl sz111 (by rfl) (rvE.flAt hx4)) ?_
  refine l_of (s_call (wt0 rfl) (x_call rfl rfl rfl hq.ok) (hq.does x4 (hD _ (List.mem_of_getElem? hx4)) _ (H2.tk [0])) ?_)
  rintro _ wq5 ⟨rfl,H6⟩
  replace H6:S _ [_,_]:=H2.abI (new:=[_]) [0] H6 rfl
  refine b_ret rfl rfl ?_
  refine w_e ?_
  rcases Bool.eq_false_or_eq_true (q x4) with hb7 | hb7
  ·
   refine g_cond_t rfl hb7 ?_
   refine w_k10 ?_
   refine fin_r [.tmp 4] [.int .i64 ((i:Int))] ?_
   exact ⟨by rw [ixI_at hx4 hb7 hno]; rfl,H6.tk [0,1]⟩
  ·
   refine g_cond_f rfl hb7 ?_
   refine w_k4 ?_
   refine w_i i ?_
   refine w_k2 ?_
   refine g_rd (i:=(i)) ((i+1)) ⟨by omega,(no_take hno hx4 hb7),H6⟩
 ·
  refine g_cf hb3 ?_
  refine w_k9 ?_
  refine fin_r [.tmp 4] [.int .i64 (-1)] ?_
  rw [List.take_of_length_le (by omega)] at hno
  exact ⟨by rw [ixI_no hno]; rfl,H2.tk [0,1]⟩
theorem contF_r (l:List Rv) (p:Option Addr) (n c:Nat) (hn:n≤9223372036854775807) (q:Rv→Bool) (gc:Nat) (fi ca:Array Value) (X:Item) (D:Rv→Prop) (hq:FunC Tryz.prog gc fi ca X (fun x:Rv=>[x.v]) (fun x=>.bool (q x)) D) (hD:∀ x∈l,D x)  (w:World) (HS:S w [X]) (hr:Reads w p n c 10 (fl rvL l)) (hap:Apart w X p n c 10 (fl rvL l)):Calls Tryz.prog 171 #[.slice p n c,.func (.func gc) fi ca] w fun e w'=>e=.returned (.bool (l.any q))∧S w' ([X]++[Old w (fps [X])]):=by
 have H0:=HS.beginI
 refine enter 9 Tryz.func171 rfl rfl rfl ?_
 refine g_wk [(0,_),(1,_)] ?_
 refine w_s ?_
 refine w_k5 ?_
 refine l_of (s_cl (indexF_r l p n c hn q gc fi ca X D hq hD _ (H0.tk [0]) (hap _ (H0.tk [0,1])) (hap.nxt (H0.tk [0,1]))) ?_)
 rintro _ wq1 ⟨rfl,H2⟩
 replace H2:S _ [_,_]:=H0.abI (new:=[_]) [0] H2 rfl
 refine b_ret rfl rfl ?_
 refine w_k4 ?_
 refine fin_r [.tmp 4] [.bool (decide ((0:Int)≤(ixI q l)))] ?_
 exact ⟨by rw [← ixI_any]; rfl,H2.tk [0,1]⟩
theorem indexF_i (l:List Int) (p:Option Addr) (n c:Nat) (hn:n≤9223372036854775807) (q:Int→Bool) (gc:Nat) (fi ca:Array Value) (X:Item) (D:Int→Prop) (hq:FunC Tryz.prog gc fi ca X (fun x:Int=>[.int .i64 x]) (fun x=>.bool (q x)) D) (hD:∀ x∈l,D x)  (w:World) (HS:S w [X]) (hr:Reads w p n c 1 (fl intL l)) (hap:Apart w X p n c 1 (fl intL l)):Calls Tryz.prog 206 #[.slice p n c,.func (.func gc) fi ca] w fun e w'=>e=.returned (.int .i64 (ixI q l))∧S w' ([X]++[Old w (fps [X])]):=by
 have H0:=HS.beginI
 have hn2:=hr.lenL intE
 refine enter 19 Tryz.func206 rfl rfl rfl ?_
 refine g_wk [(0,_),(1,_)] ?_
 refine w_s ?_
 refine w_k9 ?_
 refine g_loop (ι:=Nat) (fun i=>[(0,.slice p n c),(1,.func (.func gc) fi ca),(7,.int .i64 ((n:Int))),(8,.int .i64 ((i:Int)))]) (fun i wx=>(i≤n)∧(∀ y∈l.take i,q y=false)∧S wx [X,Old w (fps [X])]) (fun i=>n - i) (0) ⟨rfl,rfl,rfl,rfl,trivial⟩ ⟨Nat.zero_le _,(fun y hy=>by simp at hy),H0⟩ ?_
 rintro i wq1 ⟨hi,hno,H2⟩
 refine g_wk [(0,_),(1,_),(7,_),(8,_)] ?_
 refine w_s ?_
 refine w_k2 ?_
 refine g_seq ?_
 by_cases hb3:((i:Int):Int)<(n:Int)
 ·
  refine g_ct hb3 ?_
  refine w_k12 ?_
  refine w_v (x_i i ((hap _ (H2.tk [0,1])))) ?_
  obtain ⟨x4,hx4⟩:=((hap _ (H2.tk [0,1]))).exL intE i
  refine w_v (x_r i ((hap _ (H2.tk [0,1]))) (intE.flAt1 hx4 rfl)) ?_
  refine l_of (s_call (wt0 rfl) (x_call rfl rfl rfl hq.ok) (hq.does x4 (hD _ (List.mem_of_getElem? hx4)) _ (H2.tk [0])) ?_)
  rintro _ wq5 ⟨rfl,H6⟩
  replace H6:S _ [_,_]:=H2.abI (new:=[_]) [0] H6 rfl
  refine b_ret rfl rfl ?_
  refine w_e ?_
  rcases Bool.eq_false_or_eq_true (q x4) with hb7 | hb7
  ·
   refine g_cond_t rfl hb7 ?_
   refine w_k10 ?_
   refine fin_r [.tmp 4] [.int .i64 ((i:Int))] ?_
   exact ⟨by rw [ixI_at hx4 hb7 hno]; rfl,H6.tk [0,1]⟩
  ·
   refine g_cond_f rfl hb7 ?_
   refine w_k4 ?_
   refine w_i i ?_
   refine w_k2 ?_
   refine g_rd (i:=(i)) ((i+1)) ⟨by omega,(no_take hno hx4 hb7),H6⟩
 ·
  refine g_cf hb3 ?_
  refine w_k9 ?_
  refine fin_r [.tmp 4] [.int .i64 (-1)] ?_
  rw [List.take_of_length_le (by omega)] at hno
  exact ⟨by rw [ixI_no hno]; rfl,H2.tk [0,1]⟩
theorem clone_r_s (l:List Rv) (a:Addr) (c:Nat) (hm:l.length≤1099511627776)  (w:World) (hr:Reads w (some a) l.length c 10 (fl rvL l)):Calls Tryz.prog 133 #[.slice (some a) l.length c] w fun e w'=>∃ p' c',e=.returned (.slice p' l.length c')∧S w' ([Rw 111 10 p' l.length c' (fl rvL l)]++[Old w no]):=by
 have H0:=S.old w
 refine enter 8 Tryz.func133 rfl rfl rfl ?_
 refine g_wk [(0,_)] ?_
 refine w_s ?_
 refine w_k5 ?_
 refine w_b (v:=.bool false) (hb:=(b_eqN (r:=false) Tryz.underlying109 rfl)) ?_
 refine w_e ?_
 refine g_cond_f rfl rfl ?_
 refine w_k3 ?_
 refine l_of (s_buildSlice0 H0 (wt0 rfl) rfl rfl rfl Tryz.underlying109 sz111 ?_)
 intro g1 wq2 H3
 replace H3:S wq2 [Rw 111 10 (some ⟨g1,0,none⟩) 0 0 (fl rvL ([]:List Rv)),Old w no]:=S.obFl rvE H3 (k:=0) rfl rfl (by decide) rfl
 refine w_m ?_
 have hln8a:=(H3.rr 0).lenL rvE
 have hln8b:=(H3.exReads (k:=1) rfl hr (fun _ _ _ h=>h)).lenL rvE
 have hln8:l.length=0+l.length:=by omega
 refine l_of (s_appLn (l:=[]) (l2:=l) rvE H3 0 (wt0 rfl) rfl rfl rfl rfl rfl rfl Tryz.underlying109 inf111 rfl (by decide) (H3.exReads (k:=1) rfl hr (fun _ _ _ h=>h)) (by omega) ?_)
 intro p4 c5 wq6 H7
 rw [List.nil_append] at H7 ⊢
 replace H7:S wq6 [Rw 111 10 p4 l.length c5 (fl rvL l),Old w no]:=H7
 refine w_k3 ?_
 refine fin_r [.tmp 2] [.slice p4 l.length c5] ?_
 exact ⟨_,_,rfl,H7⟩
theorem clone_r_n (n c:Nat)  (w:World):Calls Tryz.prog 133 #[.slice none n c] w fun e w'=>∃ p' c',e=.returned (.slice p' 0 c')∧S w' ([Rw 111 10 p' 0 c' (fl rvL [])]++[Old w no]):=by
 have H0:=S.old w
 refine enter 8 Tryz.func133 rfl rfl rfl ?_
 refine g_wk [(0,_)] ?_
 refine w_s ?_
 refine w_k5 ?_
 refine w_b (v:=.bool true) (hb:=(b_eqN (r:=true) Tryz.underlying109 rfl)) ?_
 refine w_e ?_
 refine g_cond_t rfl rfl ?_
 refine w_k5 ?_
 refine fin_r [.tmp 2] [.slice none 0 0] ?_
 exact ⟨none,0,rfl,H0.nilFl 111 10 rvL⟩
theorem clone_r (l:List Rv) (p:Option Addr) (n c:Nat) (hm:l.length≤1099511627776) (w:World) (hr:Reads w p n c 10 (fl rvL l)):Calls Tryz.prog 133 #[.slice p n c] w fun e w'=>∃ p' c',e=.returned (.slice p' l.length c')∧S w' ([Rw 111 10 p' l.length c' (fl rvL l)]++[Old w no]):=by
 have hn:=hr.lenL rvE
 subst hn
 cases p with
 | some a=>exact clone_r_s l a c hm w hr
 | none =>
   have h0:l.length=0:=by
     refine Decidable.byContradiction fun hn=>?_
     obtain ⟨a,ha,_⟩:=hr.2.2 (by omega)
     cases ha
   obtain rfl:l=[]:=List.length_eq_zero_iff.1 h0
   exact clone_r_n 0 c w
theorem delF_r (l:List Rv) (p:Option Addr) (c:Nat) (hl:l.length≤9223372036854775807) (q:Rv→Bool) (gc:Nat) (fi ca:Array Value) (X:Item) (D:Rv→Prop) (hq:FunC Tryz.prog gc fi ca X (fun x:Rv=>[x.v]) (fun x=>.bool (q x)) D) (hD:∀ x∈l,D x)  (w:World) (HS:S w [X,Rw 111 10 p l.length c (fl rvL l)]):Calls Tryz.prog 146 #[.slice p l.length c,.func (.func gc) fi ca] w fun e w'=>e=.returned (.slice p (keepS q l).length c)∧S w' ([X,Rw 111 10 p ((keepS q l).length) c (fl rvL (keepS q l))]++[Old w (fps [X,Rw 111 10 p l.length c (fl rvL l)])]):=by
 have H0:=HS.beginI
 refine enter 42 Tryz.func146 rfl rfl rfl ?_
 refine g_wk [(0,_),(1,_)] ?_
 refine w_s ?_
 refine w_k5 ?_
 refine l_of (s_cl (indexF_r l p l.length c hl q gc fi ca X D hq hD _ (H0.tk [0]) (H0.rr 1) (H0.apartRw (i:=1) (k:=0) rfl rfl (by decide))) ?_)
 rintro _ wq1 ⟨rfl,H2⟩
 replace H2:S _ [_,_,_]:=H0.abI (new:=[_]) [0] H2 rfl
 refine b_ret rfl rfl ?_
 refine w_k7 ?_
 by_cases hb3:((ixI q l):Int)=-1
 ·
  refine g_ct hb3 ?_
  refine w_k6 ?_
  refine fin_r [.tmp 4] [.slice p l.length c] ?_
  have hd:keepS q l=l:=keep_all (fun y hy=>by cases h9:q y with | false=>rfl | true=>exact absurd (hb3) (by unfold ixI; rw [if_pos (List.any_eq_true.2 ⟨y,hy,h9⟩)]; omega))
  exact ⟨by rw [hd]; rfl,by rw [hd]; exact H2.tk [0,1,2]⟩
 ·
  obtain ⟨i0,x0,hix,hx0,hq0,hno⟩:=ixI_some hb3
  have hi0:=(List.getElem?_eq_some_iff.1 hx0).1
  refine g_cf hb3 ?_
  refine w_k4 ?_
  rw [hix]
  refine w_m ?_
  refine w_b (v:=.int .i64 (((i0+1:Nat):Int))) (hb:=(b_addN (a:=i0) (b:=1) (by omega))) ?_
  refine w_k3 ?_
  refine g_loop (ι:=Nat × Nat × List Rv) (fun (i,j,cur)=>[(0,.slice p l.length c),(1,.func (.func gc) fi ca),(5,.int .i64 ((i:Int))),(6,.int .i64 ((j:Int)))]) (fun (i,j,cur) wx=>(cur.length=l.length)∧(i<j)∧(j≤l.length)∧(cur.take i=keepS q (l.take j))∧(cur.drop j=l.drop j)∧S wx [X,Rw 111 10 p l.length c (fl rvL cur),Old w (fps [X,Rw 111 10 p l.length c (fl rvL l)])]) (fun (i,j,cur)=>l.length - j) (i0,(i0+1),l) ⟨rfl,rfl,rfl,rfl,trivial⟩ ⟨rfl,Nat.lt_succ_self _,(by omega),(keep_first hx0 hq0 hno).symm,rfl,(H2.tk [0,1,2])⟩ ?_
  rintro ⟨i,j,cur⟩ wq4 ⟨hcl,hij,hj,hp,hs,H5⟩
  refine g_wk [(0,_),(1,_),(5,_),(6,_)] ?_
  refine g_seq ?_
  refine w_k6 ?_
  by_cases hb6:((j:Int):Int)<(l.length:Int)
  ·
   refine g_ct hb6 ?_
   refine w_k7 ?_
   refine w_v (x_i j (H5.rr 1)) ?_
   obtain ⟨x7,hx7⟩:=(H5.rr 1).exL rvE j
   have hmc:∀ y,cur[j]?=some y→y∈l:=fun y hy=>List.mem_of_getElem? (by rw [← drop_at hs]; exact hy)
   have hDc:∀ x∈l,D x:=hD
   refine w_v (x_loadRA (vs:=rvL x7) j (H5.rr 1) (by omega) rfl rfl Tryz.underlying111 rfl sz111 (by rfl) (rvE.flAt hx7)) ?_
   refine l_of (s_alloc H5 (wt0 rfl) rfl rfl rfl ze111 ?_)
   intro g8 wq9 H10
   refine l_of (w_st #[.int .i64 (x7.id),.bool x7.intr,.bool x7.chk,.int .i64 (x7.frm),.int .i64 (x7.to),.int .i64 (x7.lt),.int .i64 (x7.since),.bool x7.snb,.bool x7.now,.bool x7.seed] H10 0 ?_)
   intro wq11 H12
   refine w_k3 ?_
   refine w_v (v:=.agg #[.int .i64 (x7.id),.bool x7.intr,.bool x7.chk,.int .i64 (x7.frm),.int .i64 (x7.to),.int .i64 (x7.lt),.int .i64 (x7.since),.bool x7.snb,.bool x7.now,.bool x7.seed]) (x_loadA H12 0 rfl rfl Tryz.underlying111 rfl sz111 rfl rfl rfl) ?_
   refine l_of (s_call (wt0 rfl) (x_call rfl rfl rfl hq.ok) (hq.does x7 (hDc x7 (by first | exact List.mem_of_getElem? hx7 | exact hmc _ hx7)) _ (H12.tk [1])) ?_)
   rintro _ wq13 ⟨rfl,H14⟩
   replace H14:S _ [_,_,_,_]:=H12.abI (new:=[_]) [1] H14 rfl
   refine b_ret rfl rfl ?_
   refine w_v (x_not (b:=q x7) rfl rfl) ?_
   refine w_e ?_
   rcases Bool.eq_false_or_eq_true (q x7) with hb15 | hb15
   ·
    refine g_cond_f rfl (neg_of hb15) ?_
    refine w_k5 ?_
    refine w_b (v:=.int .i64 (((j+1:Nat):Int))) (hb:=(b_addN (a:=j) (b:=1) (by omega))) ?_
    refine w_k2 ?_
    refine g_rd (i:=(i,j,cur)) (i,(j+1),cur) ⟨hcl,by omega,by omega,(del_skip hp hs hx7 hb15).1,(del_skip hp hs hx7 hb15).2,(H14.tk [0,2,3])⟩
   ·
    refine g_cond_t rfl (neg_of hb15) ?_
    refine w_k3 ?_
    refine w_v (v:=.agg #[.int .i64 (x7.id),.bool x7.intr,.bool x7.chk,.int .i64 (x7.frm),.int .i64 (x7.to),.int .i64 (x7.lt),.int .i64 (x7.since),.bool x7.snb,.bool x7.now,.bool x7.seed]) (x_loadA H14 1 rfl rfl Tryz.underlying111 rfl sz111 rfl rfl rfl) ?_
    refine w_v (x_i i (H14.rr 2)) ?_
    refine l_of (s_stoL (j:=i) rvE x7 H14 2 (wt0 rfl) rfl rfl rfl rfl rfl rfl sz111 (by omega) ?_)
    intro wq16 H17
    refine w_k3 ?_
    refine w_b (v:=.int .i64 (((i+1:Nat):Int))) (hb:=(b_addN (a:=i) (b:=1) (by omega))) ?_
    refine w_k6 ?_
    refine w_b (v:=.int .i64 (((j+1:Nat):Int))) (hb:=(b_addN (a:=j) (b:=1) (by omega))) ?_
    refine w_k2 ?_
    refine g_rd (i:=(i,j,cur)) ((i+1),(j+1),(cur.set i x7)) ⟨(by rw [List.length_set]; exact hcl),by omega,by omega,(del_put hcl hij hp hs hx7 hb15).1,(del_put hcl hij hp hs hx7 hb15).2,(H17.tk [0,2,3])⟩
  ·
   refine g_cf hb6 ?_
   refine w_k8 ?_
   refine w_v (v:=.slice (cutP p i c 10) (l.length - i) (c - i)) (x_cut i rfl rfl rfl Tryz.underlying109 sz111 (by omega)) ?_
   refine l_of (s_clear (i:=i) H5 1 (wt0 rfl) rfl rfl rfl rfl Tryz.underlying109 ze111 rfl rfl (by decide) (by omega) ?_)
   intro wq18 H19
   replace H19:S wq18 [X,Rw 111 10 p i c (fl rvL (cur.take i)),Old w (fps [X,Rw 111 10 p l.length c (fl rvL l)])]:=by have h9:=H19; rw [← rvE.flTake]; exact h9
   refine w_k4 ?_
   have hic:=(H19.rr 1).2.1
   refine w_v (v:=.slice p i c) (ex_cast (x_sliceH i rfl rfl rfl Tryz.underlying109 sz111 ⟨rfl,hic⟩) (by rw [cutP0])) ?_
   refine w_k3 ?_
   refine fin_r [.tmp 4] [.slice p i c] ?_
   have hjl:j=l.length:=by omega
   have hd:keepS q l=cur.take i:=by rw [hp,hjl,List.take_length]
   have hdl:(cur.take i).length=i:=by rw [List.length_take]; omega
   exact ⟨by rw [hd,hdl]; rfl,by rw [hd,hdl]; exact H19.tk [0,1,2]⟩
end Go.Proofs.YtpbjekdjebjbkaaGreatDoor
