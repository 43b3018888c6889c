import Derived.Test.YthmmfhdpkddniaaGreatDoorFm
import Derived.Test.YthmmfhdpkddniaaGreatDoorXd
import Derived.Test.YthmmfhdpkddniaaGreatDoorOp
import Derived.Test.YthmmfhdpkddniaaGreatDoorHb
import Derived.Test.YthmmfhdpkddniaaGreatDoorH0
set_option maxRecDepth 20000
set_option maxHeartbeats 4000000
set_option linter.unusedSimpArgs false
set_option linter.unusedVariables false
namespace Go.Proofs.YthmmfhdpkddniaaGreatDoor
open Go.RowKit
section
variable (l:List Int) (p:Option Addr) (n c:Nat)
theorem ix_i (x:Int) (hn:n≤9223372036854775807)  (w:World) (hr:Reads w p n c 1 (fl intL l)):Calls Tryz.prog 110 #[.slice p n c,.int .i64 x] w fun e w'=>∃ k:Int,e=.returned (.int .i64 k)∧(0≤k ↔ x∈l)∧S w' [Old w no]:=by
 have H0:=S.old w
 have hnl:=hr.lenL intE
 refine enter 19 Tryz.func110 rfl rfl rfl ?_
 refine g_wk [(0,_),(1,_)] ?_
 refine w_s ?_
 refine w_k9 ?_
 refine g_loop (ι:=Nat) (fun i=>[(0,.slice p n c),(1,.int .i64 x),(7,.int .i64 ((n:Int))),(8,.int .i64 ((i:Int)))]) (fun i wx=>(i≤n)∧(∀ y∈l.take i,¬ x=y)∧S wx [Old w no]) (fun i=>n - i) (0) ⟨rfl,rfl,rfl,rfl,trivial⟩ ⟨Nat.zero_le _,(fun y hy=>by simp at hy),H0⟩ ?_
 rintro i wq1 ⟨hi,hno,H2⟩
 refine g_wk [(0,_),(1,_),(7,_),(8,_)] ?_
 refine w_s ?_
 refine w_k2 ?_
 refine g_seq ?_
 by_cases hb3:((i:Int):Int)<(n:Int)
 ·
  refine g_ct hb3 ?_
  refine w_k12 ?_
  refine w_v (x_i i (H2.exReads (k:=0) rfl hr (fun _ _ _ h=>h))) ?_
  obtain ⟨x4,hx4⟩:=(H2.exReads (k:=0) rfl hr (fun _ _ _ h=>h)).exL intE i
  refine w_v (x_r i (H2.exReads (k:=0) rfl hr (fun _ _ _ h=>h)) (intE.flAt1 hx4 rfl)) ?_
  refine w_k2 ?_
  by_cases hb5:(x:Int)=x4
  ·
   refine g_ct hb5 ?_
   refine w_k4 ?_
   refine g_wk [(4,_)] ?_
   refine g_ret ?_
   refine w_k5 ?_
   refine fin_r [.tmp 4] [.int .i64 ((i:Int))] ?_
   exact ⟨_,rfl,⟨fun _=>by rw [hb5]; exact at_mem hx4,fun _=>by omega⟩,H2.mask [true]⟩
  ·
   refine g_cf hb5 ?_
   refine w_k4 ?_
   refine w_i i ?_
   refine w_k2 ?_
   refine g_rd (i:=(i)) ((i+1)) ⟨by omega,(no_takeP hno hx4 hb5),H2⟩
 ·
  refine g_cf hb3 ?_
  refine w_k9 ?_
  refine fin_r [.tmp 4] [.int .i64 (-1)] ?_
  rw [List.take_of_length_le (by omega)] at hno
  exact ⟨_,rfl,⟨fun h=>absurd h (by decide),fun h=>absurd rfl (hno x h)⟩,H2.mask [true]⟩
theorem cont_i (x:Int) (hn:n≤9223372036854775807)  (w:World) (hr:Reads w p n c 1 (fl intL l)):Calls Tryz.prog 51 #[.slice p n c,.int .i64 x] w fun e w'=>e=.returned (.bool (decide (x∈l)))∧S w' [Old w no]:=by
 have H0:=S.old w
 refine enter 9 Tryz.func51 rfl rfl rfl ?_
 refine g_wk [(0,_),(1,_)] ?_
 refine w_s ?_
 refine w_k5 ?_
 refine l_of (s_cl (ix_i l p n c x hn _ (H0.exReads (k:=0) rfl hr (fun _ _ _ h=>h))) ?_)
 rintro _ wq1 ⟨k,rfl,hk,H2⟩
 replace H2:=H0.ab0 H2
 refine b_ret rfl rfl ?_
 refine w_k4 ?_
 refine fin_r [.tmp 4] [.bool (decide ((0:Int)≤k))] ?_
 exact ⟨by rw [decide_eq_decide.2 hk]; rfl,H2.mask [true]⟩
theorem indexF_i (hn:n≤9223372036854775807) (q:Int→Bool) (gc:Nat) (fi ca:Array Value) (X:Item) (D:Int→Prop) (hq:FunC Tryz.prog gc fi ca X (fun x:Int=>[.int .i64 x]) (fun x=>.bool (q x)) D) (hD:∀ x∈l,D x)  (w:World) (HS:S w [X]) (hr:Reads w p n c 1 (fl intL l)) (hap:Apart w X p n c 1 (fl intL l)):Calls Tryz.prog 134 #[.slice p n c,.func (.func gc) fi ca] w fun e w'=>e=.returned (.int .i64 (ixI q l))∧S w' ([X]++[Old w (fps [X])]):=by
 have H0:=HS.beginI
 have hn2:=hr.lenL intE
 refine enter 19 Tryz.func134 rfl rfl rfl ?_
 refine g_wk [(0,_),(1,_)] ?_
 refine w_s ?_
 refine w_k9 ?_
 refine g_loop (ι:=Nat) (fun i=>[(0,.slice p n c),(1,.func (.func gc) fi ca),(7,.int .i64 ((n:Int))),(8,.int .i64 ((i:Int)))]) (fun i wx=>(i≤n)∧(∀ y∈l.take i,q y=false)∧S wx [X,Old w (fps [X])]) (fun i=>n - i) (0) ⟨rfl,rfl,rfl,rfl,trivial⟩ ⟨Nat.zero_le _,(fun y hy=>by simp at hy),H0⟩ ?_
 rintro i wq1 ⟨hi,hno,H2⟩
 refine g_wk [(0,_),(1,_),(7,_),(8,_)] ?_
 refine w_s ?_
 refine w_k2 ?_
 refine g_seq ?_
 by_cases hb3:((i:Int):Int)<(n:Int)
 ·
  refine g_ct hb3 ?_
  refine w_k12 ?_
  refine w_v (x_i i ((hap _ (H2.tk [0,1])))) ?_
  obtain ⟨x4,hx4⟩:=((hap _ (H2.tk [0,1]))).exL intE i
  refine w_v (x_r i ((hap _ (H2.tk [0,1]))) (intE.flAt1 hx4 rfl)) ?_
  refine l_of (s_call (wt0 rfl) (x_call rfl rfl rfl hq.ok) (hq.does x4 (hD _ (List.mem_of_getElem? hx4)) _ (H2.tk [0])) ?_)
  rintro _ wq5 ⟨rfl,H6⟩
  replace H6:S _ [_,_]:=H2.abI (new:=[_]) [0] H6 rfl
  refine b_ret rfl rfl ?_
  refine w_e ?_
  rcases Bool.eq_false_or_eq_true (q x4) with hb7 | hb7
  ·
   refine g_cond_t rfl hb7 ?_
   refine w_k4 ?_
   refine g_wk [(4,_)] ?_
   refine g_ret ?_
   refine w_k5 ?_
   refine fin_r [.tmp 4] [.int .i64 ((i:Int))] ?_
   exact ⟨by rw [ixI_at hx4 hb7 hno]; rfl,H6.tk [0,1]⟩
  ·
   refine g_cond_f rfl hb7 ?_
   refine w_k4 ?_
   refine w_i i ?_
   refine w_k2 ?_
   refine g_rd (i:=(i)) ((i+1)) ⟨by omega,(no_take hno hx4 hb7),H6⟩
 ·
  refine g_cf hb3 ?_
  refine w_k9 ?_
  refine fin_r [.tmp 4] [.int .i64 (-1)] ?_
  rw [List.take_of_length_le (by omega)] at hno
  exact ⟨by rw [ixI_no hno]; rfl,H2.tk [0,1]⟩
theorem delF_i (l:List Int) (p:Option Addr) (c:Nat) (hl:l.length≤9223372036854775807) (q:Int→Bool) (gc:Nat) (fi ca:Array Value) (X:Item) (D:Int→Prop) (hq:FunC Tryz.prog gc fi ca X (fun x:Int=>[.int .i64 x]) (fun x=>.bool (q x)) D) (hD:∀ x∈l,D x)  (w:World) (HS:S w [X,Rw 3 1 p l.length c (fl intL l)]):Calls Tryz.prog 105 #[.slice p l.length c,.func (.func gc) fi ca] w fun e w'=>e=.returned (.slice p (keepS q l).length c)∧S w' ([X,Rw 3 1 p ((keepS q l).length) c (fl intL (keepS q l))]++[Old w (fps [X,Rw 3 1 p l.length c (fl intL l)])]):=by
 have H0:=HS.beginI
 refine enter 42 Tryz.func105 rfl rfl rfl ?_
 refine g_wk [(0,_),(1,_)] ?_
 refine w_s ?_
 refine w_k5 ?_
 refine l_of (s_cl (indexF_i l p l.length c hl q gc fi ca X D hq hD _ (H0.tk [0]) (H0.rr 1) (H0.apartRw (i:=1) (k:=0) rfl rfl (by decide))) ?_)
 rintro _ wq1 ⟨rfl,H2⟩
 replace H2:S _ [_,_,_]:=H0.abI (new:=[_]) [0] H2 rfl
 refine b_ret rfl rfl ?_
 refine w_k7 ?_
 by_cases hb3:((ixI q l):Int)=-1
 ·
  refine g_ct hb3 ?_
  refine w_k6 ?_
  refine fin_r [.tmp 4] [.slice p l.length c] ?_
  have hd:keepS q l=l:=keep_all (fun y hy=>by cases h9:q y with | false=>rfl | true=>exact absurd (hb3) (by unfold ixI; rw [if_pos (List.any_eq_true.2 ⟨y,hy,h9⟩)]; omega))
  exact ⟨by rw [hd]; rfl,by rw [hd]; exact H2.tk [0,1,2]⟩
 ·
  obtain ⟨i0,x0,hix,hx0,hq0,hno⟩:=ixI_some hb3
  have hi0:=(List.getElem?_eq_some_iff.1 hx0).1
  refine g_cf hb3 ?_
  refine w_k4 ?_
  rw [hix]
  refine w_m ?_
  refine w_b (v:=.int .i64 (((i0+1:Nat):Int))) (hb:=(b_addN (a:=i0) (b:=1) (by omega))) ?_
  refine w_k3 ?_
  refine g_loop (ι:=Nat × Nat × List Int) (fun (i,j,cur)=>[(0,.slice p l.length c),(1,.func (.func gc) fi ca),(5,.int .i64 ((i:Int))),(6,.int .i64 ((j:Int)))]) (fun (i,j,cur) wx=>(cur.length=l.length)∧(i<j)∧(j≤l.length)∧(cur.take i=keepS q (l.take j))∧(cur.drop j=l.drop j)∧S wx [X,Rw 3 1 p l.length c (fl intL cur),Old w (fps [X,Rw 3 1 p l.length c (fl intL l)])]) (fun (i,j,cur)=>l.length - j) (i0,(i0+1),l) ⟨rfl,rfl,rfl,rfl,trivial⟩ ⟨rfl,Nat.lt_succ_self _,(by omega),(keep_first hx0 hq0 hno).symm,rfl,(H2.tk [0,1,2])⟩ ?_
  rintro ⟨i,j,cur⟩ wq4 ⟨hcl,hij,hj,hp,hs,H5⟩
  refine g_wk [(0,_),(1,_),(5,_),(6,_)] ?_
  refine g_seq ?_
  refine w_k6 ?_
  by_cases hb6:((j:Int):Int)<(l.length:Int)
  ·
   refine g_ct hb6 ?_
   refine w_k7 ?_
   refine w_v (x_i j (H5.rr 1)) ?_
   obtain ⟨x7,hx7⟩:=(H5.rr 1).exL intE j
   have hmc:∀ y,cur[j]?=some y→y∈l:=fun y hy=>List.mem_of_getElem? (by rw [← drop_at hs]; exact hy)
   have hDc:∀ x∈l,D x:=hD
   refine w_v (x_r j (H5.rr 1) (intE.flAt1 hx7 rfl)) ?_
   refine w_k5 ?_
   refine l_of (s_call (wt0 rfl) (x_call rfl rfl rfl hq.ok) (hq.does x7 (hDc x7 (by first | exact List.mem_of_getElem? hx7 | exact hmc _ hx7)) _ (H5.tk [0])) ?_)
   rintro _ wq8 ⟨rfl,H9⟩
   replace H9:S _ [_,_,_]:=H5.abI (new:=[_]) [0] H9 rfl
   refine b_ret rfl rfl ?_
   refine w_v (x_not (b:=q x7) rfl rfl) ?_
   refine w_e ?_
   rcases Bool.eq_false_or_eq_true (q x7) with hb10 | hb10
   ·
    refine g_cond_f rfl (neg_of hb10) ?_
    refine w_k3 ?_
    refine g_wk [(0,_),(1,_),(5,_),(6,_)] ?_
    refine g_region ?_
    refine w_m ?_
    refine w_b (v:=.int .i64 (((j+1:Nat):Int))) (hb:=(b_addN (a:=j) (b:=1) (by omega))) ?_
    refine w_k2 ?_
    refine g_rd (i:=(i,j,cur)) (i,(j+1),cur) ⟨hcl,by omega,by omega,(del_skip hp hs hx7 hb10).1,(del_skip hp hs hx7 hb10).2,(H9.tk [0,1,2])⟩
   ·
    refine g_cond_t rfl (neg_of hb10) ?_
    refine w_k4 ?_
    refine w_v (x_i i (H9.rr 1)) ?_
    refine l_of (s_stoL (j:=i) intE x7 H9 1 (wt0 rfl) rfl rfl rfl rfl rfl rfl sz3 (by omega) ?_)
    intro wq11 H12
    refine w_e ?_
    refine g_wk [(0,_),(1,_),(5,_),(6,_)] ?_
    refine g_region ?_
    refine w_m ?_
    refine w_b (v:=.int .i64 (((i+1:Nat):Int))) (hb:=(b_addN (a:=i) (b:=1) (by omega))) ?_
    refine w_k6 ?_
    refine w_b (v:=.int .i64 (((j+1:Nat):Int))) (hb:=(b_addN (a:=j) (b:=1) (by omega))) ?_
    refine w_k2 ?_
    refine g_rd (i:=(i,j,cur)) ((i+1),(j+1),(cur.set i x7)) ⟨(by rw [List.length_set]; exact hcl),by omega,by omega,(del_put hcl hij hp hs hx7 hb10).1,(del_put hcl hij hp hs hx7 hb10).2,(H12.tk [0,1,2])⟩
  ·
   refine g_cf hb6 ?_
   refine w_k8 ?_
   refine w_v (v:=.slice (cutP p i c 1) (l.length - i) (c - i)) (x_cut i rfl rfl rfl Tryz.underlying59 sz3 (by omega)) ?_
   refine l_of (s_clear (i:=i) H5 1 (wt0 rfl) rfl rfl rfl rfl Tryz.underlying59 ze3 rfl rfl (by decide) (by omega) ?_)
   intro wq13 H14
   replace H14:S wq13 [X,Rw 3 1 p i c (fl intL (cur.take i)),Old w (fps [X,Rw 3 1 p l.length c (fl intL l)])]:=by have h9:=H14; rw [← intE.flTake]; exact h9
   refine w_k4 ?_
   have hic:=(H14.rr 1).2.1
   refine w_v (v:=.slice p i c) (ex_cast (x_sliceH i rfl rfl rfl Tryz.underlying59 sz3 ⟨rfl,hic⟩) (by rw [cutP0])) ?_
   refine w_k2 ?_
   refine g_wk [(4,_)] ?_
   refine g_ret ?_
   refine fin_r [.tmp 4] [.slice p i c] ?_
   have hjl:j=l.length:=by omega
   have hd:keepS q l=cur.take i:=by rw [hp,hjl,List.take_length]
   have hdl:(cur.take i).length=i:=by rw [List.length_take]; omega
   exact ⟨by rw [hd,hdl]; rfl,by rw [hd,hdl]; exact H14.tk [0,1,2]⟩
theorem clone_i_s (l:List Int) (a:Addr) (c:Nat) (hm:l.length≤1099511627776)  (w:World) (hr:Reads w (some a) l.length c 1 (fl intL l)):Calls Tryz.prog 52 #[.slice (some a) l.length c] w fun e w'=>∃ p' c',e=.returned (.slice p' l.length c')∧S w' ([Rw 3 1 p' l.length c' (fl intL l)]++[Old w no]):=by
 have H0:=S.old w
 refine enter 8 Tryz.func52 rfl rfl rfl ?_
 refine g_wk [(0,_)] ?_
 refine w_s ?_
 refine w_k5 ?_
 refine w_b (v:=.bool false) (hb:=(b_eqN (r:=false) Tryz.underlying59 rfl)) ?_
 refine w_e ?_
 refine g_cond_f rfl rfl ?_
 refine w_k3 ?_
 refine l_of (s_buildSlice0 H0 (wt0 rfl) rfl rfl rfl Tryz.underlying59 sz3 ?_)
 intro g1 wq2 H3
 replace H3:S wq2 [Rw 3 1 (some ⟨g1,0,none⟩) 0 0 (fl intL ([]:List Int)),Old w no]:=S.obFl intE H3 (k:=0) rfl rfl (by decide) rfl
 refine w_m ?_
 have hln8a:=(H3.rr 0).lenL intE
 have hln8b:=(H3.exReads (k:=1) rfl hr (fun _ _ _ h=>h)).lenL intE
 have hln8:l.length=0+l.length:=by omega
 refine l_of (s_appLn (l:=[]) (l2:=l) intE H3 0 (wt0 rfl) rfl rfl rfl rfl rfl rfl Tryz.underlying59 inf3 rfl (by decide) (H3.exReads (k:=1) rfl hr (fun _ _ _ h=>h)) (by omega) ?_)
 intro p4 c5 wq6 H7
 rw [List.nil_append] at H7 ⊢
 replace H7:S wq6 [Rw 3 1 p4 l.length c5 (fl intL l),Old w no]:=H7
 refine w_k3 ?_
 refine fin_r [.tmp 2] [.slice p4 l.length c5] ?_
 exact ⟨_,_,rfl,H7⟩
theorem clone_i_n (n c:Nat)  (w:World):Calls Tryz.prog 52 #[.slice none n c] w fun e w'=>∃ p' c',e=.returned (.slice p' 0 c')∧S w' ([Rw 3 1 p' 0 c' (fl intL [])]++[Old w no]):=by
 have H0:=S.old w
 refine enter 8 Tryz.func52 rfl rfl rfl ?_
 refine g_wk [(0,_)] ?_
 refine w_s ?_
 refine w_k5 ?_
 refine w_b (v:=.bool true) (hb:=(b_eqN (r:=true) Tryz.underlying59 rfl)) ?_
 refine w_e ?_
 refine g_cond_t rfl rfl ?_
 refine w_k5 ?_
 refine fin_r [.tmp 2] [.slice none 0 0] ?_
 exact ⟨none,0,rfl,H0.nilFl 3 1 intL⟩
theorem clone_i (hm:l.length≤1099511627776) (w:World) (hr:Reads w p n c 1 (fl intL l)):Calls Tryz.prog 52 #[.slice p n c] w fun e w'=>∃ p' c',e=.returned (.slice p' l.length c')∧S w' ([Rw 3 1 p' l.length c' (fl intL l)]++[Old w no]):=by
 have hn:=hr.lenL intE
 subst hn
 cases p with
 | some a=>exact clone_i_s l a c hm w hr
 | none =>
   have h0:l.length=0:=by
     refine Decidable.byContradiction fun hn=>?_
     obtain ⟨a,ha,_⟩:=hr.2.2 (by omega)
     cases ha
   obtain rfl:l=[]:=List.length_eq_zero_iff.1 h0
   exact clone_i_n 0 c w
end
end Go.Proofs.YthmmfhdpkddniaaGreatDoor
