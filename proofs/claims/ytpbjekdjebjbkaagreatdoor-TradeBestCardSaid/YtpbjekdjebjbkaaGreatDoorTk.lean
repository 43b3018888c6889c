import Derived.Test.YtpbjekdjebjbkaaGreatDoorFm
import Derived.Test.YtpbjekdjebjbkaaGreatDoorSc
import Derived.Test.YtpbjekdjebjbkaaGreatDoorGm
set_option maxRecDepth 20000
set_option maxHeartbeats 4000000
set_option linter.unusedSimpArgs false
set_option linter.unusedVariables false
namespace Go.Proofs.YtpbjekdjebjbkaaGreatDoor
open Go.RowKit
theorem sz3:szO Tryz.prog 3=some 1:=by kernel_rfl
theorem insS_i {β:Type} (d:β) (ev:β→Value) (hev:∀ x,(ev x).cells=#[ev x]) (hsz:∀ x,(ev x).cells.size=1) (ho:∀ x,(ev x).cells.toList.all (·.oneCell')=true) (z:List β) (nn:Nat) (hz:z.length=nn) (p:Option Addr) (cc:Nat) (hm:nn≤1099511627776) (c:β→β→Int) (gc:Nat) (fi ca:Array Value) (X:Item) (hc:Cmps Tryz.prog gc fi ca X ev c z) (a b:Nat) (hab:a≤b) (hb:b≤nn) (w:World) (HS:S w [Rw 3 1 p nn cc (mV ev z),X]):Calls Tryz.prog 221 #[.slice p nn cc,.int .i64 ((a:Int)),.int .i64 ((b:Int)),.func (.func gc) fi ca] w fun e w'=>e=.returned (.tuple #[])∧S w' ([Rw 3 1 p nn cc (mV ev (insS d c a b z)),X]++[Old w (fps [Rw 3 1 p nn cc (mV ev z),X])]):=by
 have H0:=HS.beginI
 refine enter 53 Tryz.func221 rfl rfl rfl ?_
 refine g_wk [(0,_),(1,_),(2,_),(3,_)] ?_
 refine w_s ?_
 refine w_m ?_
 refine w_b (v:=.int .i64 (((a+1:Nat):Int))) (hb:=(b_addN (a:=a) (b:=1) (by omega))) ?_
 refine w_k3 ?_
 refine g_loop (ι:=Nat × List β) (fun (i,cur)=>[(0,.slice p nn cc),(1,.int .i64 ((a:Int))),(2,.int .i64 ((b:Int))),(3,.func (.func gc) fi ca),(8,.int .i64 ((i:Int)))]) (fun (i,cur) wx=>(a+1≤i∧i≤max b (a+1))∧(cur.length=nn)∧(cur.Perm z)∧(insOut d c a (b - i) i cur=insS d c a b z)∧S wx [Rw 3 1 p nn cc (mV ev cur),X,Old w (fps [Rw 3 1 p nn cc (mV ev z),X])]) (fun (i,cur)=>b - i) ((a+1),z) ⟨rfl,rfl,rfl,rfl,rfl,trivial⟩ ⟨(by omega),hz,(.refl _),rfl,(H0.tk [0,1,2])⟩ ?_
 rintro ⟨i,cur⟩ wq1 ⟨hi,hcl,hpp,hR,H2⟩
 refine g_wk [(0,_),(1,_),(2,_),(3,_),(8,_)] ?_
 refine g_seq ?_
 refine w_k5 ?_
 by_cases hb3:((i:Int):Int)<(b:Int)
 ·
  refine g_ct hb3 ?_
  refine w_k9 ?_
  refine g_loop (ι:=Nat × List β) (fun (j,cur2)=>[(0,.slice p nn cc),(1,.int .i64 ((a:Int))),(2,.int .i64 ((b:Int))),(3,.func (.func gc) fi ca),(8,.int .i64 ((i:Int))),(9,.int .i64 ((j:Int)))]) (fun (j,cur2) wx=>(a≤j∧j≤i)∧(cur2.length=nn)∧(cur2.Perm z)∧(insIn d c a j cur2=insIn d c a i cur)∧S wx [Rw 3 1 p nn cc (mV ev cur2),X,Old w (fps [Rw 3 1 p nn cc (mV ev z),X])]) (fun (j,cur2)=>j) (i,cur) ⟨rfl,rfl,rfl,rfl,rfl,rfl,trivial⟩ ⟨(by omega),hcl,hpp,rfl,(H2.tk [0,1,2])⟩ ?_
  rintro ⟨j,cur2⟩ wq4 ⟨hj,hcl2,hpp2,hR2,H5⟩
  refine g_wk [(0,_),(1,_),(2,_),(3,_),(8,_),(9,_)] ?_
  have hpm:∀ y,y∈cur2→y∈z:=fun y hy=>(hpp2.mem_iff).1 hy
  iterate 2 refine g_seq ?_
  refine g_any [] (fun wx=>S wx [Rw 3 1 p nn cc (mV ev cur2),X,Old w (fps [Rw 3 1 p nn cc (mV ev z),X])]) [] (by kernel_rfl) H5 (fun wq6 H7=>?_)
  refine w_t 0 rfl H7 (fun _ _=>xm) ?_
  refine w_t 1 rfl H7 (fun _ _=>xm) ?_
  refine w_t 2 rfl H7 (fun _ _=>x_bin rfl rfl rfl b_gtr) ?_
  refine w_t 3 rfl H7 (fun _ _=>xm) ?_
  by_cases hb8:((a:Int):Int)<(j:Int)
  ·
   refine w_tg 4 rfl (decide_eq_true hb8) H7 (fun _ _=>xm) ?_
   refine w_tg 5 rfl (decide_eq_true hb8) H7 (fun _ _=>xm) ?_
   refine w_tg 6 rfl (decide_eq_true hb8) H7 (fun _ _=>xm) ?_
   refine w_tg (v:=.pointer ((p).map fun q=>q.add (j * 1))) 7 rfl (decide_eq_true hb8) H7 (fun _ _=>x_ip j (H7.rwSome (k:=0) rfl (by omega))) ?_
   refine w_tg (v:=ev (cur2.getD j d)) 8 rfl (decide_eq_true hb8) H7 (fun _ H=>x_r j (H.rr 0) (mV_at hev (by omega))) ?_
   refine w_tg 9 rfl (decide_eq_true hb8) H7 (fun _ _=>xm) ?_
   refine w_tg 10 rfl (decide_eq_true hb8) H7 (fun _ _=>xm) ?_
   refine w_tg (v:=.int .i64 (((j - 1:Nat):Int))) 11 rfl (decide_eq_true hb8) H7 (fun _ _=>x_bin rfl rfl rfl (b_subN (a:=j) (b:=1) (by omega))) ?_
   refine w_tg (v:=.pointer ((p).map fun q=>q.add ((j - 1) * 1))) 12 rfl (decide_eq_true hb8) H7 (fun _ _=>x_ip (j - 1) (H7.rwSome (k:=0) rfl (by omega))) ?_
   refine w_tg (v:=ev (cur2.getD (j - 1) d)) 13 rfl (decide_eq_true hb8) H7 (fun _ H=>x_r (j - 1) (H.rr 0) (mV_at hev (by omega))) ?_
   refine a_one (i:=14) (by kernel_rfl) rfl ?_
   refine s_call (wt1 rfl rfl rfl rfl (decide_eq_true hb8)) (x_call rfl rfl rfl hc.ok) (hc.does _ (hpm _ (getD_mem (by omega))) _ (hpm _ (getD_mem (by omega))) _ (H7.tk [1])) ?_
   rintro _ wq9 ⟨rfl,H10⟩
   replace H10:S _ [_,_,_]:=H7.abI (new:=[_]) [1] H10 rfl
   refine b_ret rfl rfl ?_
   refine a_k (H10.tk [1,0,2]) ?_
   refine w_tg 15 rfl (decide_eq_true hb8) (H10.tk [1,0,2]) (fun _ _=>x_bin rfl rfl rfl b_lss) ?_
   refine w_t (v:=.bool (decide (((c (cur2.getD j d) (cur2.getD (j - 1) d)):Int)<0))) 16 rfl (H10.tk [1,0,2]) (fun _ _=>x_pick_t rfl rfl (decide_eq_true hb8) rfl) ?_
   refine a_done (by kernel_rfl) ?_
   refine w_0 ?_
   by_cases hb11:((c (cur2.getD j d) (cur2.getD (j - 1) d)):Int)<0
   ·
    refine g_ct hb11 ?_
    refine w_k4 ?_
    refine g_anyY [] (fun wx=>S wx [X,Rw 3 1 p nn cc (mV ev cur2),Old w (fps [Rw 3 1 p nn cc (mV ev z),X])]) (fun wx=>S wx [X,Old w (fps [Rw 3 1 p nn cc (mV ev z),X])]) [15,17] (by kernel_rfl) H10 (fun wq12 H13=>?_)
    refine y_p 0 rfl (fun _=>xm) ?_
    refine y_p 1 rfl (fun _=>xm) ?_
    refine y_p 2 rfl (fun _=>xm) ?_
    refine y_p 3 rfl (fun _=>xm) ?_
    refine y_p (v:=.int .i64 (((j - 1:Nat):Int))) 4 rfl (fun _=>x_bin rfl rfl rfl (b_subN (a:=j) (b:=1) (by omega))) ?_
    refine y_p 5 rfl (fun _=>xm) ?_
    refine y_p 6 rfl (fun _=>xm) ?_
    refine y_p (v:=.int .i64 (((j - 1:Nat):Int))) 7 rfl (fun _=>x_bin rfl rfl rfl (b_subN (a:=j) (b:=1) (by omega))) ?_
    refine y_p 8 rfl (fun _=>x_ip (j - 1) (H13.rwSome (k:=1) rfl (by omega))) ?_
    refine y_t (v:=ev (cur2.getD (j - 1) d)) 9 rfl H13 (fun _ H=>x_r (j - 1) (H.rr 1) (mV_at hev (by omega))) ?_
    refine y_p 10 rfl (fun _=>xm) ?_
    refine y_p 11 rfl (fun _=>xm) ?_
    refine y_p 12 rfl (fun _=>x_ip j (H13.rwSome (k:=1) rfl (by omega))) ?_
    refine y_t (v:=ev (cur2.getD j d)) 13 rfl H13 (fun _ H=>x_r j (H.rr 1) (mV_at hev (by omega))) ?_
    refine y_p 14 rfl (fun _=>x_ip j (H13.rwSome (k:=1) rfl (by omega))) ?_
    refine y_one (i:=15) (by kernel_rfl) rfl ?_
    refine s_storeW (j:=j) H13 1 (wt0 rfl) rfl rfl rfl rfl rfl (by rw [hsz]; exact sz3) (hsz _) (ho _) (by omega) ?_
    intro wq14 H15
    rw [mV_set hsz (cur2.getD (j - 1) d) (by first | omega | (simp only [List.length_set]; omega))] at H15
    replace H15:S wq14 [X,Rw 3 1 p nn cc (mV ev (cur2.set j (cur2.getD (j - 1) d))),Old w (fps [Rw 3 1 p nn cc (mV ev z),X])]:=H15
    refine y_kt rfl (H15.mask [true,false,true]) ?_
    refine y_p 16 rfl (fun _=>x_ip (j - 1) (H15.rwSome (k:=1) rfl (by omega))) ?_
    refine y_one (i:=17) (by kernel_rfl) rfl ?_
    refine s_storeW (j:=(j - 1)) H15 1 (wt0 rfl) rfl rfl rfl rfl rfl (by rw [hsz]; exact sz3) (hsz _) (ho _) (by omega) ?_
    intro wq16 H17
    rw [mV_set hsz (cur2.getD j d) (by first | omega | (simp only [List.length_set]; omega))] at H17
    replace H17:S wq16 [X,Rw 3 1 p nn cc (mV ev ((cur2.set j (cur2.getD (j - 1) d)).set (j - 1) (cur2.getD j d))),Old w (fps [Rw 3 1 p nn cc (mV ev z),X])]:=H17
    refine y_kt rfl (H17.mask [true,false,true]) ?_
    refine y_done (by kernel_rfl) ?_
    refine w_k4 ?_
    refine w_b (v:=.int .i64 (((j - 1:Nat):Int))) (hb:=(b_subN (a:=j) (b:=1) (by omega))) ?_
    refine w_k2 ?_
    refine g_rd (i:=(j,cur2)) ((j - 1),((cur2.set j (cur2.getD (j - 1) d)).set (j - 1) (cur2.getD j d))) ⟨(by omega),(by simp only [List.length_set]; exact hcl2),((swp_perm (by omega) (by omega)).trans hpp2),((insIn_go (by omega) hb11).symm.trans hR2),(H17.tk [1,0,2])⟩
   ·
    refine g_cf hb11 ?_
    refine w_0 ?_
    have hE:insIn d c a i cur=cur2:=hR2.symm.trans (insIn_stop hb11)
    refine w_k7 ?_
    refine w_b (v:=.int .i64 (((i+1:Nat):Int))) (hb:=(b_addN (a:=i) (b:=1) (by omega))) ?_
    refine w_k2 ?_
    refine g_rd (i:=(i,cur)) ((i+1),cur2) ⟨(by omega),hcl2,hpp2,(by rw [← hE,← insOut_go (by omega)]; exact hR),(H10.tk [1,0,2])⟩
  ·
   refine w_tn 4 rfl (decide_eq_false hb8) H7 ?_
   refine w_tn 5 rfl (decide_eq_false hb8) H7 ?_
   refine w_tn 6 rfl (decide_eq_false hb8) H7 ?_
   refine w_tn 7 rfl (decide_eq_false hb8) H7 ?_
   refine w_tn 8 rfl (decide_eq_false hb8) H7 ?_
   refine w_tn 9 rfl (decide_eq_false hb8) H7 ?_
   refine w_tn 10 rfl (decide_eq_false hb8) H7 ?_
   refine w_tn 11 rfl (decide_eq_false hb8) H7 ?_
   refine w_tn 12 rfl (decide_eq_false hb8) H7 ?_
   refine w_tn 13 rfl (decide_eq_false hb8) H7 ?_
   refine a_one (i:=14) (by kernel_rfl) rfl ?_
   refine s_not (wn1 rfl rfl rfl rfl (decide_eq_false hb8)) rfl rfl ?_
   refine a_k H7 ?_
   refine w_tn 15 rfl (decide_eq_false hb8) H7 ?_
   refine w_t (v:=.bool false) 16 rfl H7 (fun _ _=>x_pick_f rfl rfl (decide_eq_false hb8) rfl) ?_
   refine a_done (by kernel_rfl) ?_
   refine w_0 ?_
   refine g_cond_f rfl rfl ?_
   refine w_0 ?_
   have hE:insIn d c a i cur=cur2:=hR2.symm.trans (insIn_end (by omega))
   refine w_k7 ?_
   refine w_b (v:=.int .i64 (((i+1:Nat):Int))) (hb:=(b_addN (a:=i) (b:=1) (by omega))) ?_
   refine w_k2 ?_
   refine g_rd (i:=(i,cur)) ((i+1),cur2) ⟨(by omega),hcl2,hpp2,(by rw [← hE,← insOut_go (by omega)]; exact hR),(H7.tk [0,1,2])⟩
 ·
  refine g_cf hb3 ?_
  refine w_k4 ?_
  refine fin_end [] [] rfl trivial ?_
  exact ⟨rfl,by rw [← hR,insOut_end (by omega)]; exact (H2.tk [0,1,2])⟩
theorem stable0_i {β:Type} (d:β) (ev:β→Value) (hev:∀ x,(ev x).cells=#[ev x]) (hsz:∀ x,(ev x).cells.size=1) (ho:∀ x,(ev x).cells.toList.all (·.oneCell')=true) (z:List β) (nn:Nat) (hz:z.length=nn) (p:Option Addr) (cc:Nat) (hm:nn≤1099511627776) (c:β→β→Int) (gc:Nat) (fi ca:Array Value) (X:Item) (hc:Cmps Tryz.prog gc fi ca X ev c z) (h20:nn≤20)  (w:World) (HS:S w [Rw 3 1 p nn cc (mV ev z),X]):Calls Tryz.prog 220 #[.slice p nn cc,.int .i64 ((nn:Int)),.func (.func gc) fi ca] w fun e w'=>e=.returned (.tuple #[])∧S w' ([Rw 3 1 p nn cc (mV ev (stableS d c z)),X]++[Old w (fps [Rw 3 1 p nn cc (mV ev z),X])]):=by
 have H0:=HS.beginI
 refine enter 63 Tryz.func220 rfl rfl rfl ?_
 refine g_wk [(0,_),(1,_),(2,_)] ?_
 refine w_s ?_
 refine w_k9 ?_
 refine g_loop (ι:=Nat × Nat × List β) (fun (k,a,cur)=>[(0,.slice p nn cc),(1,.int .i64 ((nn:Int))),(2,.func (.func gc) fi ca),(6,.int .i64 20),(7,.int .i64 ((a:Int))),(8,.int .i64 (((a+20:Nat):Int)))]) (fun (k,a,cur) wx=>(a≤nn)∧(nn≤a+k)∧(cur.length=nn)∧(cur.Perm z)∧(insB d c 20 nn k a cur=insB d c 20 nn nn 0 z)∧S wx [Rw 3 1 p nn cc (mV ev cur),X,Old w (fps [Rw 3 1 p nn cc (mV ev z),X])]) (fun (k,a,cur)=>nn - a) (nn,0,z) ⟨rfl,rfl,rfl,rfl,rfl,rfl,trivial⟩ ⟨(Nat.zero_le _),(by omega),hz,(.refl _),rfl,(H0.tk [0,1,2])⟩ ?_
 rintro ⟨k,a,cur⟩ wq1 ⟨ha,hk,hcl,hpp,hR,H2⟩
 refine g_wk [(0,_),(1,_),(2,_),(6,_),(7,_),(8,_)] ?_
 refine g_seq ?_
 refine w_k5 ?_
 by_cases hb3:(((a+20:Nat):Int):Int)≤(nn:Int)
 ·
  refine g_ct hb3 ?_
  refine w_k8 ?_
  have hl6:(insS d c a (a+20) cur).length=nn:=by rw [(insS_mv (d:=d) (c:=c) (a:=a) (by rw [hcl]; omega)).len]; exact hcl
  have hp7:(insS d c a (a+20) cur).Perm z:=(insS_mv (d:=d) (c:=c) (a:=a) (by rw [hcl]; omega)).1.trans (hpp)
  refine l_of (s_cl (insS_i d ev hev hsz ho cur nn hcl p cc hm c gc fi ca X (hc.perm (hpp)) a (a+20) (by omega) (by omega) _ (H2.tk [0,1])) ?_)
  rintro _ wq4 ⟨rfl,H5⟩
  replace H5:S _ [_,_,_]:=H2.abI (new:=[_,_]) [0,1] H5 rfl
  refine b_ret rfl rfl ?_
  refine w_k8 ?_
  refine w_b (v:=.int .i64 (((a+20+20:Nat):Int))) (hb:=(b_addN (a:=a+20) (b:=20) (by omega))) ?_
  refine w_k4 ?_
  refine g_rd (i:=(k,a,cur)) ((k - 1),(a+20),(insS d c a (a+20) cur)) ⟨(by omega),(by omega),hl6,hp7,((insB_go (by omega) (by omega)).symm.trans hR),(H5.tk [0,1,2])⟩
 ·
  refine g_cf hb3 ?_
  refine w_0 ?_
  have hRB:=(insB_end (by omega)).symm.trans hR
  refine w_k9 ?_
  have hl10:(insS d c a nn cur).length=nn:=by rw [(insS_mv (d:=d) (c:=c) (a:=a) (by rw [hcl]; omega)).len]; exact hcl
  have hp11:(insS d c a nn cur).Perm z:=(insS_mv (d:=d) (c:=c) (a:=a) (by rw [hcl]; omega)).1.trans (hpp)
  refine l_of (s_cl (insS_i d ev hev hsz ho cur nn hcl p cc hm c gc fi ca X (hc.perm (hpp)) a nn (by omega) (by omega) _ (H2.tk [0,1])) ?_)
  rintro _ wq8 ⟨rfl,H9⟩
  replace H9:S _ [_,_,_]:=H2.abI (new:=[_,_]) [0,1] H9 rfl
  refine b_ret rfl rfl ?_
  refine w_k2 ?_
  refine g_loop (ι:=Nat × Nat × List β) (fun (k,s,cw)=>[(0,.slice p nn cc),(1,.int .i64 ((nn:Int))),(2,.func (.func gc) fi ca),(6,.int .i64 ((s:Int)))]) (fun (k,s,cw) wx=>(20≤s∧s≤2 * nn+20)∧(nn≤s+k)∧(cw.length=nn)∧(cw.Perm z)∧(symA d c nn k s cw=symA d c nn nn 20 (insS d c a nn cur))∧S wx [Rw 3 1 p nn cc (mV ev cw),X,Old w (fps [Rw 3 1 p nn cc (mV ev z),X])]) (fun (k,s,cw)=>nn - s) (nn,20,(insS d c a nn cur)) ⟨rfl,rfl,rfl,rfl,trivial⟩ ⟨(by omega),(by omega),hl10,hp11,rfl,(H9.tk [0,1,2])⟩ ?_
  rintro ⟨k,s,cw⟩ wq12 ⟨hs,hk,hclw,hppw,hR,H13⟩
  refine g_wk [(0,_),(1,_),(2,_),(6,_)] ?_
  refine g_seq ?_
  refine w_k5 ?_
  refine g_cond_f rfl (decide_eq_false (by omega)) ?_
  refine w_k4 ?_
  refine fin_end [] [] rfl trivial ?_
  exact ⟨rfl,by unfold stableS; rw [hz]; rw [hRB,symA_end (by omega)] at hR; rw [← hR]; exact (H13.tk [0,1,2])⟩
theorem sortStable_i {β:Type} (d:β) (ev:β→Value) (hev:∀ x,(ev x).cells=#[ev x]) (hsz:∀ x,(ev x).cells.size=1) (ho:∀ x,(ev x).cells.toList.all (·.oneCell')=true) (z:List β) (nn:Nat) (hz:z.length=nn) (p:Option Addr) (cc:Nat) (hm:nn≤1099511627776) (c:β→β→Int) (gc:Nat) (fi ca:Array Value) (X:Item) (hc:Cmps Tryz.prog gc fi ca X ev c z) (h20:nn≤20)  (w:World) (HS:S w [Rw 3 1 p nn cc (mV ev z),X]):Calls Tryz.prog 217 #[.slice p nn cc,.func (.func gc) fi ca] w fun e w'=>e=.returned (.tuple #[])∧S w' ([Rw 3 1 p nn cc (mV ev (stableS d c z)),X]++[Old w (fps [Rw 3 1 p nn cc (mV ev z),X])]):=by
 have H0:=HS.beginI
 refine enter 9 Tryz.func217 rfl rfl rfl ?_
 refine g_wk [(0,_),(1,_)] ?_
 refine g_region ?_
 refine w_k4 ?_
 have hl3:(stableS d c z).length=nn:=by rw [(stable_perm d c z).length_eq]; exact hz
 have hp4:(stableS d c z).Perm z:=stable_perm d c z
 refine l_of (s_cl (stable0_i d ev hev hsz ho z nn hz p cc hm c gc fi ca X hc h20 _ (H0.tk [0,1])) ?_)
 rintro _ wq1 ⟨rfl,H2⟩
 replace H2:S _ [_,_,_]:=H0.abI (new:=[_,_]) [0,1] H2 rfl
 refine b_ret rfl rfl ?_
 refine w_0 ?_
 refine fin_end [] [] rfl trivial ?_
 exact ⟨rfl,(H2.tk [0,1,2])⟩
end Go.Proofs.YtpbjekdjebjbkaaGreatDoor
