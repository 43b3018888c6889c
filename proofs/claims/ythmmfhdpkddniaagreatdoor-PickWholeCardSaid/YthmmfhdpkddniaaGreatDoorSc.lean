import Derived.Test.YthmmfhdpkddniaaGreatDoorFm
import Derived.Test.YthmmfhdpkddniaaGreatDoorSb
set_option maxRecDepth 20000
set_option maxHeartbeats 4000000
set_option linter.unusedSimpArgs false
set_option linter.unusedVariables false
namespace Go.Proofs.YthmmfhdpkddniaaGreatDoor
open Go.RowKit
theorem Cmps.perm {P:Program} {g:Nat} {fi ca:Array Value} {X:Item} {β:Type} {ev:β→Value} {c:β→β→Int} {l l':List β} (h:Cmps P g fi ca X ev c l) (hp:l'.Perm l):Cmps P g fi ca X ev c l':=
 ⟨h.ok,fun x hx y hy w HS=>h.does x ((hp.mem_iff).1 hx) y ((hp.mem_iff).1 hy) w HS⟩
theorem insB_go {β:Type} {d:β} {c:β→β→Int} {s n k a:Nat} {l:List β} (h:a+s≤n) (hk:1≤k):insB d c s n k a l=insB d c s n (k - 1) (a+s) (insS d c a (a+s) l):=by
 obtain ⟨j,rfl⟩:∃ j,k=j+1:=⟨k - 1,by omega⟩
 conv=>lhs; unfold insB
 rw [if_pos h]; rfl
theorem insB_end {β:Type} {d:β} {c:β→β→Int} {s n k a:Nat} {l:List β} (h:¬ a+s≤n):insB d c s n k a l=insS d c a n l:=by
 cases k with
 | zero=>rfl
 | succ k=>unfold insB; rw [if_neg h]
theorem symB_go {β:Type} {d:β} {c:β→β→Int} {s n k a:Nat} {l:List β} (h:a+2 * s≤n) (hk:1≤k):symB d c s n k a l=symB d c s n (k - 1) (a+2 * s) (symS d c (2 * s) a (a+s) (a+2 * s) l):=by
 obtain ⟨j,rfl⟩:∃ j,k=j+1:=⟨k - 1,by omega⟩
 conv=>lhs; unfold symB
 rw [if_pos h]; rfl
theorem symB_end {β:Type} {d:β} {c:β→β→Int} {s n k a:Nat} {l:List β} (h:¬ a+2 * s≤n):symB d c s n k a l=if a+s<n then symS d c (n - a) a (a+s) n l else l:=by
 cases k with
 | zero=>rfl
 | succ k=>unfold symB; rw [if_neg h]
theorem symA_go {β:Type} {d:β} {c:β→β→Int} {n k s:Nat} {l:List β} (h:s<n) (hk:1≤k):symA d c n k s l=symA d c n (k - 1) (2 * s) (symB d c s n n 0 l):=by
 obtain ⟨j,rfl⟩:∃ j,k=j+1:=⟨k - 1,by omega⟩
 conv=>lhs; unfold symA
 rw [if_pos h]; rfl
theorem symA_end {β:Type} {d:β} {c:β→β→Int} {n k s:Nat} {l:List β} (h:¬ s<n):symA d c n k s l=l:=by
 cases k with
 | zero=>rfl
 | succ k=>unfold symA; rw [if_neg h]
theorem stable0_s {β:Type} (d:β) (ev:β→Value) (cs:β→Array Value) (hcs:∀ x,ev x=.agg (cs x)) (hsz:∀ x,(ev x).cells.size=3) (ho:∀ x,(ev x).cells.toList.all (·.oneCell')=true) (z:List β) (nn:Nat) (hz:z.length=nn) (p:Option Addr) (cc:Nat) (hm:nn≤1099511627776) (c:β→β→Int) (gc:Nat) (fi ca:Array Value) (X:Item) (hc:Cmps Tryz.prog gc fi ca X ev c z)  (w:World) (HS:S w [Rw 44 3 p nn cc (mV ev z),X]):Calls Tryz.prog 158 #[.slice p nn cc,.int .i64 ((nn:Int)),.func (.func gc) fi ca] w fun e w'=>e=.returned (.tuple #[])∧S w' ([Rw 44 3 p nn cc (mV ev (stableS d c z)),X]++[Old w (fps [Rw 44 3 p nn cc (mV ev z),X])]):=by
 have H0:=HS.beginI
 refine enter 63 Tryz.func158 rfl rfl rfl ?_
 refine g_wk [(0,_),(1,_),(2,_)] ?_
 refine w_s ?_
 refine w_k9 ?_
 refine g_loop (ι:=Nat × Nat × List β) (fun (k,a,cur)=>[(0,.slice p nn cc),(1,.int .i64 ((nn:Int))),(2,.func (.func gc) fi ca),(6,.int .i64 20),(7,.int .i64 ((a:Int))),(8,.int .i64 (((a+20:Nat):Int)))]) (fun (k,a,cur) wx=>(a≤nn)∧(nn≤a+k)∧(cur.length=nn)∧(cur.Perm z)∧(insB d c 20 nn k a cur=insB d c 20 nn nn 0 z)∧S wx [Rw 44 3 p nn cc (mV ev cur),X,Old w (fps [Rw 44 3 p nn cc (mV ev z),X])]) (fun (k,a,cur)=>nn - a) (nn,0,z) ⟨rfl,rfl,rfl,rfl,rfl,rfl,trivial⟩ ⟨(Nat.zero_le _),(by omega),hz,(.refl _),rfl,(H0.tk [0,1,2])⟩ ?_
 rintro ⟨k,a,cur⟩ wq1 ⟨ha,hk,hcl,hpp,hR,H2⟩
 refine g_wk [(0,_),(1,_),(2,_),(6,_),(7,_),(8,_)] ?_
 refine g_seq ?_
 refine w_k5 ?_
 by_cases hb3:(((a+20:Nat):Int):Int)≤(nn:Int)
 ·
  refine g_ct hb3 ?_
  refine w_k8 ?_
  have hl6:(insS d c a (a+20) cur).length=nn:=by rw [(insS_mv (d:=d) (c:=c) (a:=a) (by rw [hcl]; omega)).len]; exact hcl
  have hp7:(insS d c a (a+20) cur).Perm z:=(insS_mv (d:=d) (c:=c) (a:=a) (by rw [hcl]; omega)).1.trans (hpp)
  refine l_of (s_cl (insS_s d ev cs hcs hsz ho cur nn hcl p cc hm c gc fi ca X (hc.perm (hpp)) a (a+20) (by omega) (by omega) _ (H2.tk [0,1])) ?_)
  rintro _ wq4 ⟨rfl,H5⟩
  replace H5:S _ [_,_,_]:=H2.abI (new:=[_,_]) [0,1] H5 rfl
  refine b_ret rfl rfl ?_
  refine w_k8 ?_
  refine w_b (v:=.int .i64 (((a+20+20:Nat):Int))) (hb:=(b_addN (a:=a+20) (b:=20) (by omega))) ?_
  refine w_k4 ?_
  refine g_rd (i:=(k,a,cur)) ((k - 1),(a+20),(insS d c a (a+20) cur)) ⟨(by omega),(by omega),hl6,hp7,((insB_go (by omega) (by omega)).symm.trans hR),(H5.tk [0,1,2])⟩
 ·
  refine g_cf hb3 ?_
  refine w_0 ?_
  have hRB:=(insB_end (by omega)).symm.trans hR
  refine w_k9 ?_
  have hl10:(insS d c a nn cur).length=nn:=by rw [(insS_mv (d:=d) (c:=c) (a:=a) (by rw [hcl]; omega)).len]; exact hcl
  have hp11:(insS d c a nn cur).Perm z:=(insS_mv (d:=d) (c:=c) (a:=a) (by rw [hcl]; omega)).1.trans (hpp)
  refine l_of (s_cl (insS_s d ev cs hcs hsz ho cur nn hcl p cc hm c gc fi ca X (hc.perm (hpp)) a nn (by omega) (by omega) _ (H2.tk [0,1])) ?_)
  rintro _ wq8 ⟨rfl,H9⟩
  replace H9:S _ [_,_,_]:=H2.abI (new:=[_,_]) [0,1] H9 rfl
  refine b_ret rfl rfl ?_
  refine w_k2 ?_
  refine g_loop (ι:=Nat × Nat × List β) (fun (k,s,cw)=>[(0,.slice p nn cc),(1,.int .i64 ((nn:Int))),(2,.func (.func gc) fi ca),(6,.int .i64 ((s:Int)))]) (fun (k,s,cw) wx=>(1≤s∧s≤2 * nn+20)∧(nn≤s+k)∧(cw.length=nn)∧(cw.Perm z)∧(symA d c nn k s cw=symA d c nn nn 20 (insS d c a nn cur))∧S wx [Rw 44 3 p nn cc (mV ev cw),X,Old w (fps [Rw 44 3 p nn cc (mV ev z),X])]) (fun (k,s,cw)=>nn - s) (nn,20,(insS d c a nn cur)) ⟨rfl,rfl,rfl,rfl,trivial⟩ ⟨(by omega),(by omega),hl10,hp11,rfl,(H9.tk [0,1,2])⟩ ?_
  rintro ⟨k,s,cw⟩ wq12 ⟨hs,hk,hclw,hppw,hR,H13⟩
  refine g_wk [(0,_),(1,_),(2,_),(6,_)] ?_
  refine g_seq ?_
  refine w_k5 ?_
  by_cases hb14:((s:Int):Int)<(nn:Int)
  ·
   refine g_ct hb14 ?_
   refine w_k5 ?_
   refine w_b (v:=.int .i64 (((0+2 * s:Nat):Int))) (hb:=(b_mul (r:=((0+2 * s:Nat):Int)) (by rw [show (2:Int) * (s:Int)=((0+2 * s:Nat):Int) from by omega]; exact w64 (by omega)))) ?_
   refine w_k5 ?_
   refine g_loop (ι:=Nat × Nat × List β) (fun (k2,a,cur2)=>[(0,.slice p nn cc),(1,.int .i64 ((nn:Int))),(2,.func (.func gc) fi ca),(6,.int .i64 ((s:Int))),(7,.int .i64 ((a:Int))),(8,.int .i64 (((a+2 * s:Nat):Int)))]) (fun (k2,a,cur2) wx=>(a≤nn)∧(nn≤a+k2)∧(cur2.length=nn)∧(cur2.Perm z)∧(symB d c s nn k2 a cur2=symB d c s nn nn 0 cw)∧S wx [Rw 44 3 p nn cc (mV ev cur2),X,Old w (fps [Rw 44 3 p nn cc (mV ev z),X])]) (fun (k2,a,cur2)=>nn - a) (nn,0,cw) ⟨rfl,rfl,rfl,rfl,rfl,rfl,trivial⟩ ⟨(Nat.zero_le _),(by omega),hclw,hppw,rfl,(H13.tk [0,1,2])⟩ ?_
   rintro ⟨k2,a,cur2⟩ wq15 ⟨ha,hk2,hcl2,hpp2,hR2,H16⟩
   refine g_wk [(0,_),(1,_),(2,_),(6,_),(7,_),(8,_)] ?_
   refine g_seq ?_
   refine w_k5 ?_
   by_cases hb17:(((a+2 * s:Nat):Int):Int)≤(nn:Int)
   ·
    refine g_ct hb17 ?_
    refine w_k8 ?_
    refine w_b (v:=.int .i64 (((a+s:Nat):Int))) (hb:=(b_addN (a:=a) (b:=s) (by omega))) ?_
    refine w_r2 ?_
    have hl20:(symS d c (2 * s) a (a+s) (a+2 * s) cur2).length=nn:=by rw [(symS_mv (d:=d) (c:=c) (n:=(2 * s)) (a:=a) (m:=(a+s)) (b:=(a+2 * s)) (by rw [hcl2]; omega) (by omega) (by omega) (by omega)).len]; exact hcl2
    have hp21:(symS d c (2 * s) a (a+s) (a+2 * s) cur2).Perm z:=(symS_mv (d:=d) (c:=c) (n:=(2 * s)) (a:=a) (m:=(a+s)) (b:=(a+2 * s)) (by rw [hcl2]; omega) (by omega) (by omega) (by omega)).1.trans (hpp2)
    refine l_of (s_cl (symS_s d ev cs hcs hsz ho z nn p cc hm c gc fi ca X hc (2 * s) cur2 hcl2 (hpp2) a (a+s) (a+2 * s) (by omega) (by omega) (by omega) (by omega) _ (H16.tk [0,1])) ?_)
    rintro _ wq18 ⟨rfl,H19⟩
    replace H19:S _ [_,_,_]:=H16.abI (new:=[_,_]) [0,1] H19 rfl
    refine b_ret rfl rfl ?_
    refine w_e ?_
    refine g_wk [(0,_),(1,_),(2,_),(6,_),(8,_)] ?_
    refine w_s ?_
    refine w_k6 ?_
    refine w_b (v:=.int .i64 (((2 * s:Nat):Int))) (hb:=(b_mul (r:=((2 * s:Nat):Int)) (by rw [show (2:Int) * (s:Int)=((2 * s:Nat):Int) from by omega]; exact w64 (by omega)))) ?_
    refine w_b (v:=.int .i64 (((a+2 * s+2 * s:Nat):Int))) (hb:=(b_addN (a:=a+2 * s) (b:=2 * s) (by omega))) ?_
    refine w_k4 ?_
    refine g_rd (i:=(k2,a,cur2)) ((k2 - 1),(a+2 * s),(symS d c (2 * s) a (a+s) (a+2 * s) cur2)) ⟨(by omega),(by omega),hl20,hp21,((symB_go (by omega) (by omega)).symm.trans hR2),(H19.tk [0,1,2])⟩
   ·
    refine g_cf hb17 ?_
    refine w_k9 ?_
    refine w_b (v:=.int .i64 (((a+s:Nat):Int))) (hb:=(b_addN (a:=a) (b:=s) (by omega))) ?_
    refine w_k7 ?_
    by_cases hb22:(((a+s:Nat):Int):Int)<(nn:Int)
    ·
     refine g_ct hb22 ?_
     refine w_k6 ?_
     have hl25:(symS d c (nn - a) a (a+s) nn cur2).length=nn:=by rw [(symS_mv (d:=d) (c:=c) (n:=(nn - a)) (a:=a) (m:=(a+s)) (b:=nn) (by rw [hcl2]; omega) (by omega) (by omega) (by omega)).len]; exact hcl2
     have hp26:(symS d c (nn - a) a (a+s) nn cur2).Perm z:=(symS_mv (d:=d) (c:=c) (n:=(nn - a)) (a:=a) (m:=(a+s)) (b:=nn) (by rw [hcl2]; omega) (by omega) (by omega) (by omega)).1.trans (hpp2)
     refine l_of (s_cl (symS_s d ev cs hcs hsz ho z nn p cc hm c gc fi ca X hc (nn - a) cur2 hcl2 (hpp2) a (a+s) nn (by omega) (by omega) (by omega) (by omega) _ (H16.tk [0,1])) ?_)
     rintro _ wq23 ⟨rfl,H24⟩
     replace H24:S _ [_,_,_]:=H16.abI (new:=[_,_]) [0,1] H24 rfl
     refine b_ret rfl rfl ?_
     refine w_e ?_
     refine g_wk [(0,_),(1,_),(2,_),(6,_)] ?_
     refine g_region ?_
     refine w_m ?_
     refine w_b (v:=.int .i64 (((2 * s:Nat):Int))) (hb:=(b_mul (r:=((2 * s:Nat):Int)) (by rw [show (s:Int) * (2:Int)=((2 * s:Nat):Int) from by omega]; exact w64 (by omega)))) ?_
     refine w_k4 ?_
     refine g_rd (i:=(k,s,cw)) ((k - 1),(2 * s),(symS d c (nn - a) a (a+s) nn cur2)) ⟨(by omega),(by omega),hl25,hp26,(by have h9:=(symA_go (l:=cw) (c:=c) (d:=d) (n:=nn) (k:=k) (s:=s) (by omega) (by omega)).symm.trans hR; rw [← hR2,symB_end (by omega),if_pos (by omega)] at h9; exact h9),(H24.tk [0,1,2])⟩
    ·
     refine g_cf hb22 ?_
     refine w_k2 ?_
     refine g_wk [(0,_),(1,_),(2,_),(6,_)] ?_
     refine g_region ?_
     refine w_m ?_
     refine w_b (v:=.int .i64 (((2 * s:Nat):Int))) (hb:=(b_mul (r:=((2 * s:Nat):Int)) (by rw [show (s:Int) * (2:Int)=((2 * s:Nat):Int) from by omega]; exact w64 (by omega)))) ?_
     refine w_k4 ?_
     refine g_rd (i:=(k,s,cw)) ((k - 1),(2 * s),cur2) ⟨(by omega),(by omega),hcl2,hpp2,(by have h9:=(symA_go (l:=cw) (c:=c) (d:=d) (n:=nn) (k:=k) (s:=s) (by omega) (by omega)).symm.trans hR; rw [← hR2,symB_end (by omega),if_neg (by omega)] at h9; exact h9),(H16.tk [0,1,2])⟩
  ·
   refine g_cf hb14 ?_
   refine w_k4 ?_
   refine fin_end [] [] rfl trivial ?_
   exact ⟨rfl,by unfold stableS; rw [hz]; rw [hRB,symA_end (by omega)] at hR; rw [← hR]; exact (H13.tk [0,1,2])⟩
theorem sortStable_s {β:Type} (d:β) (ev:β→Value) (cs:β→Array Value) (hcs:∀ x,ev x=.agg (cs x)) (hsz:∀ x,(ev x).cells.size=3) (ho:∀ x,(ev x).cells.toList.all (·.oneCell')=true) (z:List β) (nn:Nat) (hz:z.length=nn) (p:Option Addr) (cc:Nat) (hm:nn≤1099511627776) (c:β→β→Int) (gc:Nat) (fi ca:Array Value) (X:Item) (hc:Cmps Tryz.prog gc fi ca X ev c z)  (w:World) (HS:S w [Rw 44 3 p nn cc (mV ev z),X]):Calls Tryz.prog 136 #[.slice p nn cc,.func (.func gc) fi ca] w fun e w'=>e=.returned (.tuple #[])∧S w' ([Rw 44 3 p nn cc (mV ev (stableS d c z)),X]++[Old w (fps [Rw 44 3 p nn cc (mV ev z),X])]):=by
 have H0:=HS.beginI
 refine enter 9 Tryz.func136 rfl rfl rfl ?_
 refine g_wk [(0,_),(1,_)] ?_
 refine g_region ?_
 refine w_k4 ?_
 have hl3:(stableS d c z).length=nn:=by rw [(stable_perm d c z).length_eq]; exact hz
 have hp4:(stableS d c z).Perm z:=stable_perm d c z
 refine l_of (s_cl (stable0_s d ev cs hcs hsz ho z nn hz p cc hm c gc fi ca X hc _ (H0.tk [0,1])) ?_)
 rintro _ wq1 ⟨rfl,H2⟩
 replace H2:S _ [_,_,_]:=H0.abI (new:=[_,_]) [0,1] H2 rfl
 refine b_ret rfl rfl ?_
 refine w_0 ?_
 refine fin_end [] [] rfl trivial ?_
 exact ⟨rfl,(H2.tk [0,1,2])⟩
end Go.Proofs.YthmmfhdpkddniaaGreatDoor
