import Derived.Test.YthmmfhdpkddniaaGreatDoorRc
import Derived.Test.YthmmfhdpkddniaaGreatDoorFm
import Derived.Test.YthmmfhdpkddniaaGreatDoorGl
import Derived.Test.YthmmfhdpkddniaaGreatDoorProg
set_option maxRecDepth 20000
set_option maxHeartbeats 4000000
set_option linter.unusedSimpArgs false
set_option linter.unusedVariables false
namespace Go.Proofs.YthmmfhdpkddniaaGreatDoor
open Go.RowKit
theorem swR_s {β:Type} (d:β) (ev:β→Value) (cs:β→Array Value) (hcs:∀ x,ev x=.agg (cs x)) (hsz:∀ x,(ev x).cells.size=3) (ho:∀ x,(ev x).cells.toList.all (·.oneCell')=true) (z:List β) (nn:Nat) (hz:z.length=nn) (p:Option Addr) (cc:Nat) (hm:nn≤1099511627776) (a b n:Nat) (ha:a+n≤nn) (hb:b+n≤nn) (fv:Value) (w:World) (HS:S w [Rw 44 3 p nn cc (mV ev z)]):Calls Tryz.prog 201 #[.slice p nn cc,.int .i64 ((a:Int)),.int .i64 ((b:Int)),.int .i64 ((n:Int)),fv] w fun e w'=>e=.returned (.tuple #[])∧S w' ([Rw 44 3 p nn cc (mV ev (swR d a b n z))]++[Old w (fps [Rw 44 3 p nn cc (mV ev z)])]):=by
 have H0:=HS.beginI
 refine enter 38 Tryz.func201 rfl rfl rfl ?_
 refine g_wk [(0,_),(1,_),(2,_),(3,_),(4,_)] ?_
 refine w_s ?_
 refine w_k3 ?_
 refine g_loop (ι:=Nat × List β) (fun (i,cur)=>[(0,.slice p nn cc),(1,.int .i64 ((a:Int))),(2,.int .i64 ((b:Int))),(3,.int .i64 ((n:Int))),(10,.int .i64 ((i:Int)))]) (fun (i,cur) wx=>(i≤n)∧(cur.length=nn)∧(swr d a b (n - i) i cur=swR d a b n z)∧S wx [Rw 44 3 p nn cc (mV ev cur),Old w (fps [Rw 44 3 p nn cc (mV ev z)])]) (fun (i,cur)=>n - i) (0,z) ⟨rfl,rfl,rfl,rfl,rfl,trivial⟩ ⟨Nat.zero_le _,hz,rfl,(H0.tk [0,1])⟩ ?_
 rintro ⟨i,cur⟩ wq1 ⟨hi,hcl,hR,H2⟩
 refine g_wk [(0,_),(1,_),(2,_),(3,_),(10,_)] ?_
 refine g_seq ?_
 refine w_k5 ?_
 by_cases hb3:((i:Int):Int)<(n:Int)
 ·
  refine g_ct hb3 ?_
  refine w_k4 ?_
  refine g_anyY [] (fun wx=>S wx [Rw 44 3 p nn cc (mV ev cur),Old w (fps [Rw 44 3 p nn cc (mV ev z)])]) (fun wx=>S wx [Old w (fps [Rw 44 3 p nn cc (mV ev z)])]) [21,23] (by kernel_rfl) H2 (fun wq4 H5=>?_)
  refine y_p 0 rfl (fun _=>xm) ?_
  refine y_p 1 rfl (fun _=>xm) ?_
  refine y_p 2 rfl (fun _=>xm) ?_
  refine y_p (v:=.int .i64 (((a+i:Nat):Int))) 3 rfl (fun _=>x_bin rfl rfl rfl (b_addN (a:=a) (b:=i) (by omega))) ?_
  refine y_p 4 rfl (fun _=>xm) ?_
  refine y_p 5 rfl (fun _=>xm) ?_
  refine y_p 6 rfl (fun _=>xm) ?_
  refine y_p (v:=.int .i64 (((b+i:Nat):Int))) 7 rfl (fun _=>x_bin rfl rfl rfl (b_addN (a:=b) (b:=i) (by omega))) ?_
  refine y_p 8 rfl (fun _=>xm) ?_
  refine y_p 9 rfl (fun _=>xm) ?_
  refine y_p 10 rfl (fun _=>xm) ?_
  refine y_p (v:=.int .i64 (((b+i:Nat):Int))) 11 rfl (fun _=>x_bin rfl rfl rfl (b_addN (a:=b) (b:=i) (by omega))) ?_
  refine y_p 12 rfl (fun _=>x_ip (b+i) (H5.rwSome (k:=0) rfl (by omega))) ?_
  refine y_t (v:=ev (cur.getD (b+i) d)) 13 rfl H5 (fun _ H=>ex_cast (x_loadRA (vs:=(ev (cur.getD (b+i) d)).cells.toList) (b+i) (H.rr 0) (by omega) rfl rfl Tryz.underlying44 rfl sz44 (by rw [Array.length_toList]; exact hsz _) (mV_atR hsz (by omega))) (by rw [hcs]; rfl)) ?_
  refine y_p 14 rfl (fun _=>xm) ?_
  refine y_p 15 rfl (fun _=>xm) ?_
  refine y_p 16 rfl (fun _=>xm) ?_
  refine y_p (v:=.int .i64 (((a+i:Nat):Int))) 17 rfl (fun _=>x_bin rfl rfl rfl (b_addN (a:=a) (b:=i) (by omega))) ?_
  refine y_p 18 rfl (fun _=>x_ip (a+i) (H5.rwSome (k:=0) rfl (by omega))) ?_
  refine y_t (v:=ev (cur.getD (a+i) d)) 19 rfl H5 (fun _ H=>ex_cast (x_loadRA (vs:=(ev (cur.getD (a+i) d)).cells.toList) (a+i) (H.rr 0) (by omega) rfl rfl Tryz.underlying44 rfl sz44 (by rw [Array.length_toList]; exact hsz _) (mV_atR hsz (by omega))) (by rw [hcs]; rfl)) ?_
  refine y_p 20 rfl (fun _=>x_ip (a+i) (H5.rwSome (k:=0) rfl (by omega))) ?_
  refine y_one (i:=21) (by kernel_rfl) rfl ?_
  refine s_storeW (j:=(a+i)) H5 0 (wt0 rfl) rfl rfl rfl rfl rfl (by rw [hsz]; exact sz44) (hsz _) (ho _) (by omega) ?_
  intro wq6 H7
  rw [mV_set hsz (cur.getD (b+i) d) (by first | omega | (simp only [List.length_set]; omega))] at H7
  replace H7:S wq6 [Rw 44 3 p nn cc (mV ev (cur.set (a+i) (cur.getD (b+i) d))),Old w (fps [Rw 44 3 p nn cc (mV ev z)])]:=H7
  refine y_kt rfl (H7.mask [false,true]) ?_
  refine y_p 22 rfl (fun _=>x_ip (b+i) (H7.rwSome (k:=0) rfl (by omega))) ?_
  refine y_one (i:=23) (by kernel_rfl) rfl ?_
  refine s_storeW (j:=(b+i)) H7 0 (wt0 rfl) rfl rfl rfl rfl rfl (by rw [hsz]; exact sz44) (hsz _) (ho _) (by omega) ?_
  intro wq8 H9
  rw [mV_set hsz (cur.getD (a+i) d) (by first | omega | (simp only [List.length_set]; omega))] at H9
  replace H9:S wq8 [Rw 44 3 p nn cc (mV ev ((cur.set (a+i) (cur.getD (b+i) d)).set (b+i) (cur.getD (a+i) d))),Old w (fps [Rw 44 3 p nn cc (mV ev z)])]:=H9
  refine y_kt rfl (H9.mask [false,true]) ?_
  refine y_done (by kernel_rfl) ?_
  refine w_k2 ?_
  refine g_wk [(0,_),(1,_),(2,_),(3,_),(10,_)] ?_
  refine g_region ?_
  refine w_m ?_
  refine w_b (v:=.int .i64 (((i+1:Nat):Int))) (hb:=(b_addN (a:=i) (b:=1) (by omega))) ?_
  refine w_k2 ?_
  refine g_rd (i:=(i,cur)) ((i+1),((cur.set (a+i) (cur.getD (b+i) d)).set (b+i) (cur.getD (a+i) d))) ⟨by omega,(by simp only [List.length_set]; exact hcl),((swr_go (by omega)).symm.trans hR),(H9.tk [0,1])⟩
 ·
  refine g_cf hb3 ?_
  refine w_k4 ?_
  refine fin_end [] [] rfl trivial ?_
  exact ⟨rfl,by rw [← hR,swr_end (by omega)]; exact (H2.tk [0,1])⟩
theorem swr_len {β:Type} (d:β) (a b:Nat):∀ (n i:Nat) (l:List β),(swr d a b n i l).length=l.length
 | 0,_,_=>rfl
 | n+1,i,l=>by unfold swr; rw [swr_len d a b n,swp_len]
theorem swR_len {β:Type} {d:β} {a b n:Nat} {l:List β}:(swR d a b n l).length=l.length:=swr_len d a b n 0 l
theorem rotS_gt {β:Type} {d:β} {m n i j:Nat} {l:List β} (h:j<i) (hj:1≤j) (hn:i+j≤n+2):rotS d m n i j l=rotS d m (n - 1) (i - j) j (swR d (m - i) m j l):=by
 obtain ⟨k,rfl⟩:∃ k,n=k+1:=⟨n - 1,by omega⟩
 conv=>lhs; unfold rotS
 rw [if_neg (by omega),if_pos h]; rfl
theorem rotS_lt {β:Type} {d:β} {m n i j:Nat} {l:List β} (h:i<j) (hi:1≤i) (hn:i+j≤n+2):rotS d m n i j l=rotS d m (n - 1) i (j - i) (swR d (m - i) (m+j - i) i l):=by
 obtain ⟨k,rfl⟩:∃ k,n=k+1:=⟨n - 1,by omega⟩
 conv=>lhs; unfold rotS
 rw [if_neg (by omega),if_neg (by omega)]; rfl
theorem rotS_eq {β:Type} {d:β} {m n i:Nat} {l:List β}:rotS d m n i i l=swR d (m - i) m i l:=by
 cases n with
 | zero=>rfl
 | succ n=>unfold rotS; rw [if_pos rfl]
theorem rotS_s {β:Type} (d:β) (ev:β→Value) (cs:β→Array Value) (hcs:∀ x,ev x=.agg (cs x)) (hsz:∀ x,(ev x).cells.size=3) (ho:∀ x,(ev x).cells.toList.all (·.oneCell')=true) (z:List β) (nn:Nat) (hz:z.length=nn) (p:Option Addr) (cc:Nat) (hm:nn≤1099511627776) (a m b:Nat) (ham:a<m) (hmb:m<b) (hb:b≤nn) (fv:Value) (w:World) (HS:S w [Rw 44 3 p nn cc (mV ev z)]):Calls Tryz.prog 189 #[.slice p nn cc,.int .i64 ((a:Int)),.int .i64 ((m:Int)),.int .i64 ((b:Int)),fv] w fun e w'=>e=.returned (.tuple #[])∧S w' ([Rw 44 3 p nn cc (mV ev (rotS d m (b - a) (m - a) (b - m) z))]++[Old w (fps [Rw 44 3 p nn cc (mV ev z)])]):=by
 have H0:=HS.beginI
 refine enter 58 Tryz.func189 rfl rfl rfl ?_
 refine g_wk [(0,_),(1,_),(2,_),(3,_),(4,_)] ?_
 refine w_s ?_
 refine w_r2 ?_
 refine w_b (v:=.int .i64 (((m - a:Nat):Int))) (hb:=(b_subN (a:=m) (b:=a) (by omega))) ?_
 refine w_k5 ?_
 refine w_b (v:=.int .i64 (((b - m:Nat):Int))) (hb:=(b_subN (a:=b) (b:=m) (by omega))) ?_
 refine w_k4 ?_
 refine g_loop (ι:=Nat × Nat × Nat × List β) (fun (n,i,j,cur)=>[(0,.slice p nn cc),(2,.int .i64 ((m:Int))),(4,fv),(10,.int .i64 ((i:Int))),(11,.int .i64 ((j:Int)))]) (fun (n,i,j,cur) wx=>(1≤i∧1≤j∧a+i≤m∧m+j≤b)∧(i+j≤n+2)∧(cur.length=nn)∧(rotS d m n i j cur=rotS d m (b - a) (m - a) (b - m) z)∧S wx [Rw 44 3 p nn cc (mV ev cur),Old w (fps [Rw 44 3 p nn cc (mV ev z)])]) (fun (n,i,j,cur)=>i+j) ((b - a),(m - a),(b - m),z) ⟨rfl,rfl,rfl,rfl,rfl,trivial⟩ ⟨(by omega),(by omega),hz,rfl,(H0.tk [0,1])⟩ ?_
 rintro ⟨n,i,j,cur⟩ wq1 ⟨hij,hn,hcl,hR,H2⟩
 refine g_wk [(0,_),(2,_),(4,_),(10,_),(11,_)] ?_
 refine g_seq ?_
 refine w_k3 ?_
 refine w_b (v:=.bool (!decide (((i:Int):Int)=(j:Int)))) (hb:=b_neq) ?_
 refine w_e ?_
 by_cases hb3:((i:Int):Int)=(j:Int)
 ·
  refine g_nf hb3 ?_
  refine w_k9 ?_
  refine w_b (v:=.int .i64 (((m - i:Nat):Int))) (hb:=(b_subN (a:=m) (b:=i) (by omega))) ?_
  refine w_r3 ?_
  refine l_of (s_cl (swR_s d ev cs hcs hsz ho cur nn hcl p cc hm (m - i) m i (by omega) (by omega) (fv) _ (H2.tk [0])) ?_)
  rintro _ wq4 ⟨rfl,H5⟩
  replace H5:S _ [_,_]:=H2.abI (new:=[_]) [0] H5 rfl
  refine b_ret rfl rfl ?_
  refine w_0 ?_
  refine fin_end [] [] rfl trivial ?_
  have hij2:i=j:=by omega
  subst hij2
  exact ⟨rfl,by rw [← hR,rotS_eq]; exact (H5.tk [0,1])⟩
 ·
  refine g_nt hb3 ?_
  refine w_k8 ?_
  by_cases hb6:((j:Int):Int)<(i:Int)
  ·
   refine g_ct hb6 ?_
   refine w_k4 ?_
   refine w_b (v:=.int .i64 (((m - i:Nat):Int))) (hb:=(b_subN (a:=m) (b:=i) (by omega))) ?_
   refine w_r3 ?_
   refine l_of (s_cl (swR_s d ev cs hcs hsz ho cur nn hcl p cc hm (m - i) m j (by omega) (by omega) (fv) _ (H2.tk [0])) ?_)
   rintro _ wq7 ⟨rfl,H8⟩
   replace H8:S _ [_,_]:=H2.abI (new:=[_]) [0] H8 rfl
   refine b_ret rfl rfl ?_
   refine w_e ?_
   refine g_wk [(0,_),(2,_),(4,_),(10,_),(11,_)] ?_
   refine g_region ?_
   refine w_r2 ?_
   refine w_b (v:=.int .i64 (((i - j:Nat):Int))) (hb:=(b_subN (a:=i) (b:=j) (by omega))) ?_
   refine w_k4 ?_
   refine g_rd (i:=(n,i,j,cur)) ((n - 1),(i - j),j,(swR d (m - i) m j cur)) ⟨(by omega),(by omega),(by rw [swR_len]; exact hcl),((rotS_gt (by omega) (by omega) (by omega)).symm.trans hR),(H8.tk [0,1])⟩
  ·
   refine g_cf hb6 ?_
   refine w_k4 ?_
   refine w_b (v:=.int .i64 (((m - i:Nat):Int))) (hb:=(b_subN (a:=m) (b:=i) (by omega))) ?_
   refine w_r2 ?_
   refine w_b (v:=.int .i64 (((m+j:Nat):Int))) (hb:=(b_addN (a:=m) (b:=j) (by omega))) ?_
   refine w_m ?_
   refine w_b (v:=.int .i64 (((m+j - i:Nat):Int))) (hb:=(b_subN (a:=m+j) (b:=i) (by omega))) ?_
   refine w_r2 ?_
   refine l_of (s_cl (swR_s d ev cs hcs hsz ho cur nn hcl p cc hm (m - i) (m+j - i) i (by omega) (by omega) (fv) _ (H2.tk [0])) ?_)
   rintro _ wq9 ⟨rfl,H10⟩
   replace H10:S _ [_,_]:=H2.abI (new:=[_]) [0] H10 rfl
   refine b_ret rfl rfl ?_
   refine w_e ?_
   refine g_wk [(0,_),(2,_),(4,_),(10,_),(11,_)] ?_
   refine g_region ?_
   refine w_r2 ?_
   refine w_b (v:=.int .i64 (((j - i:Nat):Int))) (hb:=(b_subN (a:=j) (b:=i) (by omega))) ?_
   refine w_k4 ?_
   refine g_rd (i:=(n,i,j,cur)) ((n - 1),i,(j - i),(swR d (m - i) (m+j - i) i cur)) ⟨(by omega),(by omega),(by rw [swR_len]; exact hcl),((rotS_lt (by omega) (by omega) (by omega)).symm.trans hR),(H10.tk [0,1])⟩
theorem insS_s {β:Type} (d:β) (ev:β→Value) (cs:β→Array Value) (hcs:∀ x,ev x=.agg (cs x)) (hsz:∀ x,(ev x).cells.size=3) (ho:∀ x,(ev x).cells.toList.all (·.oneCell')=true) (z:List β) (nn:Nat) (hz:z.length=nn) (p:Option Addr) (cc:Nat) (hm:nn≤1099511627776) (c:β→β→Int) (gc:Nat) (fi ca:Array Value) (X:Item) (hc:Cmps Tryz.prog gc fi ca X ev c z) (a b:Nat) (hab:a≤b) (hb:b≤nn) (w:World) (HS:S w [Rw 44 3 p nn cc (mV ev z),X]):Calls Tryz.prog 172 #[.slice p nn cc,.int .i64 ((a:Int)),.int .i64 ((b:Int)),.func (.func gc) fi ca] w fun e w'=>e=.returned (.tuple #[])∧S w' ([Rw 44 3 p nn cc (mV ev (insS d c a b z)),X]++[Old w (fps [Rw 44 3 p nn cc (mV ev z),X])]):=by
 have H0:=HS.beginI
 refine enter 53 Tryz.func172 rfl rfl rfl ?_
 refine g_wk [(0,_),(1,_),(2,_),(3,_)] ?_
 refine w_s ?_
 refine w_m ?_
 refine w_b (v:=.int .i64 (((a+1:Nat):Int))) (hb:=(b_addN (a:=a) (b:=1) (by omega))) ?_
 refine w_k3 ?_
 refine g_loop (ι:=Nat × List β) (fun (i,cur)=>[(0,.slice p nn cc),(1,.int .i64 ((a:Int))),(2,.int .i64 ((b:Int))),(3,.func (.func gc) fi ca),(8,.int .i64 ((i:Int)))]) (fun (i,cur) wx=>(a+1≤i∧i≤max b (a+1))∧(cur.length=nn)∧(cur.Perm z)∧(insOut d c a (b - i) i cur=insS d c a b z)∧S wx [Rw 44 3 p nn cc (mV ev cur),X,Old w (fps [Rw 44 3 p nn cc (mV ev z),X])]) (fun (i,cur)=>b - i) ((a+1),z) ⟨rfl,rfl,rfl,rfl,rfl,trivial⟩ ⟨(by omega),hz,(.refl _),rfl,(H0.tk [0,1,2])⟩ ?_
 rintro ⟨i,cur⟩ wq1 ⟨hi,hcl,hpp,hR,H2⟩
 refine g_wk [(0,_),(1,_),(2,_),(3,_),(8,_)] ?_
 refine g_seq ?_
 refine w_k5 ?_
 by_cases hb3:((i:Int):Int)<(b:Int)
 ·
  refine g_ct hb3 ?_
  refine w_k9 ?_
  refine g_loop (ι:=Nat × List β) (fun (j,cur2)=>[(0,.slice p nn cc),(1,.int .i64 ((a:Int))),(2,.int .i64 ((b:Int))),(3,.func (.func gc) fi ca),(8,.int .i64 ((i:Int))),(9,.int .i64 ((j:Int)))]) (fun (j,cur2) wx=>(a≤j∧j≤i)∧(cur2.length=nn)∧(cur2.Perm z)∧(insIn d c a j cur2=insIn d c a i cur)∧S wx [Rw 44 3 p nn cc (mV ev cur2),X,Old w (fps [Rw 44 3 p nn cc (mV ev z),X])]) (fun (j,cur2)=>j) (i,cur) ⟨rfl,rfl,rfl,rfl,rfl,rfl,trivial⟩ ⟨(by omega),hcl,hpp,rfl,(H2.tk [0,1,2])⟩ ?_
  rintro ⟨j,cur2⟩ wq4 ⟨hj,hcl2,hpp2,hR2,H5⟩
  refine g_wk [(0,_),(1,_),(2,_),(3,_),(8,_),(9,_)] ?_
  have hpm:∀ y,y∈cur2→y∈z:=fun y hy=>(hpp2.mem_iff).1 hy
  iterate 2 refine g_seq ?_
  refine g_any [] (fun wx=>S wx [Rw 44 3 p nn cc (mV ev cur2),X,Old w (fps [Rw 44 3 p nn cc (mV ev z),X])]) [] (by kernel_rfl) H5 (fun wq6 H7=>?_)
  refine w_t 0 rfl H7 (fun _ _=>xm) ?_
  refine w_t 1 rfl H7 (fun _ _=>xm) ?_
  refine w_t 2 rfl H7 (fun _ _=>x_bin rfl rfl rfl b_gtr) ?_
  refine w_t 3 rfl H7 (fun _ _=>xm) ?_
  by_cases hb8:((a:Int):Int)<(j:Int)
  ·
   refine w_tg 4 rfl (decide_eq_true hb8) H7 (fun _ _=>xm) ?_
   refine w_tg 5 rfl (decide_eq_true hb8) H7 (fun _ _=>xm) ?_
   refine w_tg 6 rfl (decide_eq_true hb8) H7 (fun _ _=>xm) ?_
   refine w_tg (v:=.pointer ((p).map fun q=>q.add (j * 3))) 7 rfl (decide_eq_true hb8) H7 (fun _ _=>x_ip j (H7.rwSome (k:=0) rfl (by omega))) ?_
   refine w_tg (v:=ev (cur2.getD j d)) 8 rfl (decide_eq_true hb8) H7 (fun _ H=>ex_cast (x_loadRA (vs:=(ev (cur2.getD j d)).cells.toList) j (H.rr 0) (by omega) rfl rfl Tryz.underlying44 rfl sz44 (by rw [Array.length_toList]; exact hsz _) (mV_atR hsz (by omega))) (by rw [hcs]; rfl)) ?_
   refine w_tg 9 rfl (decide_eq_true hb8) H7 (fun _ _=>xm) ?_
   refine w_tg 10 rfl (decide_eq_true hb8) H7 (fun _ _=>xm) ?_
   refine w_tg (v:=.int .i64 (((j - 1:Nat):Int))) 11 rfl (decide_eq_true hb8) H7 (fun _ _=>x_bin rfl rfl rfl (b_subN (a:=j) (b:=1) (by omega))) ?_
   refine w_tg (v:=.pointer ((p).map fun q=>q.add ((j - 1) * 3))) 12 rfl (decide_eq_true hb8) H7 (fun _ _=>x_ip (j - 1) (H7.rwSome (k:=0) rfl (by omega))) ?_
   refine w_tg (v:=ev (cur2.getD (j - 1) d)) 13 rfl (decide_eq_true hb8) H7 (fun _ H=>ex_cast (x_loadRA (vs:=(ev (cur2.getD (j - 1) d)).cells.toList) (j - 1) (H.rr 0) (by omega) rfl rfl Tryz.underlying44 rfl sz44 (by rw [Array.length_toList]; exact hsz _) (mV_atR hsz (by omega))) (by rw [hcs]; rfl)) ?_
   refine a_one (i:=14) (by kernel_rfl) rfl ?_
   refine s_call (wt1 rfl rfl rfl rfl (decide_eq_true hb8)) (x_call rfl rfl rfl hc.ok) (hc.does _ (hpm _ (getD_mem (by omega))) _ (hpm _ (getD_mem (by omega))) _ (H7.tk [1])) ?_
   rintro _ wq9 ⟨rfl,H10⟩
   replace H10:S _ [_,_,_]:=H7.abI (new:=[_]) [1] H10 rfl
   refine b_ret rfl rfl ?_
   refine a_k (H10.tk [1,0,2]) ?_
   refine w_tg 15 rfl (decide_eq_true hb8) (H10.tk [1,0,2]) (fun _ _=>x_bin rfl rfl rfl b_lss) ?_
   refine w_t (v:=.bool (decide (((c (cur2.getD j d) (cur2.getD (j - 1) d)):Int)<0))) 16 rfl (H10.tk [1,0,2]) (fun _ _=>x_pick_t rfl rfl (decide_eq_true hb8) rfl) ?_
   refine a_done (by kernel_rfl) ?_
   refine w_0 ?_
   by_cases hb11:((c (cur2.getD j d) (cur2.getD (j - 1) d)):Int)<0
   ·
    refine g_ct hb11 ?_
    refine w_k4 ?_
    refine g_anyY [] (fun wx=>S wx [X,Rw 44 3 p nn cc (mV ev cur2),Old w (fps [Rw 44 3 p nn cc (mV ev z),X])]) (fun wx=>S wx [X,Old w (fps [Rw 44 3 p nn cc (mV ev z),X])]) [15,17] (by kernel_rfl) H10 (fun wq12 H13=>?_)
    refine y_p 0 rfl (fun _=>xm) ?_
    refine y_p 1 rfl (fun _=>xm) ?_
    refine y_p 2 rfl (fun _=>xm) ?_
    refine y_p 3 rfl (fun _=>xm) ?_
    refine y_p (v:=.int .i64 (((j - 1:Nat):Int))) 4 rfl (fun _=>x_bin rfl rfl rfl (b_subN (a:=j) (b:=1) (by omega))) ?_
    refine y_p 5 rfl (fun _=>xm) ?_
    refine y_p 6 rfl (fun _=>xm) ?_
    refine y_p (v:=.int .i64 (((j - 1:Nat):Int))) 7 rfl (fun _=>x_bin rfl rfl rfl (b_subN (a:=j) (b:=1) (by omega))) ?_
    refine y_p 8 rfl (fun _=>x_ip (j - 1) (H13.rwSome (k:=1) rfl (by omega))) ?_
    refine y_t (v:=ev (cur2.getD (j - 1) d)) 9 rfl H13 (fun _ H=>ex_cast (x_loadRA (vs:=(ev (cur2.getD (j - 1) d)).cells.toList) (j - 1) (H.rr 1) (by omega) rfl rfl Tryz.underlying44 rfl sz44 (by rw [Array.length_toList]; exact hsz _) (mV_atR hsz (by omega))) (by rw [hcs]; rfl)) ?_
    refine y_p 10 rfl (fun _=>xm) ?_
    refine y_p 11 rfl (fun _=>xm) ?_
    refine y_p 12 rfl (fun _=>x_ip j (H13.rwSome (k:=1) rfl (by omega))) ?_
    refine y_t (v:=ev (cur2.getD j d)) 13 rfl H13 (fun _ H=>ex_cast (x_loadRA (vs:=(ev (cur2.getD j d)).cells.toList) j (H.rr 1) (by omega) rfl rfl Tryz.underlying44 rfl sz44 (by rw [Array.length_toList]; exact hsz _) (mV_atR hsz (by omega))) (by rw [hcs]; rfl)) ?_
    refine y_p 14 rfl (fun _=>x_ip j (H13.rwSome (k:=1) rfl (by omega))) ?_
    refine y_one (i:=15) (by kernel_rfl) rfl ?_
    refine s_storeW (j:=j) H13 1 (wt0 rfl) rfl rfl rfl rfl rfl (by rw [hsz]; exact sz44) (hsz _) (ho _) (by omega) ?_
    intro wq14 H15
    rw [mV_set hsz (cur2.getD (j - 1) d) (by first | omega | (simp only [List.length_set]; omega))] at H15
    replace H15:S wq14 [X,Rw 44 3 p nn cc (mV ev (cur2.set j (cur2.getD (j - 1) d))),Old w (fps [Rw 44 3 p nn cc (mV ev z),X])]:=H15
    refine y_kt rfl (H15.mask [true,false,true]) ?_
    refine y_p 16 rfl (fun _=>x_ip (j - 1) (H15.rwSome (k:=1) rfl (by omega))) ?_
    refine y_one (i:=17) (by kernel_rfl) rfl ?_
    refine s_storeW (j:=(j - 1)) H15 1 (wt0 rfl) rfl rfl rfl rfl rfl (by rw [hsz]; exact sz44) (hsz _) (ho _) (by omega) ?_
    intro wq16 H17
    rw [mV_set hsz (cur2.getD j d) (by first | omega | (simp only [List.length_set]; omega))] at H17
    replace H17:S wq16 [X,Rw 44 3 p nn cc (mV ev ((cur2.set j (cur2.getD (j - 1) d)).set (j - 1) (cur2.getD j d))),Old w (fps [Rw 44 3 p nn cc (mV ev z),X])]:=H17
    refine y_kt rfl (H17.mask [true,false,true]) ?_
    refine y_done (by kernel_rfl) ?_
    refine w_k2 ?_
    refine g_wk [(0,_),(1,_),(2,_),(3,_),(8,_),(9,_),(22,_),(23,_),(24,_),(25,_),(26,_),(27,_),(28,_),(29,_),(30,_),(31,_),(32,_),(33,_)] ?_
    refine g_region ?_
    refine w_m ?_
    refine w_b (v:=.int .i64 (((j - 1:Nat):Int))) (hb:=(b_subN (a:=j) (b:=1) (by omega))) ?_
    refine w_k2 ?_
    refine g_rd (i:=(j,cur2)) ((j - 1),((cur2.set j (cur2.getD (j - 1) d)).set (j - 1) (cur2.getD j d))) ⟨(by omega),(by simp only [List.length_set]; exact hcl2),((swp_perm (by omega) (by omega)).trans hpp2),((insIn_go (by omega) hb11).symm.trans hR2),(H17.tk [1,0,2])⟩
   ·
    refine g_cf hb11 ?_
    refine w_0 ?_
    have hE:insIn d c a i cur=cur2:=hR2.symm.trans (insIn_stop hb11)
    refine w_k7 ?_
    refine w_b (v:=.int .i64 (((i+1:Nat):Int))) (hb:=(b_addN (a:=i) (b:=1) (by omega))) ?_
    refine w_k2 ?_
    refine g_rd (i:=(i,cur)) ((i+1),cur2) ⟨(by omega),hcl2,hpp2,(by rw [← hE,← insOut_go (by omega)]; exact hR),(H10.tk [1,0,2])⟩
  ·
   refine w_tn 4 rfl (decide_eq_false hb8) H7 ?_
   refine w_tn 5 rfl (decide_eq_false hb8) H7 ?_
   refine w_tn 6 rfl (decide_eq_false hb8) H7 ?_
   refine w_tn 7 rfl (decide_eq_false hb8) H7 ?_
   refine w_tn 8 rfl (decide_eq_false hb8) H7 ?_
   refine w_tn 9 rfl (decide_eq_false hb8) H7 ?_
   refine w_tn 10 rfl (decide_eq_false hb8) H7 ?_
   refine w_tn 11 rfl (decide_eq_false hb8) H7 ?_
   refine w_tn 12 rfl (decide_eq_false hb8) H7 ?_
   refine w_tn 13 rfl (decide_eq_false hb8) H7 ?_
   refine a_one (i:=14) (by kernel_rfl) rfl ?_
   refine s_not (wn1 rfl rfl rfl rfl (decide_eq_false hb8)) rfl rfl ?_
   refine a_k H7 ?_
   refine w_tn 15 rfl (decide_eq_false hb8) H7 ?_
   refine w_t (v:=.bool false) 16 rfl H7 (fun _ _=>x_pick_f rfl rfl (decide_eq_false hb8) rfl) ?_
   refine a_done (by kernel_rfl) ?_
   refine w_0 ?_
   refine g_cond_f rfl rfl ?_
   refine w_0 ?_
   have hE:insIn d c a i cur=cur2:=hR2.symm.trans (insIn_end (by omega))
   refine w_k7 ?_
   refine w_b (v:=.int .i64 (((i+1:Nat):Int))) (hb:=(b_addN (a:=i) (b:=1) (by omega))) ?_
   refine w_k2 ?_
   refine g_rd (i:=(i,cur)) ((i+1),cur2) ⟨(by omega),hcl2,hpp2,(by rw [← hE,← insOut_go (by omega)]; exact hR),(H7.tk [0,1,2])⟩
 ·
  refine g_cf hb3 ?_
  refine w_k4 ?_
  refine fin_end [] [] rfl trivial ?_
  exact ⟨rfl,by rw [← hR,insOut_end (by omega)]; exact (H2.tk [0,1,2])⟩
end Go.Proofs.YthmmfhdpkddniaaGreatDoor
