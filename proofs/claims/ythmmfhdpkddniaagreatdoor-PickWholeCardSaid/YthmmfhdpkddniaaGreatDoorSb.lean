import Derived.Test.YthmmfhdpkddniaaGreatDoorFm
import Derived.Test.YthmmfhdpkddniaaGreatDoorSa
set_option linter.unusedSimpArgs false
set_option linter.unusedVariables false
namespace Go.Proofs.YthmmfhdpkddniaaGreatDoor
open Go.RowKit
def Sym_s {β:Type} (d:β) (ev:β→Value) (gc:Nat) (fi ca:Array Value) (c:β→β→Int) (X:Item) (zall:List β) (nn:Nat) (p:Option Addr) (cc n:Nat):Prop:=
 ∀ (z:List β) (_:z.length=nn) (_:z.Perm zall) (a m b:Nat) (_:a<m) (_:m<b) (_:b≤nn) (_:b - a≤n) (w:World) (_:S w [Rw 44 3 p nn cc (mV ev z),X]),
   Calls Tryz.prog 173 #[.slice p nn cc,.int .i64 (a:Int),.int .i64 (m:Int),.int .i64 (b:Int),.func (.func gc) fi ca] w fun e w'=>e=.returned (.tuple #[])∧S w' ([Rw 44 3 p nn cc (mV ev (symS d c n a m b z)),X]++[Old w (fps [Rw 44 3 p nn cc (mV ev z),X])])
theorem symS_one {β:Type} {d:β} {c:β→β→Int} {n a m b:Nat} {z:List β} (h:m - a=1):symS d c (n+1) a m b z=shR d (bsS (fun h=>decide (c (z.getD h d) (z.getD a d)<0)) (b - m) m b - 1 - a) a z:=by
 unfold symS; rw [if_pos h]
theorem symS_two {β:Type} {d:β} {c:β→β→Int} {n a m b:Nat} {z:List β} (h:¬ m - a=1) (h2:b - m=1):symS d c (n+1) a m b z=shL d (m - bsS (fun h=>!decide (c (z.getD m d) (z.getD h d)<0)) (m - a) a m) m z:=by
 unfold symS; rw [if_neg h,if_pos h2]
theorem symS_gen {β:Type} {d:β} {c:β→β→Int} {n a m b:Nat} {z:List β} (h:¬ m - a=1) (h2:¬ b - m=1) {s0 r0 st en:Nat} {l1 l2:List β} (e1:s0=if (a+b) / 2<m then (a+b) / 2+m - b else a) (e2:r0=if (a+b) / 2<m then (a+b) / 2 else m)
   (e3:bsS (fun h=>!decide (c (z.getD ((a+b) / 2+m - 1 - h) d) (z.getD h d)<0)) (r0 - s0) s0 r0=st) (e4:en=(a+b) / 2+m - st) (e5:l1=if st<m∧m<en then rotS d m (en - st) (m - st) (en - m) z else z)
   (e6:l2=if a<st∧st<(a+b) / 2 then symS d c n a st ((a+b) / 2) l1 else l1):symS d c (n+1) a m b z=if (a+b) / 2<en∧en<b then symS d c n ((a+b) / 2) en b l2 else l2:=by
 conv=>lhs; unfold symS
 rw [if_neg h,if_neg h2]
 dsimp only
 rw [← e1,← e2,e3,← e4,← e5,← e6]
theorem sym_bnd {a b m s0 r0:Nat} (h1:a<m) (h2:m<b) (e1:s0=if (a+b) / 2<m then (a+b) / 2+m - b else a) (e2:r0=if (a+b) / 2<m then (a+b) / 2 else m):s0≤r0∧a≤s0∧r0≤m∧r0≤(a+b) / 2∧(a+b) / 2+m - b≤s0:=by
 subst e1 e2; split <;> omega
set_option maxRecDepth 20000 in
set_option maxHeartbeats 4000000 in
theorem symS_s_step {β:Type} (d:β) (ev:β→Value) (cs:β→Array Value) (hcs:∀ x,ev x=.agg (cs x)) (hsz:∀ x,(ev x).cells.size=3) (ho:∀ x,(ev x).cells.toList.all (·.oneCell')=true) (z:List β) (nn:Nat) (hz:z.length=nn) (p:Option Addr) (cc:Nat) (hm:nn≤1099511627776) (c:β→β→Int) (gc:Nat) (fi ca:Array Value) (X:Item) (zall:List β) (hpp:z.Perm zall) (hc:Cmps Tryz.prog gc fi ca X ev c zall) (n:Nat) (ih:Sym_s d ev gc fi ca c X zall nn p cc n) (a m b:Nat) (ham:a<m) (hmb:m<b) (hb:b≤nn) (hn:b - a≤n+1) (w:World) (HS:S w [Rw 44 3 p nn cc (mV ev z),X]):Calls Tryz.prog 173 #[.slice p nn cc,.int .i64 ((a:Int)),.int .i64 ((m:Int)),.int .i64 ((b:Int)),.func (.func gc) fi ca] w fun e w'=>e=.returned (.tuple #[])∧S w' ([Rw 44 3 p nn cc (mV ev (symS d c (n+1) a m b z)),X]++[Old w (fps [Rw 44 3 p nn cc (mV ev z),X])]):=by
 have H0:=HS.beginI
 have hpm:∀ y,y∈z→y∈zall:=fun y hy=>(hpp.mem_iff).1 hy
 refine enter 220 Tryz.func173 rfl rfl rfl ?_
 refine g_wk [(0,_),(1,_),(2,_),(3,_),(4,_)] ?_
 refine g_seq ?_
 refine w_k3 ?_
 refine w_b (v:=.int .i64 (((m - a:Nat):Int))) (hb:=(b_subN (a:=m) (b:=a) (by omega))) ?_
 refine w_k2 ?_
 by_cases hb1:(((m - a:Nat):Int):Int)=1
 ·
  refine g_ct hb1 ?_
  refine w_k10 ?_
  refine g_loop (ι:=Nat × Nat × Nat) (fun (n9,i,j)=>[(0,.slice p nn cc),(1,.int .i64 ((a:Int))),(4,.func (.func gc) fi ca),(10,.int .i64 ((i:Int))),(11,.int .i64 ((j:Int)))]) (fun (n9,i,j) wx=>(m≤i∧i≤j∧j≤b)∧(j - i≤n9)∧(bsS (fun h=>decide (c (z.getD h d) (z.getD a d)<0)) n9 i j=bsS (fun h=>decide (c (z.getD h d) (z.getD a d)<0)) (b - m) m b)∧S wx [Rw 44 3 p nn cc (mV ev z),X,Old w (fps [Rw 44 3 p nn cc (mV ev z),X])]) (fun (n9,i,j)=>j - i) ((b - m),m,b) ⟨rfl,rfl,rfl,rfl,rfl,trivial⟩ ⟨(by omega),(Nat.le_refl _),rfl,(H0.tk [0,1,2])⟩ ?_
  rintro ⟨n9,i,j⟩ wq2 ⟨hij,hn9,hbs,H3⟩
  refine g_wk [(0,_),(1,_),(4,_),(10,_),(11,_)] ?_
  refine g_seq ?_
  refine w_k5 ?_
  by_cases hb4:((i:Int):Int)<(j:Int)
  ·
   refine g_ct hb4 ?_
   refine w_k6 ?_
   refine w_b (v:=.int .i64 (((i+j:Nat):Int))) (hb:=(b_addN (a:=i) (b:=j) (by omega))) ?_
   refine w_v (v:=.int .u64 (((i+j:Nat):Int))) (x_conv rfl rfl Tryz.underlying3 Tryz.underlying144 (wrapU (by omega))) ?_
   refine w_b (v:=.int .u64 ((((i+j) / 2:Nat):Int))) (hb:=(b_shrN (a:=i+j) (n:=1) (by decide))) ?_
   refine w_v (v:=.int .i64 ((((i+j) / 2:Nat):Int))) (x_conv rfl rfl Tryz.underlying144 Tryz.underlying3 (w64 (by omega))) ?_
   refine w_k2 ?_
   refine g_seq ?_
   refine g_any [] (fun wx=>S wx [Rw 44 3 p nn cc (mV ev z),X,Old w (fps [Rw 44 3 p nn cc (mV ev z),X])]) [] (by kernel_rfl) H3 (fun wq5 H6=>?_)
   refine w_t 0 rfl H6 (fun _ _=>xm) ?_
   refine w_t 1 rfl H6 (fun _ _=>xm) ?_
   refine w_t 2 rfl H6 (fun _ _=>xm) ?_
   refine w_t (v:=.pointer ((p).map fun q=>q.add (((i+j) / 2) * 3))) 3 rfl H6 (fun _ _=>x_ip ((i+j) / 2) (H6.rwSome (k:=0) rfl (by omega))) ?_
   refine w_t (v:=ev (z.getD ((i+j) / 2) d)) 4 rfl H6 (fun _ H=>ex_cast (x_loadRA (vs:=(ev (z.getD ((i+j) / 2) d)).cells.toList) ((i+j) / 2) (H.rr 0) (by omega) rfl rfl Tryz.underlying44 rfl sz44 (by rw [Array.length_toList]; exact hsz _) (mV_atR hsz (by omega))) (by rw [hcs]; rfl)) ?_
   refine w_t 5 rfl H6 (fun _ _=>xm) ?_
   refine w_t 6 rfl H6 (fun _ _=>xm) ?_
   refine w_t (v:=.pointer ((p).map fun q=>q.add (a * 3))) 7 rfl H6 (fun _ _=>x_ip a (H6.rwSome (k:=0) rfl (by omega))) ?_
   refine w_t (v:=ev (z.getD a d)) 8 rfl H6 (fun _ H=>ex_cast (x_loadRA (vs:=(ev (z.getD a d)).cells.toList) a (H.rr 0) (by omega) rfl rfl Tryz.underlying44 rfl sz44 (by rw [Array.length_toList]; exact hsz _) (mV_atR hsz (by omega))) (by rw [hcs]; rfl)) ?_
   refine a_one (i:=9) (by kernel_rfl) rfl ?_
   refine s_call (wt0 rfl) (x_call rfl rfl rfl hc.ok) (hc.does _ (hpm _ (getD_mem (by omega))) _ (hpm _ (getD_mem (by omega))) _ (H6.tk [1])) ?_
   rintro _ wq7 ⟨rfl,H8⟩
   replace H8:S _ [_,_,_]:=H6.abI (new:=[_]) [1] H8 rfl
   refine b_ret rfl rfl ?_
   refine a_k (H8.tk [1,0,2]) ?_
   refine w_t 10 rfl (H8.tk [1,0,2]) (fun _ _=>x_bin rfl rfl rfl b_lss) ?_
   refine a_done (by kernel_rfl) ?_
   refine w_0 ?_
   refine g_wk [(0,_),(1,_),(4,_),(10,_),(11,_),(12,_),(50,_)] ?_
   by_cases hb9:((c (z.getD ((i+j) / 2) d) (z.getD a d)):Int)<0
   ·
    refine g_ct hb9 ?_
    refine w_k2 ?_
    refine w_b (v:=.int .i64 (((((i+j) / 2)+1:Nat):Int))) (hb:=(b_addN (a:=((i+j) / 2)) (b:=1) (by omega))) ?_
    refine w_k4 ?_
    refine g_rd (i:=(n9,i,j)) ((n9 - 1),((i+j) / 2+1),j) ⟨(by omega),(by omega),((bsS_t (by omega) hn9 (decide_eq_true hb9)).symm.trans hbs),(H8.tk [1,0,2])⟩
   ·
    refine g_cf hb9 ?_
    refine w_k6 ?_
    refine g_rd (i:=(n9,i,j)) ((n9 - 1),i,((i+j) / 2)) ⟨(by omega),(by omega),((bsS_f (by omega) hn9 (decide_eq_false hb9)).symm.trans hbs),(H8.tk [1,0,2])⟩
  ·
   refine g_cf hb4 ?_
   refine w_0 ?_
   have hst:i=bsS (fun h=>decide (c (z.getD h d) (z.getD a d)<0)) (b - m) m b:=(bsS_done (by omega)).symm.trans hbs
   obtain ⟨st,hst2⟩:∃ st,st=i:=⟨_,rfl⟩
   rw [← hst2] at hst
   have hst3:m≤st∧st≤b:=by omega
   rw [show i=st from hst2.symm]
   refine w_k10 ?_
   refine g_loop (ι:=Nat × List β) (fun (k,cur)=>[(0,.slice p nn cc),(10,.int .i64 ((st:Int))),(13,.int .i64 ((k:Int)))]) (fun (k,cur) wx=>(a≤k∧k<b)∧(cur.length=nn)∧(shR d (st - 1 - k) k cur=shR d (st - 1 - a) a z)∧S wx [Rw 44 3 p nn cc (mV ev cur),X,Old w (fps [Rw 44 3 p nn cc (mV ev z),X])]) (fun (k,cur)=>st - 1 - k) (a,z) ⟨rfl,rfl,rfl,trivial⟩ ⟨(by omega),hz,rfl,(H3.tk [0,1,2])⟩ ?_
   rintro ⟨k,cur⟩ wq10 ⟨hk,hcl,hR,H11⟩
   refine g_wk [(0,_),(10,_),(13,_)] ?_
   refine g_seq ?_
   refine w_k3 ?_
   refine w_b (v:=.int .i64 (((st - 1:Nat):Int))) (hb:=(b_subN (a:=st) (b:=1) (by omega))) ?_
   refine w_k2 ?_
   by_cases hb12:((k:Int):Int)<((st - 1:Nat):Int)
   ·
    refine g_ct hb12 ?_
    refine w_k4 ?_
    refine g_anyY [] (fun wx=>S wx [Rw 44 3 p nn cc (mV ev cur),X,Old w (fps [Rw 44 3 p nn cc (mV ev z),X])]) (fun wx=>S wx [X,Old w (fps [Rw 44 3 p nn cc (mV ev z),X])]) [15,17] (by kernel_rfl) H11 (fun wq13 H14=>?_)
    refine y_p 0 rfl (fun _=>xm) ?_
    refine y_p 1 rfl (fun _=>xm) ?_
    refine y_p 2 rfl (fun _=>xm) ?_
    refine y_p 3 rfl (fun _=>xm) ?_
    refine y_p (v:=.int .i64 (((k+1:Nat):Int))) 4 rfl (fun _=>x_bin rfl rfl rfl (b_addN (a:=k) (b:=1) (by omega))) ?_
    refine y_p 5 rfl (fun _=>xm) ?_
    refine y_p 6 rfl (fun _=>xm) ?_
    refine y_p (v:=.int .i64 (((k+1:Nat):Int))) 7 rfl (fun _=>x_bin rfl rfl rfl (b_addN (a:=k) (b:=1) (by omega))) ?_
    refine y_p 8 rfl (fun _=>x_ip (k+1) (H14.rwSome (k:=0) rfl (by omega))) ?_
    refine y_t (v:=ev (cur.getD (k+1) d)) 9 rfl H14 (fun _ H=>ex_cast (x_loadRA (vs:=(ev (cur.getD (k+1) d)).cells.toList) (k+1) (H.rr 0) (by omega) rfl rfl Tryz.underlying44 rfl sz44 (by rw [Array.length_toList]; exact hsz _) (mV_atR hsz (by omega))) (by rw [hcs]; rfl)) ?_
    refine y_p 10 rfl (fun _=>xm) ?_
    refine y_p 11 rfl (fun _=>xm) ?_
    refine y_p 12 rfl (fun _=>x_ip k (H14.rwSome (k:=0) rfl (by omega))) ?_
    refine y_t (v:=ev (cur.getD k d)) 13 rfl H14 (fun _ H=>ex_cast (x_loadRA (vs:=(ev (cur.getD k d)).cells.toList) k (H.rr 0) (by omega) rfl rfl Tryz.underlying44 rfl sz44 (by rw [Array.length_toList]; exact hsz _) (mV_atR hsz (by omega))) (by rw [hcs]; rfl)) ?_
    refine y_p 14 rfl (fun _=>x_ip k (H14.rwSome (k:=0) rfl (by omega))) ?_
    refine y_one (i:=15) (by kernel_rfl) rfl ?_
    refine s_storeW (j:=k) H14 0 (wt0 rfl) rfl rfl rfl rfl rfl (by rw [hsz]; exact sz44) (hsz _) (ho _) (by omega) ?_
    intro wq15 H16
    rw [mV_set hsz (cur.getD (k+1) d) (by first | omega | (simp only [List.length_set]; omega))] at H16
    replace H16:S wq15 [Rw 44 3 p nn cc (mV ev (cur.set k (cur.getD (k+1) d))),X,Old w (fps [Rw 44 3 p nn cc (mV ev z),X])]:=H16
    refine y_kt rfl (H16.mask [false,true,true]) ?_
    refine y_p 16 rfl (fun _=>x_ip (k+1) (H16.rwSome (k:=0) rfl (by omega))) ?_
    refine y_one (i:=17) (by kernel_rfl) rfl ?_
    refine s_storeW (j:=(k+1)) H16 0 (wt0 rfl) rfl rfl rfl rfl rfl (by rw [hsz]; exact sz44) (hsz _) (ho _) (by omega) ?_
    intro wq17 H18
    rw [mV_set hsz (cur.getD k d) (by first | omega | (simp only [List.length_set]; omega))] at H18
    replace H18:S wq17 [Rw 44 3 p nn cc (mV ev ((cur.set k (cur.getD (k+1) d)).set (k+1) (cur.getD k d))),X,Old w (fps [Rw 44 3 p nn cc (mV ev z),X])]:=H18
    refine y_kt rfl (H18.mask [false,true,true]) ?_
    refine y_done (by kernel_rfl) ?_
    refine w_k2 ?_
    refine g_wk [(0,_),(10,_),(13,_)] ?_
    refine g_region ?_
    refine w_m ?_
    refine w_b (v:=.int .i64 (((k+1:Nat):Int))) (hb:=(b_addN (a:=k) (b:=1) (by omega))) ?_
    refine w_k2 ?_
    refine g_rd (i:=(k,cur)) ((k+1),((cur.set k (cur.getD (k+1) d)).set (k+1) (cur.getD k d))) ⟨(by omega),(by simp only [List.length_set]; exact hcl),((shR_go (by omega)).symm.trans hR),(H18.tk [0,1,2])⟩
   ·
    refine g_cf hb12 ?_
    refine w_k7 ?_
    refine fin_ret [] [] rfl trivial ?_
    exact ⟨rfl,by rw [symS_one (by omega),← hst,← hR,shR_end (by omega)]; exact (H11.tk [0,1,2])⟩
 ·
  refine g_cf hb1 ?_
  refine w_k6 ?_
  refine w_b (v:=.int .i64 (((b - m:Nat):Int))) (hb:=(b_subN (a:=b) (b:=m) (by omega))) ?_
  refine w_k2 ?_
  by_cases hb19:(((b - m:Nat):Int):Int)=1
  ·
   refine g_ct hb19 ?_
   refine w_k8 ?_
   refine g_wk [(0,_),(2,_),(4,_),(14,_),(15,_)] ?_
   refine g_seq ?_
   refine w_0 ?_
   refine g_loop (ι:=Nat × Nat × Nat) (fun (n9,i,j)=>[(0,.slice p nn cc),(2,.int .i64 ((m:Int))),(4,.func (.func gc) fi ca),(14,.int .i64 ((i:Int))),(15,.int .i64 ((j:Int)))]) (fun (n9,i,j) wx=>(a≤i∧i≤j∧j≤m)∧(j - i≤n9)∧(bsS (fun h=>!decide (c (z.getD m d) (z.getD h d)<0)) n9 i j=bsS (fun h=>!decide (c (z.getD m d) (z.getD h d)<0)) (m - a) a m)∧S wx [Rw 44 3 p nn cc (mV ev z),X,Old w (fps [Rw 44 3 p nn cc (mV ev z),X])]) (fun (n9,i,j)=>j - i) ((m - a),a,m) ⟨rfl,rfl,rfl,rfl,rfl,trivial⟩ ⟨(by omega),(Nat.le_refl _),rfl,(H0.tk [0,1,2])⟩ ?_
   rintro ⟨n9,i,j⟩ wq20 ⟨hij,hn9,hbs,H21⟩
   refine g_wk [(0,_),(2,_),(4,_),(14,_),(15,_)] ?_
   refine g_seq ?_
   refine w_k5 ?_
   by_cases hb22:((i:Int):Int)<(j:Int)
   ·
    refine g_ct hb22 ?_
    refine w_k6 ?_
    refine w_b (v:=.int .i64 (((i+j:Nat):Int))) (hb:=(b_addN (a:=i) (b:=j) (by omega))) ?_
    refine w_v (v:=.int .u64 (((i+j:Nat):Int))) (x_conv rfl rfl Tryz.underlying3 Tryz.underlying144 (wrapU (by omega))) ?_
    refine w_b (v:=.int .u64 ((((i+j) / 2:Nat):Int))) (hb:=(b_shrN (a:=i+j) (n:=1) (by decide))) ?_
    refine w_v (v:=.int .i64 ((((i+j) / 2:Nat):Int))) (x_conv rfl rfl Tryz.underlying144 Tryz.underlying3 (w64 (by omega))) ?_
    refine w_k2 ?_
    refine g_seq ?_
    refine g_any [] (fun wx=>S wx [Rw 44 3 p nn cc (mV ev z),X,Old w (fps [Rw 44 3 p nn cc (mV ev z),X])]) [] (by kernel_rfl) H21 (fun wq23 H24=>?_)
    refine w_t 0 rfl H24 (fun _ _=>xm) ?_
    refine w_t 1 rfl H24 (fun _ _=>xm) ?_
    refine w_t 2 rfl H24 (fun _ _=>xm) ?_
    refine w_t (v:=.pointer ((p).map fun q=>q.add (m * 3))) 3 rfl H24 (fun _ _=>x_ip m (H24.rwSome (k:=0) rfl (by omega))) ?_
    refine w_t (v:=ev (z.getD m d)) 4 rfl H24 (fun _ H=>ex_cast (x_loadRA (vs:=(ev (z.getD m d)).cells.toList) m (H.rr 0) (by omega) rfl rfl Tryz.underlying44 rfl sz44 (by rw [Array.length_toList]; exact hsz _) (mV_atR hsz (by omega))) (by rw [hcs]; rfl)) ?_
    refine w_t 5 rfl H24 (fun _ _=>xm) ?_
    refine w_t 6 rfl H24 (fun _ _=>xm) ?_
    refine w_t (v:=.pointer ((p).map fun q=>q.add (((i+j) / 2) * 3))) 7 rfl H24 (fun _ _=>x_ip ((i+j) / 2) (H24.rwSome (k:=0) rfl (by omega))) ?_
    refine w_t (v:=ev (z.getD ((i+j) / 2) d)) 8 rfl H24 (fun _ H=>ex_cast (x_loadRA (vs:=(ev (z.getD ((i+j) / 2) d)).cells.toList) ((i+j) / 2) (H.rr 0) (by omega) rfl rfl Tryz.underlying44 rfl sz44 (by rw [Array.length_toList]; exact hsz _) (mV_atR hsz (by omega))) (by rw [hcs]; rfl)) ?_
    refine a_one (i:=9) (by kernel_rfl) rfl ?_
    refine s_call (wt0 rfl) (x_call rfl rfl rfl hc.ok) (hc.does _ (hpm _ (getD_mem (by omega))) _ (hpm _ (getD_mem (by omega))) _ (H24.tk [1])) ?_
    rintro _ wq25 ⟨rfl,H26⟩
    replace H26:S _ [_,_,_]:=H24.abI (new:=[_]) [1] H26 rfl
    refine b_ret rfl rfl ?_
    refine a_k (H26.tk [1,0,2]) ?_
    refine w_t 10 rfl (H26.tk [1,0,2]) (fun _ _=>x_bin rfl rfl rfl b_lss) ?_
    refine w_t (v:=.bool (!decide (((c (z.getD m d) (z.getD ((i+j) / 2) d)):Int)<0))) 11 rfl (H26.tk [1,0,2]) (fun _ _=>x_not (b:=decide (((c (z.getD m d) (z.getD ((i+j) / 2) d)):Int)<0)) rfl rfl) ?_
    refine a_done (by kernel_rfl) ?_
    refine w_0 ?_
    refine g_wk [(0,_),(2,_),(4,_),(14,_),(15,_),(16,_),(103,_)] ?_
    by_cases hb27:((c (z.getD m d) (z.getD ((i+j) / 2) d)):Int)<0
    ·
     refine g_nf hb27 ?_
     refine w_k6 ?_
     refine g_rd (i:=(n9,i,j)) ((n9 - 1),i,((i+j) / 2)) ⟨(by omega),(by omega),((bsS_f (by omega) hn9 (nf hb27)).symm.trans hbs),(H26.tk [1,0,2])⟩
    ·
     refine g_nt hb27 ?_
     refine w_k2 ?_
     refine w_b (v:=.int .i64 (((((i+j) / 2)+1:Nat):Int))) (hb:=(b_addN (a:=((i+j) / 2)) (b:=1) (by omega))) ?_
     refine w_k4 ?_
     refine g_rd (i:=(n9,i,j)) ((n9 - 1),((i+j) / 2+1),j) ⟨(by omega),(by omega),((bsS_t (by omega) hn9 (nt hb27)).symm.trans hbs),(H26.tk [1,0,2])⟩
   ·
    refine g_cf hb22 ?_
    refine w_0 ?_
    have hst:i=bsS (fun h=>!decide (c (z.getD m d) (z.getD h d)<0)) (m - a) a m:=(bsS_done (by omega)).symm.trans hbs
    obtain ⟨st,hst2⟩:∃ st,st=i:=⟨_,rfl⟩
    rw [← hst2] at hst
    have hst3:a≤st∧st≤m:=by omega
    rw [show i=st from hst2.symm]
    refine w_k10 ?_
    refine g_loop (ι:=Nat × List β) (fun (k,cur)=>[(0,.slice p nn cc),(14,.int .i64 ((st:Int))),(17,.int .i64 ((k:Int)))]) (fun (k,cur) wx=>(k≤m∧(k=m∨st≤k))∧(cur.length=nn)∧(shL d (k - st) k cur=shL d (m - st) m z)∧S wx [Rw 44 3 p nn cc (mV ev cur),X,Old w (fps [Rw 44 3 p nn cc (mV ev z),X])]) (fun (k,cur)=>k - st) (m,z) ⟨rfl,rfl,rfl,trivial⟩ ⟨(by omega),hz,rfl,(H21.tk [0,1,2])⟩ ?_
    rintro ⟨k,cur⟩ wq28 ⟨hk,hcl,hR,H29⟩
    refine g_wk [(0,_),(14,_),(17,_)] ?_
    refine g_seq ?_
    refine w_k5 ?_
    by_cases hb30:((st:Int):Int)<(k:Int)
    ·
     refine g_ct hb30 ?_
     refine w_k4 ?_
     refine g_anyY [] (fun wx=>S wx [Rw 44 3 p nn cc (mV ev cur),X,Old w (fps [Rw 44 3 p nn cc (mV ev z),X])]) (fun wx=>S wx [X,Old w (fps [Rw 44 3 p nn cc (mV ev z),X])]) [15,17] (by kernel_rfl) H29 (fun wq31 H32=>?_)
     refine y_p 0 rfl (fun _=>xm) ?_
     refine y_p 1 rfl (fun _=>xm) ?_
     refine y_p 2 rfl (fun _=>xm) ?_
     refine y_p 3 rfl (fun _=>xm) ?_
     refine y_p (v:=.int .i64 (((k - 1:Nat):Int))) 4 rfl (fun _=>x_bin rfl rfl rfl (b_subN (a:=k) (b:=1) (by omega))) ?_
     refine y_p 5 rfl (fun _=>xm) ?_
     refine y_p 6 rfl (fun _=>xm) ?_
     refine y_p (v:=.int .i64 (((k - 1:Nat):Int))) 7 rfl (fun _=>x_bin rfl rfl rfl (b_subN (a:=k) (b:=1) (by omega))) ?_
     refine y_p 8 rfl (fun _=>x_ip (k - 1) (H32.rwSome (k:=0) rfl (by omega))) ?_
     refine y_t (v:=ev (cur.getD (k - 1) d)) 9 rfl H32 (fun _ H=>ex_cast (x_loadRA (vs:=(ev (cur.getD (k - 1) d)).cells.toList) (k - 1) (H.rr 0) (by omega) rfl rfl Tryz.underlying44 rfl sz44 (by rw [Array.length_toList]; exact hsz _) (mV_atR hsz (by omega))) (by rw [hcs]; rfl)) ?_
     refine y_p 10 rfl (fun _=>xm) ?_
     refine y_p 11 rfl (fun _=>xm) ?_
     refine y_p 12 rfl (fun _=>x_ip k (H32.rwSome (k:=0) rfl (by omega))) ?_
     refine y_t (v:=ev (cur.getD k d)) 13 rfl H32 (fun _ H=>ex_cast (x_loadRA (vs:=(ev (cur.getD k d)).cells.toList) k (H.rr 0) (by omega) rfl rfl Tryz.underlying44 rfl sz44 (by rw [Array.length_toList]; exact hsz _) (mV_atR hsz (by omega))) (by rw [hcs]; rfl)) ?_
     refine y_p 14 rfl (fun _=>x_ip k (H32.rwSome (k:=0) rfl (by omega))) ?_
     refine y_one (i:=15) (by kernel_rfl) rfl ?_
     refine s_storeW (j:=k) H32 0 (wt0 rfl) rfl rfl rfl rfl rfl (by rw [hsz]; exact sz44) (hsz _) (ho _) (by omega) ?_
     intro wq33 H34
     rw [mV_set hsz (cur.getD (k - 1) d) (by first | omega | (simp only [List.length_set]; omega))] at H34
     replace H34:S wq33 [Rw 44 3 p nn cc (mV ev (cur.set k (cur.getD (k - 1) d))),X,Old w (fps [Rw 44 3 p nn cc (mV ev z),X])]:=H34
     refine y_kt rfl (H34.mask [false,true,true]) ?_
     refine y_p 16 rfl (fun _=>x_ip (k - 1) (H34.rwSome (k:=0) rfl (by omega))) ?_
     refine y_one (i:=17) (by kernel_rfl) rfl ?_
     refine s_storeW (j:=(k - 1)) H34 0 (wt0 rfl) rfl rfl rfl rfl rfl (by rw [hsz]; exact sz44) (hsz _) (ho _) (by omega) ?_
     intro wq35 H36
     rw [mV_set hsz (cur.getD k d) (by first | omega | (simp only [List.length_set]; omega))] at H36
     replace H36:S wq35 [Rw 44 3 p nn cc (mV ev ((cur.set k (cur.getD (k - 1) d)).set (k - 1) (cur.getD k d))),X,Old w (fps [Rw 44 3 p nn cc (mV ev z),X])]:=H36
     refine y_kt rfl (H36.mask [false,true,true]) ?_
     refine y_done (by kernel_rfl) ?_
     refine w_k2 ?_
     refine g_wk [(0,_),(14,_),(17,_)] ?_
     refine g_region ?_
     refine w_m ?_
     refine w_b (v:=.int .i64 (((k - 1:Nat):Int))) (hb:=(b_subN (a:=k) (b:=1) (by omega))) ?_
     refine w_k2 ?_
     refine g_rd (i:=(k,cur)) ((k - 1),((cur.set k (cur.getD (k - 1) d)).set (k - 1) (cur.getD k d))) ⟨(by omega),(by simp only [List.length_set]; exact hcl),((shL_go (by omega)).symm.trans hR),(H36.tk [0,1,2])⟩
    ·
     refine g_cf hb30 ?_
     refine w_k7 ?_
     refine fin_ret [] [] rfl trivial ?_
     exact ⟨rfl,by rw [symS_two (by omega) (by omega),← hst,← hR,shL_end (by omega)]; exact (H29.tk [0,1,2])⟩
  ·
   refine g_cf hb19 ?_
   refine w_k5 ?_
   refine w_b (v:=.int .i64 (((a+b:Nat):Int))) (hb:=(b_addN (a:=a) (b:=b) (by omega))) ?_
   refine w_v (v:=.int .u64 (((a+b:Nat):Int))) (x_conv rfl rfl Tryz.underlying3 Tryz.underlying144 (wrapU (by omega))) ?_
   refine w_b (v:=.int .u64 ((((a+b) / 2:Nat):Int))) (hb:=(b_shrN (a:=a+b) (n:=1) (by decide))) ?_
   refine w_v (v:=.int .i64 ((((a+b) / 2:Nat):Int))) (x_conv rfl rfl Tryz.underlying144 Tryz.underlying3 (w64 (by omega))) ?_
   refine w_k2 ?_
   refine g_wk [(0,_),(1,_),(2,_),(3,_),(4,_),(18,_)] ?_
   refine w_s ?_
   refine w_r2 ?_
   refine w_b (v:=.int .i64 (((((a+b) / 2)+m:Nat):Int))) (hb:=(b_addN (a:=((a+b) / 2)) (b:=m) (by omega))) ?_
   refine w_k6 ?_
   refine g_seq ?_
   refine g_cut (ι:=Nat × Nat) (fun (s0,r0)=>[(0,.slice p nn cc),(1,.int .i64 ((a:Int))),(2,.int .i64 ((m:Int))),(3,.int .i64 ((b:Int))),(4,.func (.func gc) fi ca),(18,.int .i64 ((((a+b) / 2:Nat):Int))),(19,.int .i64 (((((a+b) / 2)+m:Nat):Int))),(20,.int .i64 ((s0:Int))),(21,.int .i64 ((r0:Int)))]) (fun (s0,r0) wx=>(s0=if (a+b) / 2<m then (a+b) / 2+m - b else a)∧(r0=if (a+b) / 2<m then (a+b) / 2 else m)∧S wx [Rw 44 3 p nn cc (mV ev z),X,Old w (fps [Rw 44 3 p nn cc (mV ev z),X])]) ?_ ?_
   ·
    refine w_k5 ?_
    by_cases hb37:((((a+b) / 2:Nat):Int):Int)<(m:Int)
    ·
     refine g_ct hb37 ?_
     refine w_k3 ?_
     refine w_b (v:=.int .i64 ((((a+b) / 2+m - b:Nat):Int))) (hb:=(b_subN (a:=(a+b) / 2+m) (b:=b) (by omega))) ?_
     refine w_k6 ?_
     refine g_mid (((a+b) / 2+m - b),((a+b) / 2)) ?_ ?_
     · exact ⟨rfl,rfl,rfl,rfl,rfl,rfl,rfl,rfl,rfl,trivial⟩
     · exact ⟨((if_pos (by omega)).symm),((if_pos (by omega)).symm),H0⟩
    ·
     refine g_cf hb37 ?_
     refine w_k8 ?_
     refine g_mid (a,m) ?_ ?_
     · exact ⟨rfl,rfl,rfl,rfl,rfl,rfl,rfl,rfl,rfl,trivial⟩
     · exact ⟨((if_neg (by omega)).symm),((if_neg (by omega)).symm),H0⟩
   rintro ⟨s0,r0⟩ wq38 ⟨hs0,hr0,H39⟩
   refine g_wk [(0,_),(1,_),(2,_),(3,_),(4,_),(18,_),(19,_),(20,_),(21,_)] ?_
   refine w_s ?_
   refine w_m ?_
   refine w_b (v:=.int .i64 ((((a+b) / 2+m - 1:Nat):Int))) (hb:=(b_subN (a:=(a+b) / 2+m) (b:=1) (by omega))) ?_
   refine w_k4 ?_
   obtain ⟨hb1,hb2,hb3,hb4,hb5⟩:=sym_bnd ham hmb hs0 hr0
   refine g_loop (ι:=Nat × Nat × Nat) (fun (n9,s,r)=>[(0,.slice p nn cc),(1,.int .i64 ((a:Int))),(2,.int .i64 ((m:Int))),(3,.int .i64 ((b:Int))),(4,.func (.func gc) fi ca),(18,.int .i64 ((((a+b) / 2:Nat):Int))),(19,.int .i64 (((((a+b) / 2)+m:Nat):Int))),(20,.int .i64 ((s:Int))),(21,.int .i64 ((r:Int))),(22,.int .i64 ((((a+b) / 2+m - 1:Nat):Int)))]) (fun (n9,s,r) wx=>(s0≤s∧s≤r∧r≤r0)∧(r - s≤n9)∧(bsS (fun h=>!decide (c (z.getD ((a+b) / 2+m - 1 - h) d) (z.getD h d)<0)) n9 s r=bsS (fun h=>!decide (c (z.getD ((a+b) / 2+m - 1 - h) d) (z.getD h d)<0)) (r0 - s0) s0 r0)∧S wx [Rw 44 3 p nn cc (mV ev z),X,Old w (fps [Rw 44 3 p nn cc (mV ev z),X])]) (fun (n9,s,r)=>r - s) ((r0 - s0),s0,r0) ⟨rfl,rfl,rfl,rfl,rfl,rfl,rfl,rfl,rfl,rfl,trivial⟩ ⟨(by omega),(Nat.le_refl _),rfl,(H39.tk [0,1,2])⟩ ?_
   rintro ⟨n9,s,r⟩ wq40 ⟨hij,hn9,hbs,H41⟩
   refine g_wk [(0,_),(1,_),(2,_),(3,_),(4,_),(18,_),(19,_),(20,_),(21,_),(22,_)] ?_
   refine g_seq ?_
   refine w_k5 ?_
   by_cases hb42:((s:Int):Int)<(r:Int)
   ·
    refine g_ct hb42 ?_
    refine w_k6 ?_
    refine w_b (v:=.int .i64 (((s+r:Nat):Int))) (hb:=(b_addN (a:=s) (b:=r) (by omega))) ?_
    refine w_v (v:=.int .u64 (((s+r:Nat):Int))) (x_conv rfl rfl Tryz.underlying3 Tryz.underlying144 (wrapU (by omega))) ?_
    refine w_b (v:=.int .u64 ((((s+r) / 2:Nat):Int))) (hb:=(b_shrN (a:=s+r) (n:=1) (by decide))) ?_
    refine w_v (v:=.int .i64 ((((s+r) / 2:Nat):Int))) (x_conv rfl rfl Tryz.underlying144 Tryz.underlying3 (w64 (by omega))) ?_
    refine w_k2 ?_
    refine g_seq ?_
    refine g_any [] (fun wx=>S wx [Rw 44 3 p nn cc (mV ev z),X,Old w (fps [Rw 44 3 p nn cc (mV ev z),X])]) [] (by kernel_rfl) H41 (fun wq43 H44=>?_)
    refine w_t 0 rfl H44 (fun _ _=>xm) ?_
    refine w_t 1 rfl H44 (fun _ _=>xm) ?_
    refine w_t 2 rfl H44 (fun _ _=>xm) ?_
    refine w_t 3 rfl H44 (fun _ _=>xm) ?_
    refine w_t (v:=.int .i64 ((((a+b) / 2+m - 1 - (s+r) / 2:Nat):Int))) 4 rfl H44 (fun _ _=>x_bin rfl rfl rfl (b_subN (a:=(a+b) / 2+m - 1) (b:=(s+r) / 2) (by omega))) ?_
    refine w_t (v:=.pointer ((p).map fun q=>q.add (((a+b) / 2+m - 1 - (s+r) / 2) * 3))) 5 rfl H44 (fun _ _=>x_ip ((a+b) / 2+m - 1 - (s+r) / 2) (H44.rwSome (k:=0) rfl (by omega))) ?_
    refine w_t (v:=ev (z.getD ((a+b) / 2+m - 1 - (s+r) / 2) d)) 6 rfl H44 (fun _ H=>ex_cast (x_loadRA (vs:=(ev (z.getD ((a+b) / 2+m - 1 - (s+r) / 2) d)).cells.toList) ((a+b) / 2+m - 1 - (s+r) / 2) (H.rr 0) (by omega) rfl rfl Tryz.underlying44 rfl sz44 (by rw [Array.length_toList]; exact hsz _) (mV_atR hsz (by omega))) (by rw [hcs]; rfl)) ?_
    refine w_t 7 rfl H44 (fun _ _=>xm) ?_
    refine w_t 8 rfl H44 (fun _ _=>xm) ?_
    refine w_t (v:=.pointer ((p).map fun q=>q.add (((s+r) / 2) * 3))) 9 rfl H44 (fun _ _=>x_ip ((s+r) / 2) (H44.rwSome (k:=0) rfl (by omega))) ?_
    refine w_t (v:=ev (z.getD ((s+r) / 2) d)) 10 rfl H44 (fun _ H=>ex_cast (x_loadRA (vs:=(ev (z.getD ((s+r) / 2) d)).cells.toList) ((s+r) / 2) (H.rr 0) (by omega) rfl rfl Tryz.underlying44 rfl sz44 (by rw [Array.length_toList]; exact hsz _) (mV_atR hsz (by omega))) (by rw [hcs]; rfl)) ?_
    refine a_one (i:=11) (by kernel_rfl) rfl ?_
    refine s_call (wt0 rfl) (x_call rfl rfl rfl hc.ok) (hc.does _ (hpm _ (getD_mem (by omega))) _ (hpm _ (getD_mem (by omega))) _ (H44.tk [1])) ?_
    rintro _ wq45 ⟨rfl,H46⟩
    replace H46:S _ [_,_,_]:=H44.abI (new:=[_]) [1] H46 rfl
    refine b_ret rfl rfl ?_
    refine a_k (H46.tk [1,0,2]) ?_
    refine w_t 12 rfl (H46.tk [1,0,2]) (fun _ _=>x_bin rfl rfl rfl b_lss) ?_
    refine w_t (v:=.bool (!decide (((c (z.getD ((a+b) / 2+m - 1 - (s+r) / 2) d) (z.getD ((s+r) / 2) d)):Int)<0))) 13 rfl (H46.tk [1,0,2]) (fun _ _=>x_not (b:=decide (((c (z.getD ((a+b) / 2+m - 1 - (s+r) / 2) d) (z.getD ((s+r) / 2) d)):Int)<0)) rfl rfl) ?_
    refine a_done (by kernel_rfl) ?_
    refine w_0 ?_
    refine g_wk [(0,_),(1,_),(2,_),(3,_),(4,_),(18,_),(19,_),(20,_),(21,_),(22,_),(23,_),(171,_)] ?_
    by_cases hb47:((c (z.getD ((a+b) / 2+m - 1 - (s+r) / 2) d) (z.getD ((s+r) / 2) d)):Int)<0
    ·
     refine g_nf hb47 ?_
     refine w_k6 ?_
     refine g_rd (i:=(n9,s,r)) ((n9 - 1),s,((s+r) / 2)) ⟨(by omega),(by omega),((bsS_f (by omega) hn9 (nf hb47)).symm.trans hbs),(H46.tk [1,0,2])⟩
    ·
     refine g_nt hb47 ?_
     refine w_k2 ?_
     refine w_b (v:=.int .i64 (((((s+r) / 2)+1:Nat):Int))) (hb:=(b_addN (a:=((s+r) / 2)) (b:=1) (by omega))) ?_
     refine w_k4 ?_
     refine g_rd (i:=(n9,s,r)) ((n9 - 1),((s+r) / 2+1),r) ⟨(by omega),(by omega),((bsS_t (by omega) hn9 (nt hb47)).symm.trans hbs),(H46.tk [1,0,2])⟩
   ·
    refine g_cf hb42 ?_
    refine w_0 ?_
    have hst:s=bsS (fun h=>!decide (c (z.getD ((a+b) / 2+m - 1 - h) d) (z.getD h d)<0)) (r0 - s0) s0 r0:=(bsS_done (by omega)).symm.trans hbs
    obtain ⟨st,hst2⟩:∃ st,st=s:=⟨_,rfl⟩
    rw [← hst2] at hst
    have hst3:s0≤st∧st≤r0:=by omega
    rw [show s=st from hst2.symm]
    refine w_k7 ?_
    obtain ⟨en,hen⟩:∃ en,en=(a+b) / 2+m - st:=⟨_,rfl⟩
    have hen2:m≤en∧en≤b∧a≤st∧st≤m∧st≤(a+b) / 2∧(a+b) / 2≤en∧((st<m∧m<en)→en - st<b - a+1):=by omega
    refine w_v (v:=.int .i64 ((en:Int))) (ex_cast (x_bin rfl rfl rfl (b_subN (a:=(a+b) / 2+m) (b:=st) (by omega))) (by rw [hen])) ?_
    refine w_k2 ?_
    refine g_seq ?_
    refine g_cut (ι:=List β) (fun l1=>[(0,.slice p nn cc),(1,.int .i64 ((a:Int))),(3,.int .i64 ((b:Int))),(4,.func (.func gc) fi ca),(18,.int .i64 ((((a+b) / 2:Nat):Int))),(20,.int .i64 ((st:Int))),(24,.int .i64 ((en:Int)))]) (fun l1 wx=>(l1=if st<m∧m<en then rotS d m (en - st) (m - st) (en - m) z else z)∧(l1.length=nn)∧(l1.Perm zall)∧S wx [Rw 44 3 p nn cc (mV ev l1),X,Old w (fps [Rw 44 3 p nn cc (mV ev z),X])]) ?_ ?_
    ·
     refine w_k5 ?_
     by_cases hb48:((st:Int):Int)<(m:Int)
     ·
      iterate 2 refine w_g (decide_eq_true hb48) xm ?_
      refine w_g (decide_eq_true hb48) (x_bin rfl rfl rfl b_lss) ?_
      refine w_v (x_pick_t rfl rfl (decide_eq_true hb48) rfl) ?_
      refine w_e ?_
      refine g_wk [(0,_),(1,_),(2,_),(3,_),(4,_),(18,_),(20,_),(24,_),(185,_)] ?_
      by_cases hb49:((m:Int):Int)<(en:Int)
      ·
       refine g_ct hb49 ?_
       refine w_k6 ?_
       refine l_of (s_cl (rotS_s d ev cs hcs hsz ho z nn hz p cc hm st m en (by omega) (by omega) (by omega) (.func (.func gc) fi ca) _ (H41.tk [0])) ?_)
       rintro _ wq50 ⟨rfl,H51⟩
       replace H51:S _ [_,_,_]:=H41.abI (new:=[_]) [0] H51 rfl
       refine b_ret rfl rfl ?_
       refine w_e ?_
       refine g_mid ((rotS d m (en - st) (m - st) (en - m) z)) ?_ ?_
       · exact ⟨rfl,rfl,rfl,rfl,rfl,rfl,rfl,trivial⟩
       · exact ⟨((if_pos (by omega)).symm),(by rw [(rotS_mv (a:=a) (b:=b) (by omega) (by omega) (by omega) (by omega) (by omega) (by omega)).len]; exact hz),((rotS_mv (a:=a) (b:=b) (by omega) (by omega) (by omega) (by omega) (by omega) (by omega)).1.trans hpp),H51⟩
      ·
       refine g_cf hb49 ?_
       refine w_k2 ?_
       refine g_mid (z) ?_ ?_
       · exact ⟨rfl,rfl,rfl,rfl,rfl,rfl,rfl,trivial⟩
       · exact ⟨((if_neg (by omega)).symm),hz,hpp,H41⟩
     ·
      iterate 3 refine w_n (decide_eq_false hb48) ?_
      refine w_v (x_pick_f rfl rfl (decide_eq_false hb48) rfl) ?_
      refine w_e ?_
      refine g_wk [(0,_),(1,_),(2,_),(3,_),(4,_),(18,_),(20,_),(24,_),(185,_)] ?_
      refine g_cond_f rfl rfl ?_
      refine w_k2 ?_
      refine g_mid (z) ?_ ?_
      · exact ⟨rfl,rfl,rfl,rfl,rfl,rfl,rfl,trivial⟩
      · exact ⟨((if_neg (by omega)).symm),hz,hpp,H41⟩
    rintro l1 wq52 ⟨he1,hl1,hp1,H53⟩
    refine g_wk [(0,_),(1,_),(3,_),(4,_),(18,_),(20,_),(24,_)] ?_
    refine g_seq ?_
    refine g_cut (ι:=List β) (fun l2=>[(0,.slice p nn cc),(3,.int .i64 ((b:Int))),(4,.func (.func gc) fi ca),(18,.int .i64 ((((a+b) / 2:Nat):Int))),(24,.int .i64 ((en:Int)))]) (fun l2 wx=>(l2=if a<st∧st<(a+b) / 2 then symS d c n a st ((a+b) / 2) l1 else l1)∧(l2.length=nn)∧(l2.Perm zall)∧S wx [Rw 44 3 p nn cc (mV ev l2),X,Old w (fps [Rw 44 3 p nn cc (mV ev z),X])]) ?_ ?_
    ·
     refine w_k5 ?_
     by_cases hb54:((a:Int):Int)<(st:Int)
     ·
      iterate 2 refine w_g (decide_eq_true hb54) xm ?_
      refine w_g (decide_eq_true hb54) (x_bin rfl rfl rfl b_lss) ?_
      refine w_v (x_pick_t rfl rfl (decide_eq_true hb54) rfl) ?_
      refine w_e ?_
      by_cases hb55:((st:Int):Int)<(((a+b) / 2:Nat):Int)
      ·
       refine g_ct hb55 ?_
       refine w_k6 ?_
       refine l_of (s_cl (ih l1 hl1 hp1 a st ((a+b) / 2) (by omega) (by omega) (by omega) (by omega) _ (H53.tk [0,1])) ?_)
       rintro _ wq56 ⟨rfl,H57⟩
       replace H57:S _ [_,_,_]:=H53.abI (new:=[_,_]) [0,1] H57 rfl
       refine b_ret rfl rfl ?_
       refine w_e ?_
       refine g_mid ((symS d c n a st ((a+b) / 2) l1)) ?_ ?_
       · exact ⟨rfl,rfl,rfl,rfl,rfl,trivial⟩
       · exact ⟨((if_pos (by omega)).symm),(by rw [(symS_mv (by omega) (by omega) (by omega) (by omega)).len]; exact hl1),((symS_mv (by omega) (by omega) (by omega) (by omega)).1.trans hp1),H57⟩
      ·
       refine g_cf hb55 ?_
       refine w_k2 ?_
       refine g_mid (l1) ?_ ?_
       · exact ⟨rfl,rfl,rfl,rfl,rfl,trivial⟩
       · exact ⟨((if_neg (by omega)).symm),hl1,hp1,H53⟩
     ·
      iterate 3 refine w_n (decide_eq_false hb54) ?_
      refine w_v (x_pick_f rfl rfl (decide_eq_false hb54) rfl) ?_
      refine w_e ?_
      refine g_cond_f rfl rfl ?_
      refine w_k2 ?_
      refine g_mid (l1) ?_ ?_
      · exact ⟨rfl,rfl,rfl,rfl,rfl,trivial⟩
      · exact ⟨((if_neg (by omega)).symm),hl1,hp1,H53⟩
    rintro l2 wq58 ⟨he2,hl2,hp2,H59⟩
    refine g_wk [(0,_),(3,_),(4,_),(18,_),(24,_)] ?_
    refine w_s ?_
    refine w_k4 ?_
    by_cases hb60:((((a+b) / 2:Nat):Int):Int)<(en:Int)
    ·
     iterate 2 refine w_g (decide_eq_true hb60) xm ?_
     refine w_g (decide_eq_true hb60) (x_bin rfl rfl rfl b_lss) ?_
     refine w_v (x_pick_t rfl rfl (decide_eq_true hb60) rfl) ?_
     refine w_e ?_
     by_cases hb61:((en:Int):Int)<(b:Int)
     ·
      refine g_ct hb61 ?_
      refine w_k6 ?_
      refine l_of (s_cl (ih l2 hl2 hp2 ((a+b) / 2) en b (by omega) (by omega) (by omega) (by omega) _ (H59.tk [0,1])) ?_)
      rintro _ wq62 ⟨rfl,H63⟩
      replace H63:S _ [_,_,_]:=H59.abI (new:=[_,_]) [0,1] H63 rfl
      refine b_ret rfl rfl ?_
      refine w_0 ?_
      refine fin_end [] [] rfl trivial ?_
      exact ⟨rfl,by rw [symS_gen (by omega) (by omega) hs0 hr0 hst.symm hen he1 he2,if_pos (by omega)]; exact (H63.tk [0,1,2])⟩
     ·
      refine g_cf hb61 ?_
      refine w_0 ?_
      refine fin_end [] [] rfl trivial ?_
      exact ⟨rfl,by rw [symS_gen (by omega) (by omega) hs0 hr0 hst.symm hen he1 he2,if_neg (by omega)]; exact (H59.tk [0,1,2])⟩
    ·
     iterate 3 refine w_n (decide_eq_false hb60) ?_
     refine w_v (x_pick_f rfl rfl (decide_eq_false hb60) rfl) ?_
     refine w_e ?_
     refine g_cond_f rfl rfl ?_
     refine w_0 ?_
     refine fin_end [] [] rfl trivial ?_
     exact ⟨rfl,by rw [symS_gen (by omega) (by omega) hs0 hr0 hst.symm hen he1 he2,if_neg (by omega)]; exact (H59.tk [0,1,2])⟩
theorem symS_s {β:Type} (d:β) (ev:β→Value) (cs:β→Array Value) (hcs:∀ x,ev x=.agg (cs x)) (hsz:∀ x,(ev x).cells.size=3) (ho:∀ x,(ev x).cells.toList.all (·.oneCell')=true) (zall:List β) (nn:Nat) (p:Option Addr) (cc:Nat) (hm:nn≤1099511627776) (c:β→β→Int) (gc:Nat) (fi ca:Array Value) (X:Item) (hc:Cmps Tryz.prog gc fi ca X ev c zall):∀ n,Sym_s d ev gc fi ca c X zall nn p cc n
 | 0=>fun z _ _ a m b h1 h2 h3 h4=>absurd h4 (by omega)
 | n+1=>fun z hz hpp a m b h1 h2 h3 h4 w HS=>symS_s_step d ev cs hcs hsz ho z nn hz p cc hm c gc fi ca X zall hpp hc n (symS_s d ev cs hcs hsz ho zall nn p cc hm c gc fi ca X hc n) a m b h1 h2 h3 h4 w HS
end Go.Proofs.YthmmfhdpkddniaaGreatDoor
