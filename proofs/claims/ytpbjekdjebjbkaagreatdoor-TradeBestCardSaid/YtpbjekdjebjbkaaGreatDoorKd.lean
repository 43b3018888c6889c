import Derived.Test.YtpbjekdjebjbkaaGreatDoorFm
import Derived.Test.YtpbjekdjebjbkaaGreatDoorKb
import Derived.Test.YtpbjekdjebjbkaaGreatDoorSj
import Derived.Test.YtpbjekdjebjbkaaGreatDoorMj
set_option maxRecDepth 20000
set_option maxHeartbeats 4000000
set_option linter.unusedSimpArgs false
set_option linter.unusedVariables false
namespace Go.Proofs.YtpbjekdjebjbkaaGreatDoor
open Go.RowKit
theorem fo111_0:foO Tryz.prog 111 0=some 0:=by kernel_rfl
theorem inf3:infO Tryz.prog 3=some (some (.int .i64 0),1,8):=by kernel_rfl
theorem ze3:zeO Tryz.prog 3=some (.int .i64 0):=by kernel_rfl
theorem zV_fl (l:List Int):zV l=fl intL l:=map_fl (fun _=>rfl) l
theorem sortZ (l:List Int) (p:Option Addr) (n c:Nat) (hn:l.length=n) (hn2:n≤1000000) (w:World) (HS:S w [Rw 3 1 p n c (fl intL l)]) :
   Calls Tryz.prog 119 #[.slice p n c] w fun e w'=>e=.returned (.tuple #[])∧S w' ([Rw 3 1 p n c (fl intL (sortI l))]++[Old w (fps [Rw 3 1 p n c (fl intL l)])]):=by
 have h:=sortInts_s l p n c hn hn2 w (by rw [zV_fl]; exact HS)
 rw [zV_fl,zV_fl] at h; exact h
theorem sortI_of {l m:List Int} (h:m.Perm l) (hs:m.Pairwise (·≤·)):m=sortI l:=
 List.Perm.eq_of_pairwise (fun a b _ _ h1 h2=>Int.le_antisymm h1 h2) hs (sortI_le l) (h.trans (sortI_perm l).symm)
def numB (x:Int):Bool:=decide (0≤x) && decide (x≤1000000000)
def validR (x:Rv):Bool:=(decide (0≤x.id) && decide (x.id≤99)) && numB x.frm && numB x.to && decide (-1≤x.lt) && decide (x.lt≤1000000000) && numB x.since
open Classical in
noncomputable def askE (seed:ByteArray) (l:List Rv):Int:=if 100<seed.size∨200<l.length∨l.any (fun x=>!validR x)=true then 1 else if (l.map Rv.id).Nodup then 0 else 6
def slotsV (r:Int):Int × Int:=if r<0∨1000000000<r then (0,7) else if r<10000 then (2,0) else if r<20000 then (3,0) else (min (4+(r - 20000) / 20000) 50,0)
theorem no_takeP {α:Type} {P:α→Prop} {l:List α} {k:Nat} {x:α} (h:∀ y∈l.take k,P y) (hx:l[k]?=some x) (hq:P x):∀ y∈l.take (k+1),P y:=fun y hy=>by
 rw [List.take_add_one,hx] at hy
 rcases List.mem_append.1 hy with hy | hy
 · exact h y hy
 · have e:=Option.some.inj (Option.mem_toList.1 hy); rw [← e]; exact hq
theorem at_mem {l:List Int} {j:Nat} {x:Int} (h:l[j]?=some x):x∈l:=List.mem_of_getElem? h
theorem take_snocL {α:Type} {l:List α} {k:Nat} {x:α} (h:l[k]?=some x):l.take (k+1)=l.take k++[x]:=by rw [List.take_add_one,h]; rfl
theorem in_r (l:List Int) (p:Option Addr) (n c:Nat) (x:Int) (hn:n≤9223372036854775807)  (w:World) (hr:Reads w p n c 1 (fl intL l)):Calls Tryz.prog 64 #[.slice p n c,.int .i64 x] w fun e w'=>e=.returned (.bool (decide (x∈l)))∧S w' [Old w no]:=by
 have H0:=S.old w
 have hnl:=hr.lenL intE
 refine enter 17 Tryz.func64 rfl rfl rfl ?_
 refine g_wk [(0,_),(1,_)] ?_
 refine w_s ?_
 refine w_k9 ?_
 refine g_loop (ι:=Nat) (fun i=>[(1,.int .i64 x),(7,.slice p n c),(8,.int .i64 ((n:Int))),(9,.int .i64 ((i:Int)))]) (fun i wx=>(i≤n)∧(∀ y∈l.take i,¬ y=x)∧S wx [Old w no]) (fun i=>n - i) (0) ⟨rfl,rfl,rfl,rfl,trivial⟩ ⟨Nat.zero_le _,(fun y hy=>by simp at hy),H0⟩ ?_
 rintro i wq1 ⟨hi,hno,H2⟩
 refine g_wk [(1,_),(7,_),(8,_),(9,_)] ?_
 refine w_s ?_
 refine w_k2 ?_
 refine g_seq ?_
 by_cases hb3:((i:Int):Int)<(n:Int)
 ·
  refine g_ct hb3 ?_
  refine w_k5 ?_
  refine w_v (x_i i (H2.exReads (k:=0) rfl hr (fun _ _ _ h=>h))) ?_
  obtain ⟨x4,hx4⟩:=(H2.exReads (k:=0) rfl hr (fun _ _ _ h=>h)).exL intE i
  refine w_v (x_r i (H2.exReads (k:=0) rfl hr (fun _ _ _ h=>h)) (intE.flAt1 hx4 rfl)) ?_
  refine w_k7 ?_
  by_cases hb5:(x4:Int)=x
  ·
   refine g_ct hb5 ?_
   refine w_k9 ?_
   refine fin_r [.tmp 4] [.bool true] ?_
   have hm:x∈l:=by have h9:=at_mem hx4; have h8:=hb5; first | (rw [← h8]; exact h9) | (rw [h8]; exact h9)
   exact ⟨by rw [decide_eq_true hm]; rfl,H2.mask [true]⟩
  ·
   refine g_cf hb5 ?_
   refine w_k4 ?_
   refine w_i i ?_
   refine w_k2 ?_
   refine g_rd (i:=(i)) ((i+1)) ⟨by omega,(no_takeP hno hx4 hb5),H2⟩
 ·
  refine g_cf hb3 ?_
  refine w_k9 ?_
  refine fin_r [.tmp 4] [.bool false] ?_
  rw [List.take_of_length_le (by omega)] at hno
  have hm:¬ x∈l:=fun h=>hno x h rfl
  exact ⟨by rw [decide_eq_false hm]; rfl,H2.mask [true]⟩
structure Asc (l cur:List Int) (i k:Nat):Prop where
 perm:cur.Perm l
 le:∀ a b,a<b→b≤i→a ≠ k→b ≠ k→cur.getD a 0≤cur.getD b 0
 up:∀ b,k<b→b≤i→cur.getD k 0≤cur.getD b 0
theorem Asc.start {l cur:List Int} {i:Nat} (hp:cur.Perm l) (hs:∀ a b,a<b→b<i→cur.getD a 0≤cur.getD b 0):Asc l cur i i:=
 ⟨hp,fun a b h1 h2 _ h4=>hs a b h1 (by omega),fun b h1 h2=>by omega⟩
theorem Asc.stop {l cur:List Int} {i k:Nat} (h:Asc l cur i k) (hk:k≤i) (hc:k=0∨¬ cur.getD k 0<cur.getD (k - 1) 0):∀ a b,a<b→b<i+1→cur.getD a 0≤cur.getD b 0:=fun a b h1 h2=>by
 by_cases ha:a=k
 · subst ha; exact h.up b h1 (by omega)
 · by_cases hb:b=k
   · subst hb
     rcases hc with hc | hc
     · omega
     · by_cases e:a=b - 1
       · subst e; omega
       · have:=h.le a (b - 1) (by omega) (by omega) ha (by omega)
         omega
   · exact h.le a b h1 (by omega) ha hb
theorem getD_set2 {l:List Int} {i j:Nat} {x:Int} (hi:i<l.length):(l.set i x).getD j 0=if j=i then x else l.getD j 0:=by
 rw [List.getD_eq_getElem?_getD,List.getD_eq_getElem?_getD]
 by_cases h:j=i
 · subst h; rw [if_pos rfl,List.getElem?_set_self hi]; rfl
 · rw [if_neg h,List.getElem?_set_ne (Ne.symm h)]
theorem Asc.go {l cur:List Int} {i k:Nat} (h:Asc l cur i k) (hk:0<k) (hki:k≤i) (hi:i<cur.length) (hc:cur.getD k 0<cur.getD (k - 1) 0):Asc l ((cur.set k (cur.getD (k - 1) 0)).set (k - 1) (cur.getD k 0)) i (k - 1):=by
 have hg:∀ j,((cur.set k (cur.getD (k - 1) 0)).set (k - 1) (cur.getD k 0)).getD j 0=if j=k - 1 then cur.getD k 0 else if j=k then cur.getD (k - 1) 0 else cur.getD j 0:=fun j=>by
   rw [getD_set2 (by rw [List.length_set]; omega)]
   by_cases e:j=k - 1
   · rw [if_pos e,if_pos e]
   · rw [if_neg e,if_neg e,getD_set2 (by omega)]
 refine ⟨(swp_perm (d:=(0:Int)) (l:=cur) (i:=k) (j:=k - 1) (by omega) (by omega)).trans h.perm,fun a b h1 h2 h3 h4=>?_,fun b h1 h2=>?_⟩
 · rw [hg a,hg b,if_neg h3,if_neg h4]
   by_cases ea:a=k
   · subst ea
     rw [if_pos rfl,if_neg (by omega)]
     exact h.le (a - 1) b (by omega) h2 (by omega) (by omega)
   · rw [if_neg ea]
     by_cases eb:b=k
     · subst eb
       rw [if_pos rfl]
       exact h.le a (b - 1) (by omega) (by omega) ea (by omega)
     · rw [if_neg eb]; exact h.le a b h1 h2 ea eb
 · rw [hg (k - 1),hg b,if_pos rfl,if_neg (by omega)]
   by_cases eb:b=k
   · subst eb; rw [if_pos rfl]; omega
   · rw [if_neg eb]; exact h.up b (by omega) h2
theorem asc_done {l cur:List Int} (hp:cur.Perm l) (hs:∀ a b,a<b→b<cur.length→cur.getD a 0≤cur.getD b 0):cur=sortI l:=by
 refine sortI_of hp (List.pairwise_iff_getElem.2 fun i j hi hj hij=>?_)
 have:=hs i j hij hj
 rw [List.getD_eq_getElem?_getD,List.getD_eq_getElem?_getD,List.getElem?_eq_getElem hi,List.getElem?_eq_getElem hj] at this
 exact this
theorem asc_r (l:List Int) (p:Option Addr) (n c:Nat) (hn2:n≤1000000)  (w:World) (HS:S w [Rw 3 1 p n c (fl intL l)]):Calls Tryz.prog 67 #[.slice p n c] w fun e w'=>e=.returned (.slice p n c)∧S w' ([Rw 3 1 p n c (fl intL (sortI l))]++[Old w (fps [Rw 3 1 p n c (fl intL l)])]):=by
 have H0:=HS.beginI
 have hn:=(HS.rr 0).lenL intE
 refine enter 45 Tryz.func67 rfl rfl rfl ?_
 refine g_wk [(0,_)] ?_
 refine w_s ?_
 refine w_k9 ?_
 refine g_loop (ι:=Nat × List Int) (fun (i,cur)=>[(0,.slice p n c),(6,.int .i64 ((n:Int))),(7,.int .i64 ((i:Int)))]) (fun (i,cur) wx=>(i≤n)∧(cur.length=n)∧(cur.Perm l)∧(∀ a b,a<b→b<i→cur.getD a 0≤cur.getD b 0)∧S wx [Rw 3 1 p n c (fl intL cur),Old w (fps [Rw 3 1 p n c (fl intL l)])]) (fun (i,cur)=>n - i) (0,l) ⟨rfl,rfl,rfl,trivial⟩ ⟨Nat.zero_le _,hn.symm,(.refl _),(fun a b _ h=>by omega),(H0.tk [0,1])⟩ ?_
 rintro ⟨i,cur⟩ wq1 ⟨hi,hcl,hpm,hso,H2⟩
 refine g_wk [(0,_),(6,_),(7,_)] ?_
 refine w_s ?_
 refine w_k2 ?_
 refine g_seq ?_
 by_cases hb3:((i:Int):Int)<(n:Int)
 ·
  refine g_ct hb3 ?_
  refine w_k13 ?_
  refine g_loop (ι:=Nat × List Int) (fun (k,cur2)=>[(0,.slice p n c),(4,.int .i64 ((k:Int))),(6,.int .i64 ((n:Int))),(7,.int .i64 ((i:Int)))]) (fun (k,cur2) wx=>(k≤i)∧(cur2.length=n)∧(Asc l cur2 i k)∧S wx [Rw 3 1 p n c (fl intL cur2),Old w (fps [Rw 3 1 p n c (fl intL l)])]) (fun (k,cur2)=>k) (i,cur) ⟨rfl,rfl,rfl,rfl,trivial⟩ ⟨Nat.le_refl _,hcl,(Asc.start hpm hso),(H2.tk [0,1])⟩ ?_
  rintro ⟨k,cur2⟩ wq4 ⟨hk,hcl2,hA,H5⟩
  refine g_wk [(0,_),(4,_),(6,_),(7,_)] ?_
  iterate 2 refine g_seq ?_
  refine g_quiet (by kernel_rfl) (by kernel_rfl) H5 ?_
  refine q_v (fun _ _=>xm) ?_
  refine q_v (fun _ _=>x_bin rfl rfl rfl b_gtr) ?_
  refine q_v (fun _ _=>xm) ?_
  by_cases hb6:(0:Int)<(k:Int)
  ·
   refine q_val (v:=.slice p n c) (wt1 rfl rfl rfl rfl (decide_eq_true hb6)) rfl rfl (fun wx H=>x_move rfl rfl) ?_
   refine q_val (v:=.int .i64 ((k:Int))) (wt1 rfl rfl rfl rfl (decide_eq_true hb6)) rfl rfl (fun wx H=>x_move rfl rfl) ?_
   refine q_val (v:=.pointer ((p).map fun q=>q.add (k * 1))) (wt1 rfl rfl rfl rfl (decide_eq_true hb6)) rfl rfl (fun wx H=>x_idxP k ((H5.rr 0).some (by omega)) rfl rfl rfl Tryz.underlying43 sz3 (by omega)) ?_
   have hx7:cur2[k]?=some (cur2.getD k 0):=by rw [List.getD_eq_getElem?_getD,List.getElem?_eq_getElem (by first | omega | (simp only [List.length_set]; omega))]; rfl
   refine q_val (v:=.int .i64 ((cur2.getD k 0))) (wt1 rfl rfl rfl rfl (decide_eq_true hb6)) rfl rfl (fun wx H=>x_loadR1 k (H.rr 0) (by omega) rfl rfl Tryz.underlying3 rfl (intE.flAt1 hx7 rfl)) ?_
   refine q_val (v:=.slice p n c) (wt1 rfl rfl rfl rfl (decide_eq_true hb6)) rfl rfl (fun wx H=>x_move rfl rfl) ?_
   refine q_val (v:=.int .i64 ((k:Int))) (wt1 rfl rfl rfl rfl (decide_eq_true hb6)) rfl rfl (fun wx H=>x_move rfl rfl) ?_
   refine q_val (v:=.int .i64 (((k - 1:Nat):Int))) (wt1 rfl rfl rfl rfl (decide_eq_true hb6)) rfl rfl (fun wx H=>x_bin rfl rfl rfl (b_subN (a:=k) (b:=1) (by omega))) ?_
   refine q_val (v:=.pointer ((p).map fun q=>q.add ((k - 1) * 1))) (wt1 rfl rfl rfl rfl (decide_eq_true hb6)) rfl rfl (fun wx H=>x_idxP (k - 1) ((H5.rr 0).some (by omega)) rfl rfl rfl Tryz.underlying43 sz3 (by omega)) ?_
   have hx8:cur2[(k - 1)]?=some (cur2.getD (k - 1) 0):=by rw [List.getD_eq_getElem?_getD,List.getElem?_eq_getElem (by first | omega | (simp only [List.length_set]; omega))]; rfl
   refine q_val (v:=.int .i64 ((cur2.getD (k - 1) 0))) (wt1 rfl rfl rfl rfl (decide_eq_true hb6)) rfl rfl (fun wx H=>x_loadR1 (k - 1) (H.rr 0) (by omega) rfl rfl Tryz.underlying3 rfl (intE.flAt1 hx8 rfl)) ?_
   refine q_val (v:=.bool (decide (((cur2.getD k 0):Int)<(cur2.getD (k - 1) 0)))) (wt1 rfl rfl rfl rfl (decide_eq_true hb6)) rfl rfl (fun wx H=>x_bin rfl rfl rfl b_lss) ?_
   refine q_v (v:=.bool (decide (((cur2.getD k 0):Int)<(cur2.getD (k - 1) 0)))) (fun _ _=>x_pick_t rfl rfl (decide_eq_true hb6) rfl) ?_
   refine q_nil (fun wq9 H10=>?_)
   refine w_0 ?_
   by_cases hb11:((cur2.getD k 0):Int)<(cur2.getD (k - 1) 0)
   ·
    refine g_ct hb11 ?_
    refine w_k4 ?_
    refine g_anyY [] (fun wx=>S wx [Rw 3 1 p n c (fl intL cur2),Old w (fps [Rw 3 1 p n c (fl intL l)])]) (fun wx=>S wx [Old w (fps [Rw 3 1 p n c (fl intL l)])]) [15,17] (by kernel_rfl) H10 (fun wq12 H13=>?_)
    refine y_p 0 rfl (fun _=>xm) ?_
    refine y_p 1 rfl (fun _=>xm) ?_
    refine y_p 2 rfl (fun _=>xm) ?_
    refine y_p 3 rfl (fun _=>xm) ?_
    refine y_p (v:=.int .i64 (((k - 1:Nat):Int))) 4 rfl (fun _=>x_bin rfl rfl rfl (b_subN (a:=k) (b:=1) (by omega))) ?_
    refine y_p 5 rfl (fun _=>xm) ?_
    refine y_p 6 rfl (fun _=>xm) ?_
    refine y_p (v:=.int .i64 (((k - 1:Nat):Int))) 7 rfl (fun _=>x_bin rfl rfl rfl (b_subN (a:=k) (b:=1) (by omega))) ?_
    refine y_p 8 rfl (fun _=>x_ip (k - 1) ((H13.rr 0).some (by omega))) ?_
    have hx14:cur2[(k - 1)]?=some (cur2.getD (k - 1) 0):=by rw [List.getD_eq_getElem?_getD,List.getElem?_eq_getElem (by first | omega | (simp only [List.length_set]; omega))]; rfl
    refine y_t 9 rfl H13 (fun _ H=>x_r (k - 1) (H.rr 0) (intE.flAt1 hx14 rfl)) ?_
    refine y_p 10 rfl (fun _=>xm) ?_
    refine y_p 11 rfl (fun _=>xm) ?_
    refine y_p 12 rfl (fun _=>x_ip k ((H13.rr 0).some (by omega))) ?_
    have hx15:cur2[k]?=some (cur2.getD k 0):=by rw [List.getD_eq_getElem?_getD,List.getElem?_eq_getElem (by first | omega | (simp only [List.length_set]; omega))]; rfl
    refine y_t 13 rfl H13 (fun _ H=>x_r k (H.rr 0) (intE.flAt1 hx15 rfl)) ?_
    refine y_p 14 rfl (fun _=>x_ip k ((H13.rr 0).some (by omega))) ?_
    refine y_one (i:=15) (by kernel_rfl) rfl ?_
    refine s_stoL (j:=k) intE (cur2.getD (k - 1) 0) H13 0 (wt0 rfl) rfl rfl rfl rfl rfl rfl sz3 (by omega) ?_
    intro wq16 H17
    refine y_kt rfl (H17.mask [false,true]) ?_
    refine y_p 16 rfl (fun _=>x_ip (k - 1) ((H17.rr 0).some (by omega))) ?_
    refine y_one (i:=17) (by kernel_rfl) rfl ?_
    refine s_stoL (j:=(k - 1)) intE (cur2.getD k 0) H17 0 (wt0 rfl) rfl rfl rfl rfl rfl rfl sz3 (by omega) ?_
    intro wq18 H19
    refine y_kt rfl (H19.mask [false,true]) ?_
    refine y_done (by kernel_rfl) ?_
    refine w_k4 ?_
    refine w_b (v:=.int .i64 (((k - 1:Nat):Int))) (hb:=(b_subN (a:=k) (b:=1) (by omega))) ?_
    refine w_k2 ?_
    refine g_rd (i:=(k,cur2)) ((k - 1),((cur2.set k (cur2.getD (k - 1) 0)).set (k - 1) (cur2.getD k 0))) ⟨by omega,(by simp only [List.length_set]; exact hcl2),(hA.go (by omega) hk (by omega) hb11),(H19.tk [0,1])⟩
   ·
    refine g_cf hb11 ?_
    refine w_0 ?_
    have hwhy:k=0∨¬ cur2.getD k 0<cur2.getD (k - 1) 0:=(.inr hb11)
    refine w_k6 ?_
    refine w_i i ?_
    refine w_k2 ?_
    refine g_rd (i:=(i,cur)) ((i+1),cur2) ⟨by omega,hcl2,hA.perm,(hA.stop hk hwhy),(H10.tk [0,1])⟩
  ·
   iterate 10 refine q_not (wn1 rfl rfl rfl rfl (decide_eq_false hb6)) rfl rfl ?_
   refine q_v (v:=.bool false) (fun _ _=>x_pick_f rfl rfl (decide_eq_false hb6) rfl) ?_
   refine q_nil (fun wq20 H21=>?_)
   refine w_0 ?_
   refine g_cond_f rfl rfl ?_
   refine w_0 ?_
   have hwhy:k=0∨¬ cur2.getD k 0<cur2.getD (k - 1) 0:=(.inl (by omega))
   refine w_k6 ?_
   refine w_i i ?_
   refine w_k2 ?_
   refine g_rd (i:=(i,cur)) ((i+1),cur2) ⟨by omega,hcl2,hA.perm,(hA.stop hk hwhy),(H21.tk [0,1])⟩
 ·
  refine g_cf hb3 ?_
  refine w_k10 ?_
  refine fin_r [.tmp 2] [.slice p n c] ?_
  have hin:i=n:=by omega
  have hd:cur=sortI l:=asc_done hpm (by rw [hcl,← hin]; exact hso)
  exact ⟨rfl,by rw [← hd]; exact H2.tk [0,1]⟩
theorem ids_s (l:List Rv) (p:Option Addr) (n c:Nat) (hn2:n≤1000000)  (w:World) (hr:Reads w p n c 10 (fl rvL l)):Calls Tryz.prog 117 #[.slice p n c] w fun e w'=>∃ p' c',e=.returned (.slice p' (sortI (l.map Rv.id)).length c')∧S w' ([Rw 3 1 p' (sortI (l.map Rv.id)).length c' (fl intL (sortI (l.map Rv.id)))]++[Old w no]):=by
 have H0:=S.old w
 have hnl:=hr.lenL rvE
 refine enter 21 Tryz.func117 rfl rfl rfl ?_
 refine g_wk [(0,_)] ?_
 refine w_s ?_
 refine w_k3 ?_
 have H1:S _ [_,_]:=H0.nilFl 3 1 intL
 refine w_k9 ?_
 refine g_loop (ι:=Nat × Option Addr × Nat) (fun (i,po,co)=>[(3,.slice po i co),(6,.slice p n c),(7,.int .i64 ((n:Int))),(8,.int .i64 ((i:Int)))]) (fun (i,po,co) wx=>(i≤n)∧S wx [Rw 3 1 po i co (fl intL ((l.take i).map Rv.id)),Old w no]) (fun (i,po,co)=>n - i) (0,none,0) ⟨rfl,rfl,rfl,rfl,trivial⟩ ⟨Nat.zero_le _,(by rw [List.take_zero,List.map_nil]; exact H1.tk [0,1])⟩ ?_
 rintro ⟨i,po,co⟩ wq2 ⟨hi,H3⟩
 refine g_wk [(3,_),(6,_),(7,_),(8,_)] ?_
 refine w_s ?_
 refine w_k2 ?_
 refine g_seq ?_
 by_cases hb4:((i:Int):Int)<(n:Int)
 ·
  refine g_ct hb4 ?_
  refine w_k5 ?_
  refine w_v (x_i i (H3.exReads (k:=1) rfl hr (fun _ _ _ h=>h))) ?_
  obtain ⟨x5,hx5⟩:=(H3.exReads (k:=1) rfl hr (fun _ _ _ h=>h)).exL rvE i
  refine w_v (x_loadRA (vs:=rvL x5) i (H3.exReads (k:=1) rfl hr (fun _ _ _ h=>h)) (by omega) rfl rfl Tryz.underlying111 rfl sz111 (by rfl) (rvE.flAt hx5)) ?_
  refine l_of (s_alloc H3 (wt0 rfl) rfl rfl rfl ze111 ?_)
  intro g6 wq7 H8
  refine l_of (w_st #[.int .i64 (x5.id),.bool x5.intr,.bool x5.chk,.int .i64 (x5.frm),.int .i64 (x5.to),.int .i64 (x5.lt),.int .i64 (x5.since),.bool x5.snb,.bool x5.now,.bool x5.seed] H8 0 ?_)
  intro wq9 H10
  refine w_k5 ?_
  refine l_of (s_b1 ze3 #[.int .i64 (x5.id)] H10 ?_)
  intro g11 wq12 H13
  refine l_of (s_appB (m:=1) (l:=((l.take i).map Rv.id)) (l2:=[x5.id]) intE H13 2 (j0:=0) rfl rfl ⟨rfl,Nat.le_refl _⟩ (wt0 rfl) rfl rfl rfl rfl rfl rfl Tryz.underlying43 inf3 rfl (by decide) (by omega) ?_)
  intro p14 c15 wq16 H17
  refine w_k5 ?_
  refine w_i i ?_
  refine w_k2 ?_
  refine g_rd (i:=(i,po,co)) ((i+1),p14,c15) ⟨by omega,(by rw [take_snocL hx5,List.map_append]; exact H17.tk [2,3])⟩
 ·
  refine g_cf hb4 ?_
  refine w_k7 ?_
  refine l_of (s_cl (sortZ ((l.take i).map Rv.id) po i co (by rw [List.length_map,List.length_take]; omega) (by omega) _ (H3.tk [0])) ?_)
  rintro _ wq18 ⟨rfl,H19⟩
  replace H19:S _ [_,_]:=H3.abI (new:=[_]) [0] H19 rfl
  refine b_ret rfl rfl ?_
  refine w_k6 ?_
  refine fin_r [.tmp 2] [.slice po i co] ?_
  have hsl:(sortI (l.map Rv.id)).length=i:=by rw [sortI_len,List.length_map]; omega
  have htk:l.take i=l:=List.take_of_length_le (by omega)
  rw [htk] at H19
  exact ⟨_,_,by rw [hsl]; rfl,by rw [hsl]; exact H19.tk [0,1]⟩
abbrev DKc0 (r:Rv):Array Value:=#[.int .i64 (r.id),.bool r.intr,.bool r.chk,.int .i64 (r.frm),.int .i64 (r.to),.int .i64 (r.lt),.int .i64 (r.since),.bool r.snb,.bool r.now,.bool r.seed]
theorem has1_s (b:Nat) (r x:Rv)  (w:World) (HS:S w [Ob b (.cells (DKc0 r) 111 (0,0))]):Calls Tryz.prog 172 #[.agg #[.int .i64 (x.id),.bool x.intr,.bool x.chk,.int .i64 (x.frm),.int .i64 (x.to),.int .i64 (x.lt),.int .i64 (x.since),.bool x.snb,.bool x.now,.bool x.seed],.pointer (some ⟨b,0,none⟩)] w fun e w'=>e=.returned (.bool (decide (x.id=r.id)))∧S w' ([Ob b (.cells (DKc0 r) 111 (0,0))]++[Old w (fps [Ob b (.cells (DKc0 r) 111 (0,0))])]):=by
 have H0:=HS.beginI
 refine enter 9 Tryz.func172 rfl rfl rfl ?_
 refine g_wk [(0,_),(1,_)] ?_
 refine w_s ?_
 refine l_of (s_box H0 (wt0 rfl) rfl rfl rfl rfl ?_)
 intro g1 wq2 H3
 refine w_k11 ?_
 refine fin_r [.tmp 3] [.bool (decide ((x.id:Int)=r.id))] ?_
 exact ⟨rfl,H3.tk [1,2]⟩
theorem has1_f (b:Nat) (r:Rv):FunC Tryz.prog 172 #[] #[.pointer (some ⟨b,0,none⟩)] (Big [Ob b (.cells #[.int .i64 (r.id),.bool r.intr,.bool r.chk,.int .i64 (r.frm),.int .i64 (r.to),.int .i64 (r.lt),.int .i64 (r.since),.bool r.snb,.bool r.now,.bool r.seed] 111 (0,0))]) (fun x:Rv=>[x.v]) (fun x=>.bool ((fun x:Rv=>decide (x.id=r.id)) x)) (fun _=>True):=
 FunC.ofBig (by kernel_rfl) fun x _ w HS=>has1_s b r x w HS
theorem has_s (l:List Rv) (p:Option Addr) (n c:Nat) (hn:n≤9223372036854775807) (r:Rv)  (w:World) (hr:Reads w p n c 10 (fl rvL l)):Calls Tryz.prog 154 #[.slice p n c,.agg (DKc0 r)] w fun e w'=>e=.returned (.bool (decide (r.id∈l.map Rv.id)))∧S w' [Old w no]:=by
 have H0:=S.old w
 refine enter 8 Tryz.func154 rfl rfl rfl ?_
 refine g_wk [(0,_),(1,_)] ?_
 refine w_s ?_
 refine l_of (s_box H0 (wt0 rfl) rfl rfl rfl rfl ?_)
 intro g1 wq2 H3
 refine w_k4 ?_
 refine w_v (x_makeFunc rfl rfl rfl) ?_
 have H4:S _ [_,_]:=S.big (L:=[_]) (H3.tk [0,1])
 refine l_of (s_cl (contF_r l p n c hn (fun x:Rv=>decide (x.id=r.id)) 172 #[] #[.pointer (some ⟨g1,0,none⟩)] (Big [Ob g1 (.cells (DKc0 r) 111 (0,0))]) (fun _=>True) (has1_f g1 r) (fun _ _=>trivial) _ (H4.tk [0]) (H4.exReads (k:=1) rfl hr (fun _ _ _ h=>h)) (H4.apartOld (i:=1) (k:=0) rfl rfl (by decide) hr (by decide) (fun _ _ _ h=>h))) ?_)
 rintro _ wq5 ⟨rfl,H6⟩
 replace H6:S _ [_,_]:=H4.abI (new:=[_]) [0] H6 rfl
 refine b_ret rfl rfl ?_
 refine w_k3 ?_
 refine fin_r [.tmp 4] [.bool ((l.any (fun x:Rv=>decide (x.id=r.id))))] ?_
 have hb:l.any (fun x:Rv=>decide (x.id=r.id))=decide (r.id∈l.map Rv.id):=by rw [Bool.eq_iff_iff,List.any_eq_true,decide_eq_true_iff,List.mem_map]; exact ⟨fun ⟨x,h1,h2⟩=>⟨x,h1,of_decide_eq_true h2⟩,fun ⟨x,h1,h2⟩=>⟨x,h1,decide_eq_true h2⟩⟩
 exact ⟨by rw [hb]; rfl,H6.mask [false,true]⟩
end Go.Proofs.YtpbjekdjebjbkaaGreatDoor
namespace Go.Proofs.YtpbjekdjebjbkaaGreatDoor
open Go.RowKit
theorem FunC.pure {β:Type} {P:Program} {g:Nat} {fi ca:Array Value} {av:β→List Value} {rv:β→Value} {D:β→Prop} (hg:callable P g=true) (h:∀ b,D b→∀ w,Calls P g (fi.toList++av b++ca.toList).toArray w fun e w'=>e=.returned (rv b)∧S w' [Old w no]):FunC P g fi ca (Big []) av rv D:=
 FunC.ofBig hg fun b hb w _=>(h b hb w).mono fun e w' ⟨h1,h2⟩=>⟨h1,by
   rw [show fps []=no from funext fun k=>propext ⟨fun ⟨it,h3,_⟩=>(List.not_mem_nil h3).elim,False.elim⟩]; exact h2⟩
theorem front_s (l:List Rv) (p:Option Addr) (n c:Nat) (hn2:n≤9223372036854775807) (m:Int)  (w:World) (hr:Reads w p n c 10 (fl rvL l)):Calls Tryz.prog 134 #[.slice p n c,.int .i64 m] w fun e w'=>e=.returned (.slice p (min n m.toNat) c)∧S w' [Old w no]:=by
 have H0:=S.old w
 have hnl:=hr.lenL rvE
 refine enter 12 Tryz.func134 rfl rfl rfl ?_
 refine g_wk [(0,_),(1,_)] ?_
 refine w_s ?_
 refine w_k7 ?_
 refine w_v (v:=.int .i64 ((m.toNat:Int))) (ex_cast (x_max rfl rfl rfl) (by rw [show max m 0=(m.toNat:Int) from by omega])) ?_
 refine w_v (v:=.int .i64 (((min n m.toNat:Nat):Int))) (ex_cast (x_min rfl rfl rfl) (by rw [show min (n:Int) (m.toNat:Int)=((min n m.toNat:Nat):Int) from by omega])) ?_
 have hnc:=(H0.exReads (k:=0) rfl hr (fun _ _ _ h=>h)).2.1
 refine w_v (v:=.slice p (min n m.toNat) c) (ex_cast (x_sliceH (min n m.toNat) rfl rfl rfl Tryz.underlying109 sz111 (by omega)) (by rw [cutP0])) ?_
 refine w_k3 ?_
 refine fin_r [.tmp 4] [.slice p (min n m.toNat) c] ?_
 exact ⟨rfl,H0.mask [true]⟩
end Go.Proofs.YtpbjekdjebjbkaaGreatDoor
