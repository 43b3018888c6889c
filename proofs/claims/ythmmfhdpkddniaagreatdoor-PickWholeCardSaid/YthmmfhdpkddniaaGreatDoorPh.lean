import Derived.Test.YthmmfhdpkddniaaGreatDoorFm
import Derived.Test.YthmmfhdpkddniaaGreatDoorXq
import Derived.Test.YthmmfhdpkddniaaGreatDoorPa
set_option maxRecDepth 20000
set_option maxHeartbeats 4000000
set_option linter.unusedSimpArgs false
set_option linter.unusedVariables false
namespace Go.Proofs.YthmmfhdpkddniaaGreatDoor
open Go.RowKit
theorem cl159:callable Tryz.prog 159=true:=by kernel_rfl
def sg (a b:Int):Int:=if a<b then -1 else if b<a then 1 else 0
theorem sg_le (a b:Int):-1≤sg a b∧sg a b≤1:=by unfold sg; split; omega; split <;> omega
theorem sg_0 {a b:Int} (h:sg a b=0):a=b:=by unfold sg at h; split at h; cases h; split at h; cases h; omega
def cmpS:List Int→List Int→Int
 | a :: l,b :: m=>if sg a b ≠ 0 then sg a b else cmpS l m
 | [],[]=>0
 | [],_ :: _=>-1
 | _ :: _,[]=>1
theorem cmpS_at:∀ {l m:List Int} {i:Nat} {x y:Int},l.take i=m.take i→l[i]?=some x→m[i]?=some y→sg x y ≠ 0→cmpS l m=sg x y
 | a :: l,b :: m,0,x,y,_,hx,hy,hn=>by
   cases hx; cases hy
   unfold cmpS; exact if_pos hn
 | a :: l,b :: m,i+1,x,y,ht,hx,hy,hn=>by
   rw [List.take_succ_cons,List.take_succ_cons] at ht
   obtain ⟨e,ht9⟩:=List.cons.inj ht
   subst e
   unfold cmpS
   rw [if_neg (by unfold sg; simp)]
   exact cmpS_at ht9 hx hy hn
 | [],_,_,_,_,_,hx,_,_=>by cases hx
 | _ :: _,[],_,_,_,_,_,hy,_=>by cases hy
theorem cmpS_self (l:List Int):cmpS l l=0:=by
 induction l with
 | nil=>rfl
 | cons a l ih=>unfold cmpS; rw [if_neg (by unfold sg; simp)]; exact ih
theorem cmpS_lex {α:Type} (ks:List (α→Int)) (x y:α):cmpS (ks.map fun k=>k x) (ks.map fun k=>k y)=sg (lexC ks x y) 0:=by
 induction ks with
 | nil=>rfl
 | cons k ks ih =>
   rw [List.map_cons,List.map_cons]
   unfold cmpS lexC
   by_cases h:k x=k y
   · rw [if_neg (by rw [h]; unfold sg; simp),if_neg (by omega)]; exact ih
   · have e:sg (k x) (k y)=sg (k x - k y) 0:=by unfold sg; split <;> split <;> (first | rfl | omega | (split <;> (first | rfl | omega | (split <;> first | rfl | omega))))
     rw [if_pos (fun h0=>h (sg_0 h0)),if_pos (by omega)]; exact e
theorem nan_s (x:Int)  (w:World):Calls Tryz.prog 159 #[.int .i64 x] w fun e w'=>e=.returned (.bool false)∧S w' [Old w no]:=by
 have H0:=S.old w
 refine enter 6 Tryz.func159 rfl rfl rfl ?_
 refine g_wk [(0,_)] ?_
 refine w_s ?_
 refine w_k5 ?_
 refine w_b (v:=.bool (!decide ((x:Int)=x))) (hb:=b_neq) ?_
 refine w_k3 ?_
 refine fin_r [.tmp 2] [.bool (!decide ((x:Int)=x))] ?_
 exact ⟨by simp [tupled],H0.mask [true]⟩
theorem cmp_s (x y:Int)  (w:World):Calls Tryz.prog 138 #[.int .i64 x,.int .i64 y] w fun e w'=>e=.returned (.int .i64 (sg x y))∧S w' [Old w no]:=by
 have H0:=S.old w
 refine enter 20 Tryz.func138 rfl rfl rfl ?_
 refine g_wk [(0,_),(1,_)] ?_
 refine w_s ?_
 refine w_k4 ?_
 refine l_of (s_call0 H0 (wt0 rfl) (x_call' rfl rfl cl159) (nan_s x _) rfl rfl ?_)
 intro wq1 H2
 refine w_k4 ?_
 refine l_of (s_call0 H2 (wt0 rfl) (x_call' rfl rfl cl159) (nan_s y _) rfl rfl ?_)
 intro wq3 H4
 refine w_k6 ?_
 refine g_cond_f rfl rfl ?_
 refine w_k6 ?_
 refine g_cond_f rfl rfl ?_
 refine w_k8 ?_
 by_cases hb5:(x:Int)<y
 ·
  refine g_ct hb5 ?_
  refine w_k3 ?_
  refine g_wk [(4,_)] ?_
  refine g_ret ?_
  refine w_0 ?_
  refine fin_r [.tmp 4] [.int .i64 (-1)] ?_
  have he:sg x y=-1:=by unfold sg; exact if_pos hb5
  exact ⟨by rw [he]; rfl,H4.mask [true]⟩
 ·
  refine g_cf hb5 ?_
  refine w_k2 ?_
  refine g_wk [(0,_),(1,_)] ?_
  refine g_seq ?_
  refine w_k5 ?_
  by_cases hb6:(y:Int)<x
  ·
   refine g_ct hb6 ?_
   refine w_k5 ?_
   refine fin_r [.tmp 4] [.int .i64 1] ?_
   have he:sg x y=1:=by unfold sg; rw [if_neg hb5]; exact if_pos hb6
   exact ⟨by rw [he]; rfl,H4.mask [true]⟩
  ·
   refine g_cf hb6 ?_
   refine w_k6 ?_
   refine fin_r [.tmp 4] [.int .i64 0] ?_
   have he:sg x y=0:=by unfold sg; rw [if_neg hb5]; exact if_neg hb6
   exact ⟨by rw [he]; rfl,H4.mask [true]⟩
theorem scmp_s (l l2:List Int) (hl:l.length=l2.length∧l.length≤1000) (p:Option Addr) (n c:Nat) (q:Option Addr) (m d:Nat)  (w:World) (hr:Reads w p n c 1 (fl intL l)) (hq:Reads w q m d 1 (fl intL l2)):Calls Tryz.prog 157 #[.slice p n c,.slice q m d] w fun e w'=>e=.returned (.int .i64 (cmpS l l2))∧S w' [Old w no]:=by
 have H0:=S.old w
 have hnl:=hr.lenL intE
 have hml:=hq.lenL intE
 refine enter 36 Tryz.func157 rfl rfl rfl ?_
 refine g_wk [(0,_),(1,_)] ?_
 refine w_s ?_
 refine w_k9 ?_
 refine g_loop (ι:=Nat) (fun i=>[(0,.slice p n c),(1,.slice q m d),(9,.slice p n c),(10,.int .i64 ((n:Int))),(11,.int .i64 ((i:Int)))]) (fun i wx=>(i≤n)∧(l.take i=l2.take i)∧S wx [Old w no]) (fun i=>n - i) (0) ⟨rfl,rfl,rfl,rfl,rfl,trivial⟩ ⟨Nat.zero_le _,rfl,H0⟩ ?_
 rintro i wq1 ⟨hi,hno,H2⟩
 refine g_wk [(0,_),(1,_),(9,_),(10,_),(11,_)] ?_
 refine w_s ?_
 refine w_k2 ?_
 refine g_seq ?_
 by_cases hb3:((i:Int):Int)<(n:Int)
 ·
  refine g_ct hb3 ?_
  refine w_k6 ?_
  refine w_v (x_i i (H2.exReads (k:=0) rfl hr (fun _ _ _ h=>h))) ?_
  obtain ⟨x4,hx4⟩:=(H2.exReads (k:=0) rfl hr (fun _ _ _ h=>h)).exL intE i
  refine w_v (x_r i (H2.exReads (k:=0) rfl hr (fun _ _ _ h=>h)) (intE.flAt1 hx4 rfl)) ?_
  refine w_k10 ?_
  by_cases hb5:((m:Int):Int)≤(i:Int)
  ·
   refine g_ct hb5 ?_
   refine w_k3 ?_
   refine g_wk [(4,_)] ?_
   refine g_ret ?_
   refine w_k6 ?_
   refine fin_r [.tmp 4] [.int .i64 1] ?_
   omega
  ·
   refine g_cf hb5 ?_
   refine w_k5 ?_
   refine w_v (x_i i (H2.exReads (k:=0) rfl hq (fun _ _ _ h=>h))) ?_
   obtain ⟨x6,hx6⟩:=(H2.exReads (k:=0) rfl hq (fun _ _ _ h=>h)).exL intE i
   refine w_v (x_r i (H2.exReads (k:=0) rfl hq (fun _ _ _ h=>h)) (intE.flAt1 hx6 rfl)) ?_
   refine w_k2 ?_
   refine g_wk [(0,_),(1,_),(6,_),(7,_),(9,_),(10,_),(11,_)] ?_
   refine w_s ?_
   refine w_r2 ?_
   refine l_of (s_cl (cmp_s x4 x6 _) ?_)
   rintro _ wq7 ⟨rfl,H8⟩
   replace H8:=H2.ab0 H8
   have hsg9:=sg_le x4 x6
   refine b_ret rfl rfl ?_
   refine w_k4 ?_
   refine w_b (v:=.bool (!decide (((sg x4 x6):Int)=0))) (hb:=b_neq) ?_
   refine w_e ?_
   by_cases hb9:((sg x4 x6):Int)=0
   ·
    refine g_nf hb9 ?_
    refine w_k4 ?_
    refine w_i i ?_
    refine w_k2 ?_
    refine g_rd (i:=(i)) ((i+1)) ⟨by omega,(by rw [take_snocL hx4,take_snocL hx6,hno,sg_0 hb9]),H8⟩
   ·
    refine g_nt hb9 ?_
    refine w_k4 ?_
    refine g_wk [(4,_)] ?_
    refine g_ret ?_
    refine w_k5 ?_
    refine fin_r [.tmp 4] [.int .i64 ((sg x4 x6))] ?_
    exact ⟨by rw [cmpS_at hno hx4 hx6 hb9]; rfl,H8.mask [true]⟩
 ·
  refine g_cf hb3 ?_
  refine w_k13 ?_
  by_cases hb10:((n:Int):Int)<(m:Int)
  ·
   refine g_ct hb10 ?_
   refine w_k5 ?_
   refine fin_r [.tmp 4] [.int .i64 (-1)] ?_
   omega
  ·
   refine g_cf hb10 ?_
   refine w_k6 ?_
   refine fin_r [.tmp 4] [.int .i64 0] ?_
   rw [List.take_of_length_le (by omega),List.take_of_length_le (by omega)] at hno
   subst hno
   exact ⟨by rw [cmpS_self]; rfl,H2.mask [true]⟩
theorem newX_e (n pz la:Int) (seed:ByteArray) (ino:Bool) (hb:100<(seed.size:Int)∨n<1∨4096<n∨pz<16∨1024<pz∨¬ pz % 16=0∨la<1∨pz<la)  (w:World):Calls Tryz.prog 34 #[.int .i64 n,.int .i64 pz,.int .i64 la,.string seed,.bool ino] w fun e w'=>e=.returned (.tuple #[.pointer none,.int .i64 (newE n pz la seed)])∧S w' [Old w no]:=by
 have H0:=S.old w
 refine enter 78 Tryz.func34 rfl rfl rfl ?_
 refine g_wk [(0,_),(1,_),(2,_),(3,_),(4,_)] ?_
 refine w_s ?_
 refine w_k7 ?_
 refine w_v (x_lens rfl rfl Tryz.underlying9) ?_
 refine w_k3 ?_
 by_cases hb1:(100:Int)<(seed.size:Int)
 ·
  refine g_ct hb1 ?_
  refine w_k7 ?_
  refine fin_r [.tmp 10,.tmp 11] [.pointer none,.int .i64 1] ?_
  have hE:newE n pz la seed=1:=if_pos hb1
  rw [hE]
  exact ⟨rfl,H0.mask [true]⟩
 ·
  refine g_cf hb1 ?_
  refine w_k4 ?_
  by_cases hb2:(n:Int)<1
  ·
   iterate 2 refine w_n (decide_eq_true hb2) ?_
   refine w_v (x_pick_t rfl rfl (decide_eq_true hb2) rfl) ?_
   refine w_m ?_
   iterate 2 refine w_n rfl ?_
   refine w_v (x_pick_t rfl rfl rfl rfl) ?_
   refine w_m ?_
   iterate 2 refine w_n rfl ?_
   refine w_v (x_pick_t rfl rfl rfl rfl) ?_
   refine w_m ?_
   iterate 3 refine w_n rfl ?_
   refine w_v (x_pick_t rfl rfl rfl rfl) ?_
   refine w_m ?_
   iterate 2 refine w_n rfl ?_
   refine w_v (x_pick_t rfl rfl rfl rfl) ?_
   refine w_m ?_
   iterate 3 refine w_n rfl ?_
   refine w_v (x_pick_t rfl rfl rfl rfl) ?_
   refine w_k2 ?_
   refine g_wk [(0,_),(1,_),(2,_),(3,_),(4,_),(18,_)] ?_
   refine g_cond_t rfl rfl ?_
   refine w_k7 ?_
   refine fin_r [.tmp 10,.tmp 11] [.pointer none,.int .i64 7] ?_
   have hE:newE n pz la seed=7:=by unfold newE; rw [if_neg hb1,if_pos (by omega)]
   rw [hE]
   exact ⟨rfl,H0.mask [true]⟩
  ·
   refine w_g (decide_eq_false hb2) xm ?_
   refine w_g (decide_eq_false hb2) (x_bin rfl rfl rfl b_gtr) ?_
   refine w_v (x_pick_f rfl rfl (decide_eq_false hb2) rfl) ?_
   refine w_m ?_
   by_cases hb3:(4096:Int)<n
   ·
    iterate 2 refine w_n (decide_eq_true hb3) ?_
    refine w_v (x_pick_t rfl rfl (decide_eq_true hb3) rfl) ?_
    refine w_m ?_
    iterate 2 refine w_n rfl ?_
    refine w_v (x_pick_t rfl rfl rfl rfl) ?_
    refine w_m ?_
    iterate 3 refine w_n rfl ?_
    refine w_v (x_pick_t rfl rfl rfl rfl) ?_
    refine w_m ?_
    iterate 2 refine w_n rfl ?_
    refine w_v (x_pick_t rfl rfl rfl rfl) ?_
    refine w_m ?_
    iterate 3 refine w_n rfl ?_
    refine w_v (x_pick_t rfl rfl rfl rfl) ?_
    refine w_k2 ?_
    refine g_wk [(0,_),(1,_),(2,_),(3,_),(4,_),(18,_)] ?_
    refine g_cond_t rfl rfl ?_
    refine w_k7 ?_
    refine fin_r [.tmp 10,.tmp 11] [.pointer none,.int .i64 7] ?_
    have hE:newE n pz la seed=7:=by unfold newE; rw [if_neg hb1,if_pos (by omega)]
    rw [hE]
    exact ⟨rfl,H0.mask [true]⟩
   ·
    refine w_g (decide_eq_false hb3) xm ?_
    refine w_g (decide_eq_false hb3) (x_bin rfl rfl rfl b_lss) ?_
    refine w_v (x_pick_f rfl rfl (decide_eq_false hb3) rfl) ?_
    refine w_m ?_
    by_cases hb4:(pz:Int)<16
    ·
     iterate 2 refine w_n (decide_eq_true hb4) ?_
     refine w_v (x_pick_t rfl rfl (decide_eq_true hb4) rfl) ?_
     refine w_m ?_
     iterate 3 refine w_n rfl ?_
     refine w_v (x_pick_t rfl rfl rfl rfl) ?_
     refine w_m ?_
     iterate 2 refine w_n rfl ?_
     refine w_v (x_pick_t rfl rfl rfl rfl) ?_
     refine w_m ?_
     iterate 3 refine w_n rfl ?_
     refine w_v (x_pick_t rfl rfl rfl rfl) ?_
     refine w_k2 ?_
     refine g_wk [(0,_),(1,_),(2,_),(3,_),(4,_),(18,_)] ?_
     refine g_cond_t rfl rfl ?_
     refine w_k7 ?_
     refine fin_r [.tmp 10,.tmp 11] [.pointer none,.int .i64 7] ?_
     have hE:newE n pz la seed=7:=by unfold newE; rw [if_neg hb1,if_pos (by omega)]
     rw [hE]
     exact ⟨rfl,H0.mask [true]⟩
    ·
     refine w_g (decide_eq_false hb4) xm ?_
     refine w_g (decide_eq_false hb4) (x_bin rfl rfl rfl b_gtr) ?_
     refine w_v (x_pick_f rfl rfl (decide_eq_false hb4) rfl) ?_
     refine w_m ?_
     by_cases hb5:(1024:Int)<pz
     ·
      iterate 3 refine w_n (decide_eq_true hb5) ?_
      refine w_v (x_pick_t rfl rfl (decide_eq_true hb5) rfl) ?_
      refine w_m ?_
      iterate 2 refine w_n rfl ?_
      refine w_v (x_pick_t rfl rfl rfl rfl) ?_
      refine w_m ?_
      iterate 3 refine w_n rfl ?_
      refine w_v (x_pick_t rfl rfl rfl rfl) ?_
      refine w_k2 ?_
      refine g_wk [(0,_),(1,_),(2,_),(3,_),(4,_),(18,_)] ?_
      refine g_cond_t rfl rfl ?_
      refine w_k7 ?_
      refine fin_r [.tmp 10,.tmp 11] [.pointer none,.int .i64 7] ?_
      have hE:newE n pz la seed=7:=by unfold newE; rw [if_neg hb1,if_pos (by omega)]
      rw [hE]
      exact ⟨rfl,H0.mask [true]⟩
     ·
      refine w_g (decide_eq_false hb5) xm ?_
      refine w_g (v:=.int .i64 (pz % 16)) (decide_eq_false hb5) (x_bin rfl rfl rfl (b_rem (by omega) (rem0 (by omega)))) ?_
      refine w_g (decide_eq_false hb5) (x_bin rfl rfl rfl b_neq) ?_
      refine w_v (x_pick_f rfl rfl (decide_eq_false hb5) rfl) ?_
      refine w_m ?_
      by_cases hb6:(pz % 16:Int)=0
      ·
       refine w_g (nf hb6) xm ?_
       refine w_g (nf hb6) (x_bin rfl rfl rfl b_lss) ?_
       refine w_v (x_pick_f rfl rfl (nf hb6) rfl) ?_
       refine w_m ?_
       by_cases hb7:(la:Int)<1
       ·
        iterate 3 refine w_n (decide_eq_true hb7) ?_
        refine w_v (x_pick_t rfl rfl (decide_eq_true hb7) rfl) ?_
        refine w_k2 ?_
        refine g_wk [(0,_),(1,_),(2,_),(3,_),(4,_),(18,_)] ?_
        refine g_cond_t rfl rfl ?_
        refine w_k7 ?_
        refine fin_r [.tmp 10,.tmp 11] [.pointer none,.int .i64 7] ?_
        have hE:newE n pz la seed=7:=by unfold newE; rw [if_neg hb1,if_pos (by omega)]
        rw [hE]
        exact ⟨rfl,H0.mask [true]⟩
       ·
        iterate 2 refine w_g (decide_eq_false hb7) xm ?_
        refine w_g (decide_eq_false hb7) (x_bin rfl rfl rfl b_gtr) ?_
        refine w_v (x_pick_f rfl rfl (decide_eq_false hb7) rfl) ?_
        refine w_k2 ?_
        refine g_wk [(0,_),(1,_),(2,_),(3,_),(4,_),(18,_)] ?_
        refine g_cond_t rfl (decide_eq_true (by omega)) ?_
        refine w_k7 ?_
        refine fin_r [.tmp 10,.tmp 11] [.pointer none,.int .i64 7] ?_
        have hE:newE n pz la seed=7:=by unfold newE; rw [if_neg hb1,if_pos (by omega)]
        rw [hE]
        exact ⟨rfl,H0.mask [true]⟩
      ·
       iterate 2 refine w_n (nt hb6) ?_
       refine w_v (x_pick_t rfl rfl (nt hb6) rfl) ?_
       refine w_m ?_
       iterate 3 refine w_n rfl ?_
       refine w_v (x_pick_t rfl rfl rfl rfl) ?_
       refine w_k2 ?_
       refine g_wk [(0,_),(1,_),(2,_),(3,_),(4,_),(18,_)] ?_
       refine g_cond_t rfl rfl ?_
       refine w_k7 ?_
       refine fin_r [.tmp 10,.tmp 11] [.pointer none,.int .i64 7] ?_
       have hE:newE n pz la seed=7:=by unfold newE; rw [if_neg hb1,if_pos (by omega)]
       rw [hE]
       exact ⟨rfl,H0.mask [true]⟩
theorem made_wis (n:Nat):(madeCells #[Value.int .i64 0,Value.int .i64 0] (n * 2)).toList=fl wisL (List.replicate n ⟨0,0⟩):=by
 have h:∀ m,fl wisL (List.replicate m ⟨0,0⟩)=List.replicate (m * 2) (Value.int .i64 0):=fun m=>by
   induction m with
   | zero=>rfl
   | succ m ih =>
     have e:fl wisL (List.replicate (m+1) ⟨0,0⟩)=wisL ⟨0,0⟩++fl wisL (List.replicate m ⟨0,0⟩):=rfl
     rw [e,ih,show (m+1) * 2=m * 2+1+1 by omega,List.replicate_succ,List.replicate_succ]
     rfl
 rw [h]
 apply List.ext_getElem
 · simp [madeCells]
 · intro i h1 h2
   simp [madeCells]
   rcases Nat.mod_two_eq_zero_or_one i with e | e <;> simp [e]
section
variable {P:Program} {N:Nat} {Q:Exit→Act→World→Prop} {f:Fr} {ds:List Deferred} {w:World} {o:Oper} {ops:Array Oper} {L:List Item} {K:Act→World→Prop}
theorem s_makeW {d t e bytes:Nat} {x y:Operand} {kx ky:IntKind} {i j:Int} {z:Value} (n:Nat) (H:S w L) (hw:Wt ops f o) (hd:o.dst=some d) (hN:Nat.blt d N=true) (ho:o.op=.makeSlice t x y) (hx:evo f x=some (.int kx i)) (hy:evo f y=some (.int ky j))
   (hu:P.underlying t=some (.slice e)) (hi:infO P e=some (some z,2,bytes)) (hz:z.cells=#[.int .i64 0,.int .i64 0]) (hn:i=(n:Int)∧j=(n:Int)∧bytes * n≤281474976710656∧n≤4611686018427387904)
   (h:∀ g w',S w' (Rw e 2 (some ⟨g,0,none⟩) (List.replicate n (⟨0,0⟩:Wis)).length n (fl wisL (List.replicate n ⟨0,0⟩)) :: L)→G N K ((d,.slice (some ⟨g,0,none⟩) (List.replicate n (⟨0,0⟩:Wis)).length n) :: f) ds w'):G N (StepK P ops Q o K) f ds w:=
 s_new (v:=fun g=>.slice (some ⟨g,0,none⟩) n n) (b:=.cells (madeCells #[.int .i64 0,.int .i64 0] (n * 2)) e (0,0)) H hw hd hN (fun a ha=>by
   obtain ⟨rfl,rfl,h1,h2⟩:=hn
   obtain ⟨I,hI,hIz,hIs,hIb⟩:=inf_of hi
   have hb:(I.bytes:Int) * (n:Int)≤281474976710656:=by
     have h:((I.bytes * n:Nat):Int)≤281474976710656:=by rw [hIb]; omega
     rwa [Int.natCast_mul] at h
   have:=Go.run_make (P:=P) w t e I z hu hI hIz kx ky n n (by omega) (Int.le_refl _) hb (by omega)
   rw [hIs,hz,Int.toNat_natCast] at this
   unfold execOp
   simp only [ho,ha.eval hx,ha.eval hy,Sem.run_bind,this,Result.andThen_ok]
   rfl) fun g w' h9=>by
     have h1:=h g w'
     rw [List.length_replicate] at h1
     exact h1 (S.obFl (l:=List.replicate n (⟨0,0⟩:Wis)) wisE h9 (k:=0) rfl List.length_replicate.symm (by unfold maxLen; omega) (made_wis n))
end
section
variable {P:Program} {N:Nat} {ops:Array Oper} {Q:Exit→Act→World→Prop} {md:Region.Mode} {C:World→Prop} {T:List Nat} {f:Fr} {ds:List Deferred} {w:World} {listed:Array Bool} {fuel:Nat}
theorem a_four {i j k l:Nat} {o o' o'' o3:Oper} (hr:Region.ready md ops listed=[i,j,k,l]) (hi:ops[i]?=some o) (hj:ops[j]?=some o') (hk:ops[k]?=some o'') (hl:ops[l]?=some o3) (h:G N (StepK P ops Q o (AK P md ops Q C T fuel listed i)) f ds w) (h':G N (StepK P ops Q o' (AK P md ops Q C T fuel listed j)) f ds w) (h'':G N (StepK P ops Q o'' (AK P md ops Q C T fuel listed k)) f ds w) (h3:G N (StepK P ops Q o3 (AK P md ops Q C T fuel listed l)) f ds w):G N (wpAnyX P md ops Q C T (fuel+1) listed) f ds w:=fun a ha =>
 ⟨fun h0=>absurd (hr.symm.trans h0) (by simp),fun m hm=>by
   rw [hr] at hm
   simp only [List.mem_cons,List.not_mem_nil,or_false] at hm
   rcases hm with rfl | rfl | rfl | rfl
   · exact o_of hi h a ha
   · exact o_of hj h' a ha
   · exact o_of hk h'' a ha
   · exact o_of hl h3 a ha⟩
end
theorem rep_set {α:Type} (a b:α) (n i:Nat) (h:i<n):(List.replicate i a++List.replicate (n - i) b).set i a=List.replicate (i+1) a++List.replicate (n - (i+1)) b:=by
 rw [List.set_append_right _ _ (by simp),List.length_replicate,Nat.sub_self,show n - i=(n - (i+1))+1 by omega,List.replicate_succ,List.set_cons_zero,List.replicate_succ' (n:=i),List.append_assoc]
 rfl
theorem rep_at {α:Type} (a b:α) (n i:Nat) {x:α} (h:(List.replicate i a++List.replicate (n - i) b)[i]?=some x):x=b:=by
 rw [List.getElem?_append_right (by simp),List.length_replicate,Nat.sub_self] at h
 exact List.eq_of_mem_replicate (List.mem_of_getElem? h)
theorem newXOK (g mg bg n pz la:Nat) (hp wp:Option Addr) (seed:ByteArray) (ino:Bool):XOK ⟨g,hp,n,wp,n,mg,[],bg,[]⟩ (newPK n pz la seed ino):=
 ⟨rfl,fun m hm=>absurd hm List.not_mem_nil,List.nodup_nil,fun p=>by simp [kfd,PK.ent,newPK,PK.freeC,ofL]⟩
end Go.Proofs.YthmmfhdpkddniaaGreatDoor
