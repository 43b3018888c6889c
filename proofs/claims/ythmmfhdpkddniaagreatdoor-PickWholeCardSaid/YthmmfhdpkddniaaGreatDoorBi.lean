import Derived.Test.YthmmfhdpkddniaaGreatDoorRd
import Derived.Test.YthmmfhdpkddniaaGreatDoorFm
import Derived.Test.YthmmfhdpkddniaaGreatDoorRc
import Derived.Test.YthmmfhdpkddniaaGreatDoorGi
set_option maxRecDepth 20000
set_option maxHeartbeats 4000000
set_option linter.unusedSimpArgs false
set_option linter.unusedVariables false
namespace Go.Proofs.YthmmfhdpkddniaaGreatDoor
open Go.RowKit
theorem cl100:callable Tryz.prog 100=true:=by kernel_rfl
theorem cl102:callable Tryz.prog 102=true:=by kernel_rfl
theorem cl103:callable Tryz.prog 103=true:=by kernel_rfl
theorem cl104:callable Tryz.prog 104=true:=by kernel_rfl
theorem cl112:callable Tryz.prog 112=true:=by kernel_rfl
theorem cl113:callable Tryz.prog 113=true:=by kernel_rfl
theorem cl120:callable Tryz.prog 120=true:=by kernel_rfl
theorem cl150:callable Tryz.prog 150=true:=by kernel_rfl
theorem cl21:callable Tryz.prog 21=true:=by kernel_rfl
theorem cl36:callable Tryz.prog 36=true:=by kernel_rfl
theorem cl37:callable Tryz.prog 37=true:=by kernel_rfl
theorem cl57:callable Tryz.prog 57=true:=by kernel_rfl
theorem cl86:callable Tryz.prog 86=true:=by kernel_rfl
theorem cl87:callable Tryz.prog 87=true:=by kernel_rfl
theorem fo137_1:foO Tryz.prog 137 1=some 1:=by kernel_rfl
theorem ifc20:Tryz.prog.underlying 20=some (.interface (Tryz.prog.methodsAt 20)):=by kernel_rfl
theorem sz137:szO Tryz.prog 137=some 2:=by kernel_rfl
theorem sz30:szO Tryz.prog 30=some 1:=by kernel_rfl
theorem ze137:zeO Tryz.prog 137=some (.agg #[.int .i64 0,.slice none 0 0]):=by kernel_rfl
theorem ze30:zeO Tryz.prog 30=some (.int .i64 0):=by kernel_rfl
theorem ze4:zeO Tryz.prog 4=some (.bool false):=by kernel_rfl
def longN (n:Nat):Nat:=(n+7) / 8
def bitA (s:ByteArray) (i:Nat):Bool:=decide (bt' s (i / 8) / 2 ^ (7 - i % 8) % 2=1)
def firstBad (m:Nat) (s:ByteArray):Option Nat:=(List.range (8 * longN m)).find? (fun i=>decide (m≤i) && bitA s i)
def wrongN (m:Nat) (s:ByteArray):Int × Int:=
 if s.size=longN m then match firstBad m s with | some i=>((i:Int),12) | none=>(-1,0)
 else (min (s.size:Int) (longN m:Int),11)
def rightB (n:Int):Bool:=decide (0≤n) && decide (n≤4096)
def wrongS (n:Int) (s:ByteArray):Int × Int:=if rightB n=true then wrongN n.toNat s else (0,7)
def validF (n:Int) (s:ByteArray):Bool:=decide ((wrongS n s).2=0)
theorem wrongN_bad {m:Nat} {s:ByteArray} {i:Nat} (hs:s.size=longN m) (h:∀ j,m≤j→j<i→bitA s j=false) (hi:m≤i) (hl:i<8 * longN m) (hb:bitA s i=true):wrongN m s=((i:Int),12):=by
 have:firstBad m s=some i:=by
   unfold firstBad
   refine List.find?_eq_some_iff_getElem.2 ⟨by simp [hb,hi],i,by simpa using hl,by simp,fun j hj=>?_⟩
   simp only [List.getElem_range,Bool.not_and,Bool.or_eq_true,Bool.not_eq_true',decide_eq_false_iff_not]
   by_cases hm:m≤j
   · right; exact h j hm hj
   · left; exact hm
 unfold wrongN
 rw [if_pos hs,this]
theorem wrongN_ok {m:Nat} {s:ByteArray} (hs:s.size=longN m) (h:∀ j,m≤j→j<8 * longN m→bitA s j=false):wrongN m s=(-1,0):=by
 have:firstBad m s=none:=by
   unfold firstBad
   refine List.find?_eq_none.2 fun j hj=>?_
   rw [List.mem_range] at hj
   simp only [Bool.and_eq_true,decide_eq_true_eq,not_and,Bool.not_eq_true]
   exact fun hm=>h j hm hj
 unfold wrongN
 rw [if_pos hs,this]
theorem wrongN_size {m:Nat} {s:ByteArray} (hs:¬ s.size=longN m):wrongN m s=(min (s.size:Int) (longN m:Int),11):=by
 unfold wrongN; rw [if_neg hs]
theorem noBit_next {s:ByteArray} {m i:Nat} (h:∀ j,m≤j→j<i→bitA s j=false) (hb:bitA s i=false):∀ j,m≤j→j<i+1→bitA s j=false:=fun j h1 h2=>by
 rcases Nat.lt_succ_iff_lt_or_eq.1 h2 with h3 | rfl
 · exact h j h1 h3
 · exact hb
def fldStep (l:List Bool) (b:List Nat) (i:Nat):List Nat:=
 let c:=b.set (i / 8) (2 * b.getD (i / 8) 0 % 256)
 if l.getD i false=true then c.set (i / 8) ((c.getD (i / 8) 0+1) % 256) else c
def fldAt (l:List Bool):Nat→List Nat
 | 0=>List.replicate (longN l.length) 0
 | i+1=>fldStep l (fldAt l i) i
def fieldT (l:List Bool):ByteArray:=nbS (fldAt l (8 * longN l.length))
theorem fldStep_len (l:List Bool) (b:List Nat) (i:Nat):(fldStep l b i).length=b.length:=by
 unfold fldStep; split <;> simp
theorem fldAt_len (l:List Bool):∀ i,(fldAt l i).length=longN l.length
 | 0=>by simp [fldAt]
 | i+1=>by rw [fldAt,fldStep_len,fldAt_len l i]
theorem fldStep_lt {l:List Bool} {b:List Nat} {i:Nat} (h:∀ x∈b,x<256):∀ x∈fldStep l b i,x<256:=by
 unfold fldStep
 have h1:∀ x∈b.set (i / 8) (2 * b.getD (i / 8) 0 % 256),x<256:=fun x hx=>by
   rcases List.mem_or_eq_of_mem_set hx with hx | rfl
   · exact h x hx
   · exact Nat.mod_lt _ (by omega)
 split
 · intro x hx
   rcases List.mem_or_eq_of_mem_set hx with hx | rfl
   · exact h1 x hx
   · exact Nat.mod_lt _ (by omega)
 · exact h1
theorem fldAt_lt (l:List Bool):∀ i,∀ x∈fldAt l i,x<256
 | 0=>fun x hx=>by rw [fldAt] at hx; have:=List.eq_of_mem_replicate hx; omega
 | i+1=>by rw [fldAt]; exact fldStep_lt (fldAt_lt l i)
theorem getD_lt {b:List Nat} (h:∀ x∈b,x<256) (i:Nat):b.getD i 0<256:=by
 rw [List.getD_eq_getElem?_getD]
 cases hq:b[i]? with
 | none=>show (0:Nat)<256; omega
 | some x=>exact h x (List.mem_of_getElem? hq)
def bitStep (b:List Nat) (i:Nat):List Nat:=b.set (i / 8) (b.getD (i / 8) 0 ||| 128 / 2 ^ (i % 8))
def fullAt (n:Nat):Nat→List Nat
 | 0=>List.replicate (longN n) 0
 | i+1=>bitStep (fullAt n i) i
theorem fullAt_len (n:Nat):∀ i,(fullAt n i).length=longN n
 | 0=>by simp [fullAt]
 | i+1=>by rw [fullAt,bitStep,List.length_set,fullAt_len n i]
theorem bitStep_lt {b:List Nat} (h:∀ x∈b,x<256) (i:Nat):∀ x∈bitStep b i,x<256:=fun x hx=>by
 rcases List.mem_or_eq_of_mem_set hx with hx | rfl
 · exact h x hx
 · have h1:=getD_lt h (i / 8)
   have h2:128 / 2 ^ (i % 8)≤128:=Nat.div_le_self _ _
   exact Nat.or_lt_two_pow (n:=8) (by omega) (by omega)
def newS (n:Int):ByteArray × Int:=if rightB n=true then (nbS (List.replicate (longN n.toNat) 0),0) else (⟨#[]⟩,7)
def fullS (n:Int):ByteArray × Int:=if rightB n=true then (nbS (fullAt n.toNat n.toNat),0) else (⟨#[]⟩,7)
theorem right_r (n:Int)  (w:World):Calls Tryz.prog 100 #[.int .i64 n] w fun e w'=>e=.returned (.bool (rightB n))∧S w' [Old w no]:=by
 have H0:=S.old w
 refine enter 9 Tryz.func100 rfl rfl rfl ?_
 refine g_wk [(0,_)] ?_
 refine w_s ?_
 refine w_k6 ?_
 by_cases hb1:(0:Int)≤n
 ·
  refine w_g (decide_eq_true hb1) xm ?_
  refine w_g (decide_eq_true hb1) (x_bin rfl rfl rfl b_leq) ?_
  refine w_v (x_pick_t rfl rfl (decide_eq_true hb1) rfl) ?_
  refine w_k3 ?_
  refine fin_r [.tmp 2] [.bool (decide ((n:Int)≤4096))] ?_
  exact ⟨by simp only [tupled,rightB]; simp [hb1],H0.mask [true]⟩
 ·
  iterate 2 refine w_n (decide_eq_false hb1) ?_
  refine w_v (x_pick_f rfl rfl (decide_eq_false hb1) rfl) ?_
  refine w_k3 ?_
  refine fin_r [.tmp 2] [.bool false] ?_
  exact ⟨by simp only [tupled,rightB]; simp [hb1],H0.mask [true]⟩
theorem long_r (n:Nat) (hn:n≤1099511627776) (w:World):Calls Tryz.prog 57 #[.int .i64 ((n:Int))] w fun e w'=>e=.returned (.int .i64 ((longN n:Nat):Int))∧S w' [Old w no]:=by
 have H0:=S.old w
 refine enter 6 Tryz.func57 rfl rfl rfl ?_
 refine g_wk [(0,_)] ?_
 refine w_s ?_
 refine w_k4 ?_
 refine w_b (v:=.int .i64 (((n+7:Nat):Int))) (hb:=(b_addN (a:=n) (b:=7) (by omega))) ?_
 refine w_b (v:=.int .i64 ((((n+7) / 8:Nat):Int))) (hb:=(b_quoN (a:=n+7) (b:=8) (by omega))) ?_
 refine w_k3 ?_
 refine fin_r [.tmp 2] [.int .i64 ((((n+7) / 8:Nat):Int))] ?_
 exact ⟨rfl,H0.mask [true]⟩
theorem bitA_of {s:ByteArray} {i c:Nat} (hc:c=bt' s (i / 8) / 2 ^ (7 - i % 8)):decide (((c % 2:Nat):Int)=1)=bitA s i:=by
 subst hc; unfold bitA; rw [decide_eq_decide]; omega
theorem rightB_nat {m:Nat} (h:m≤4096):rightB (m:Int)=true:=by unfold rightB; simp; omega
theorem at_r (s:ByteArray) (i:Nat) (hi:i / 8<s.size) (hi2:i≤1099511627776) (w:World):Calls Tryz.prog 87 #[.string s,.int .i64 ((i:Int))] w fun e w'=>e=.returned (.bool (bitA s i))∧S w' [Old w no]:=by
 have H0:=S.old w
 have hb8:=bt'_lt s (i / 8)
 have hcl:∀ k:Nat,bt' s (i / 8) / 2 ^ k≤bt' s (i / 8):=fun k=>Nat.div_le_self _ _
 refine enter 22 Tryz.func87 rfl rfl rfl ?_
 refine g_wk [(0,_),(1,_)] ?_
 refine w_s ?_
 refine w_k5 ?_
 refine w_b (v:=.int .i64 (((i / 8:Nat):Int))) (hb:=(b_quoN (a:=i) (b:=8) (by omega))) ?_
 have hbt1:=bt'_lt s (i / 8)
 refine w_v (v:=.int .u8 ((bt' s (i / 8):Int))) (x_index (i / 8) rfl rfl rfl Tryz.underlying9 (by omega)) ?_
 refine w_v (v:=.int .i64 ((bt' s (i / 8):Int))) (x_conv rfl rfl Tryz.underlying5 Tryz.underlying3 (w64 (by omega))) ?_
 refine w_k5 ?_
 refine w_b (v:=.int .i64 (((i % 8:Nat):Int))) (hb:=(b_remN (a:=i) (b:=8) (by omega))) ?_
 refine w_b (v:=.int .i64 (((7 - i % 8:Nat):Int))) (hb:=(b_subN (a:=7) (b:=i % 8) (by omega))) ?_
 refine w_k3 ?_
 refine g_loop (ι:=Nat × Nat) (fun (k,c)=>[(5,.int .i64 ((c:Int))),(13,.int .i64 (((7 - i % 8:Nat):Int))),(14,.int .i64 ((k:Int)))]) (fun (k,c) wx=>(k≤7 - i % 8)∧(c=bt' s (i / 8) / 2 ^ k)∧S wx [Old w no]) (fun (k,c)=>7 - i % 8 - k) (0,bt' s (i / 8)) ⟨rfl,rfl,rfl,trivial⟩ ⟨Nat.zero_le _,(by rw [Nat.pow_zero,Nat.div_one]),H0⟩ ?_
 rintro ⟨k,c⟩ wq2 ⟨hk,hc,H3⟩
 refine g_wk [(5,_),(13,_),(14,_)] ?_
 refine w_s ?_
 refine w_k2 ?_
 refine g_seq ?_
 by_cases hb4:((k:Int):Int)<((7 - i % 8:Nat):Int)
 ·
  refine g_ct hb4 ?_
  refine w_k6 ?_
  refine w_b (v:=.int .i64 (((c / 2:Nat):Int))) (hb:=(b_quoN (a:=c) (b:=2) (by have:=hcl k; omega))) ?_
  refine w_k5 ?_
  refine w_b (v:=.int .i64 ((k:Int)+1)) (hb:=(b_add (w64 (by omega)))) ?_
  refine w_k2 ?_
  refine g_rd (i:=(k,c)) (k+1,c / 2) ⟨by omega,(by rw [hc,Nat.div_div_eq_div_mul,Nat.pow_succ]),H3⟩
 ·
  refine g_cf hb4 ?_
  refine w_k7 ?_
  refine w_b (v:=.int .i64 (((c % 2:Nat):Int))) (hb:=(b_remN (a:=c) (b:=2) (by omega))) ?_
  refine w_k4 ?_
  refine fin_r [.tmp 4] [.bool (decide ((((c % 2:Nat):Int):Int)=1))] ?_
  have hk2:k=7 - i % 8:=by omega
  rw [hk2] at hc
  exact ⟨by rw [← bitA_of hc]; rfl,H3.mask [true]⟩
section
variable (n:Int) (s:ByteArray)
theorem wrong_ro (h:rightB n=false) (w:World):Calls Tryz.prog 150 #[.int .i64 n,.string s] w fun e w'=>e=.returned (.tuple #[.int .i64 (wrongS n s).1,.int .i64 (wrongS n s).2])∧S w' [Old w no]:=by
 have H0:=S.old w
 refine enter 39 Tryz.func150 rfl rfl rfl ?_
 refine g_wk [(0,_),(1,_)] ?_
 refine w_s ?_
 refine w_k7 ?_
 refine l_of (s_call0 H0 (wt0 rfl) (x_call' rfl rfl cl100) (right_r _ _) rfl rfl ?_)
 intro wq1 H2
 refine w_v (x_not (b:=rightB n) rfl rfl) ?_
 refine w_k2 ?_
 refine g_cond_t rfl (neg_of h) ?_
 refine w_k7 ?_
 refine fin_r [.tmp 4,.tmp 5] [.int .i64 0,.int .i64 7] ?_
 exact ⟨by unfold wrongS; rw [h,if_neg Bool.false_ne_true]; rfl,H2.mask [true]⟩
theorem wrong_ri (m:Nat) (s:ByteArray) (hm:m≤4096) (w:World):Calls Tryz.prog 150 #[.int .i64 ((m:Int)),.string s] w fun e w'=>e=.returned (.tuple #[.int .i64 (wrongN m s).1,.int .i64 (wrongN m s).2])∧S w' [Old w no]:=by
 have H0:=S.old w
 have hlm:longN m≤512:=by unfold longN; omega
 refine enter 39 Tryz.func150 rfl rfl rfl ?_
 refine g_wk [(0,_),(1,_)] ?_
 refine w_s ?_
 refine w_k7 ?_
 refine l_of (s_call0 H0 (wt0 rfl) (x_call' rfl rfl cl100) (right_r _ _) rfl rfl ?_)
 intro wq1 H2
 refine w_v (x_not (b:=rightB (m:Int)) rfl rfl) ?_
 refine w_k2 ?_
 refine g_cond_f rfl (neg_of (rightB_nat hm)) ?_
 refine w_k2 ?_
 refine w_v (x_lens rfl rfl Tryz.underlying9) ?_
 refine w_m ?_
 refine l_of (s_call0 H2 (wt0 rfl) (x_call' rfl rfl cl57) (long_r _ (by omega) _) rfl rfl ?_)
 intro wq3 H4
 refine w_k3 ?_
 by_cases hb5:((s.size:Int):Int)<((longN m:Nat):Int)
 ·
  refine g_ct hb5 ?_
  refine w_k2 ?_
  refine w_v (x_lens rfl rfl Tryz.underlying9) ?_
  refine w_k3 ?_
  refine g_wk [(4,_),(5,_)] ?_
  refine g_ret ?_
  refine w_k2 ?_
  refine fin_r [.tmp 4,.tmp 5] [.int .i64 ((s.size:Int)),.int .i64 11] ?_
  exact ⟨by rw [wrongN_size (by omega)]; have hmn:min (s.size:Int) (longN m:Int)=((s.size:Int)):=(by omega); rw [hmn]; rfl,H4.mask [true]⟩
 ·
  refine g_cf hb5 ?_
  refine w_k2 ?_
  refine w_v (x_lens rfl rfl Tryz.underlying9) ?_
  refine w_m ?_
  refine l_of (s_call0 H4 (wt0 rfl) (x_call' rfl rfl cl57) (long_r _ (by omega) _) rfl rfl ?_)
  intro wq6 H7
  refine w_k3 ?_
  refine g_wk [(0,_),(1,_),(19,_)] ?_
  by_cases hb8:(((longN m:Nat):Int):Int)<(s.size:Int)
  ·
   refine g_ct hb8 ?_
   refine w_k2 ?_
   refine l_of (s_call0 H7 (wt0 rfl) (x_call' rfl rfl cl57) (long_r _ (by omega) _) rfl rfl ?_)
   intro wq9 H10
   refine w_k6 ?_
   refine fin_r [.tmp 4,.tmp 5] [.int .i64 (((longN m:Nat):Int)),.int .i64 11] ?_
   exact ⟨by rw [wrongN_size (by omega)]; have hmn:min (s.size:Int) (longN m:Int)=(((longN m:Nat):Int)):=(by omega); rw [hmn]; rfl,H10.mask [true]⟩
  ·
   refine g_cf hb8 ?_
   refine w_k9 ?_
   refine g_loop (ι:=Nat) (fun i=>[(0,.int .i64 ((m:Int))),(1,.string s),(6,.int .i64 ((i:Int)))]) (fun i wx=>(m≤i)∧(i≤8 * longN m)∧(∀ j,m≤j→j<i→bitA s j=false)∧S wx [Old w no]) (fun i=>8 * longN m - i) (m) ⟨rfl,rfl,rfl,trivial⟩ ⟨Nat.le_refl _,(by unfold longN; omega),(fun j h1 h2=>by omega),H7⟩ ?_
   rintro i wq11 ⟨hmi,hil,hno,H12⟩
   refine g_wk [(0,_),(1,_),(6,_)] ?_
   refine g_seq ?_
   refine w_k3 ?_
   refine l_of (s_call0 H12 (wt0 rfl) (x_call' rfl rfl cl57) (long_r _ (by omega) _) rfl rfl ?_)
   intro wq13 H14
   refine w_b (v:=.int .i64 (((8 * longN m:Nat):Int))) (hb:=(b_mulN (a:=8) (b:=longN m) (by omega))) ?_
   refine w_k2 ?_
   by_cases hb15:((i:Int):Int)<((8 * longN m:Nat):Int)
   ·
    refine g_ct hb15 ?_
    refine w_k7 ?_
    refine l_of (s_call0 H14 (wt0 rfl) (x_call' rfl rfl cl87) (at_r _ _ (by omega) (by omega) _) rfl rfl ?_)
    intro wq16 H17
    refine w_e ?_
    rcases Bool.eq_false_or_eq_true (bitA s i) with hb18 | hb18
    ·
     refine g_cond_t rfl hb18 ?_
     refine w_k5 ?_
     refine g_wk [(4,_),(5,_)] ?_
     refine g_ret ?_
     refine w_k5 ?_
     refine fin_r [.tmp 4,.tmp 5] [.int .i64 ((i:Int)),.int .i64 12] ?_
     exact ⟨by rw [wrongN_bad (by omega) hno hmi (by omega) hb18]; rfl,H17.mask [true]⟩
    ·
     refine g_cond_f rfl hb18 ?_
     refine w_k5 ?_
     refine w_b (v:=.int .i64 ((i:Int)+1)) (hb:=(b_add (w64 (by omega)))) ?_
     refine w_k2 ?_
     refine g_rd (i:=(i)) (i+1) ⟨by omega,by omega,(noBit_next hno hb18),H17⟩
   ·
    refine g_cf hb15 ?_
    refine w_k10 ?_
    refine fin_r [.tmp 4,.tmp 5] [.int .i64 (-1),.int .i64 0] ?_
    exact ⟨by rw [wrongN_ok (by omega) (fun j h1 h2=>hno j h1 (by omega))]; rfl,H14.mask [true]⟩
theorem wrongB_r (w:World):Calls Tryz.prog 150 #[.int .i64 n,.string s] w fun e w'=>e=.returned (.tuple #[.int .i64 (wrongS n s).1,.int .i64 (wrongS n s).2])∧S w' [Old w no]:=by
 by_cases h:rightB n=true
 · have h1:0≤n∧n≤4096:=by unfold rightB at h; simpa using h
   obtain ⟨m,rfl⟩:∃ m:Nat,n=m:=⟨n.toNat,by omega⟩
   have e:wrongS (m:Int) s=wrongN m s:=by unfold wrongS; rw [if_pos h,Int.toNat_natCast]
   rw [e]; exact wrong_ri m s (by omega) w
 · exact wrong_ro n s (by simpa using h) w
theorem valid_fr  (w:World):Calls Tryz.prog 120 #[.int .i64 n,.string s] w fun e w'=>e=.returned (.bool (validF n s))∧S w' [Old w no]:=by
 have H0:=S.old w
 refine enter 15 Tryz.func120 rfl rfl rfl ?_
 refine g_wk [(0,_),(1,_)] ?_
 refine w_s ?_
 refine w_k5 ?_
 refine l_of (s_call0 H0 (wt0 rfl) (x_call' rfl rfl cl150) (wrongB_r _ _ _) rfl rfl ?_)
 intro wq1 H2
 refine w_k11 ?_
 refine g_wk [(4,_)] ?_
 refine g_ret ?_
 refine fin_r [.tmp 4] [.bool (decide (((wrongS n s).2:Int)=0))] ?_
 exact ⟨rfl,H2.mask [true]⟩
def checkS (n:Int) (s:ByteArray):Int:=if rightB n=true then (if validF n s=true then 0 else 1) else 7
theorem checkB_r  (w:World):Calls Tryz.prog 86 #[.int .i64 n,.string s] w fun e w'=>e=.returned (.int .i64 (checkS n s))∧S w' [Old w no]:=by
 have H0:=S.old w
 refine enter 14 Tryz.func86 rfl rfl rfl ?_
 refine g_wk [(0,_),(1,_)] ?_
 refine w_s ?_
 refine w_k6 ?_
 refine l_of (s_call0 H0 (wt0 rfl) (x_call' rfl rfl cl100) (right_r _ _) rfl rfl ?_)
 intro wq1 H2
 refine w_v (x_not (b:=rightB n) rfl rfl) ?_
 refine w_k2 ?_
 rcases Bool.eq_false_or_eq_true (rightB n) with hb3 | hb3
 ·
  refine g_cond_f rfl (neg_of hb3) ?_
  refine w_k3 ?_
  refine l_of (s_call0 H2 (wt0 rfl) (x_call' rfl rfl cl120) (valid_fr _ _ _) rfl rfl ?_)
  intro wq4 H5
  refine w_v (x_not (b:=validF n s) rfl rfl) ?_
  refine w_k2 ?_
  rcases Bool.eq_false_or_eq_true (validF n s) with hb6 | hb6
  ·
   refine g_cond_f rfl (neg_of hb6) ?_
   refine w_k3 ?_
   refine g_wk [] ?_
   refine w_s ?_
   refine w_k3 ?_
   refine fin_r [.tmp 4] [.int .i64 0] ?_
   exact ⟨by simp only [checkS,tupled]; simp [hb3,hb6],H5.mask [true]⟩
  ·
   refine g_cond_t rfl (neg_of hb6) ?_
   refine w_k6 ?_
   refine fin_r [.tmp 4] [.int .i64 1] ?_
   exact ⟨by simp only [checkS,tupled]; simp [hb3,hb6],H5.mask [true]⟩
 ·
  refine g_cond_t rfl (neg_of hb3) ?_
  refine w_k6 ?_
  refine fin_r [.tmp 4] [.int .i64 7] ?_
  exact ⟨by simp only [checkS,tupled]; simp [hb3],H2.mask [true]⟩
theorem fail_p (b:Bool) (n:Int) (hb:b=true) (w:World):Calls Tryz.prog 112 #[.bool b,.int .i64 n] w fun e w'=>e=.panicked [{ v:=.iface 155 (.int .i64 n),recovered:=false }]∧S w' [Old w no]:=by
 have H0:=S.old w
 refine enter 7 Tryz.func112 rfl rfl rfl ?_
 refine g_wk [(0,_),(1,_)] ?_
 refine w_s ?_
 refine w_k2 ?_
 refine g_cond_t rfl hb ?_
 refine w_k2 ?_
 refine w_v (v:=.iface 155 (.int .i64 n)) (x_makeInterface rfl rfl Tryz.underlying155 rfl) ?_
 refine l_of (s_panic (wt0 rfl) (xp_panic rfl rfl) ?_)
 refine fin_panic ?_
 exact ⟨rfl,H0.mask [true]⟩
theorem fail_r (b:Bool) (n:Int) (hb:b=false) (w:World):Calls Tryz.prog 112 #[.bool b,.int .i64 n] w fun e w'=>e=.returned (.tuple #[])∧S w' [Old w no]:=by
 have H0:=S.old w
 refine enter 7 Tryz.func112 rfl rfl rfl ?_
 refine g_wk [(0,_),(1,_)] ?_
 refine w_s ?_
 refine w_k2 ?_
 refine g_cond_f rfl hb ?_
 refine w_0 ?_
 refine fin_end [] [] rfl trivial ?_
 exact ⟨rfl,H0.mask [true]⟩
theorem has_b (m gb n c i b:Nat) (w:World) (hb:b<256) (hi:i / 8<n) (hi2:i≤1099511627776) (hc:w.cell? ⟨gb,i / 8,none⟩=some (.int .u8 ((b:Nat):Int))):Calls Tryz.prog 113 #[.agg #[.int .i64 ((m:Int)),.slice (some ⟨gb,0,none⟩) (n) (c)],.int .i64 ((i:Int))] w fun e w'=>e=.returned (.bool (decide (b / 2 ^ (7 - i % 8) % 2=1)))∧S w' [Old w no]:=by
 have H0:=S.old w
 refine enter 17 Tryz.func113 rfl rfl rfl ?_
 refine g_wk [(0,_),(1,_)] ?_
 refine w_s ?_
 refine l_of (s_box H0 (wt0 rfl) rfl rfl rfl rfl ?_)
 intro g1 wq2 H3
 refine w_k6 ?_
 refine w_b (v:=.int .i64 (((i / 8:Nat):Int))) (hb:=(b_quoN (a:=i) (b:=8) (by omega))) ?_
 refine w_v (v:=.pointer (some ⟨gb,(i / 8),none⟩)) (x_indexAddr (i / 8) rfl rfl rfl Tryz.underlying113 sz5 (by omega) (off':=i / 8) (by omega)) ?_
 refine w_v (v:=.int .u8 (((b:Nat):Int))) (x_loadC rfl rfl Tryz.underlying5 rfl (H3.oldCell (k:=1) rfl hc id)) ?_
 refine w_m ?_
 refine w_b (v:=.int .i64 (((i % 8:Nat):Int))) (hb:=(b_remN (a:=i) (b:=8) (by omega))) ?_
 refine w_b (v:=.int .i64 (((7 - i % 8:Nat):Int))) (hb:=(b_subN (a:=7) (b:=i % 8) (by omega))) ?_
 refine w_b (v:=.int .u8 (((b / 2 ^ (7 - i % 8):Nat):Int))) (hb:=(b_shrN (a:=b) (n:=7 - i % 8) (by show 7 - i % 8≤8; omega))) ?_
 refine w_b (v:=.int .u8 (((b / 2 ^ (7 - i % 8) % 2:Nat):Int))) (hb:=(b_and1 (a:=b / 2 ^ (7 - i % 8)) (by have:=Nat.div_le_self b (2 ^ (7 - i % 8)); omega))) ?_
 refine w_k3 ?_
 refine g_wk [(4,_)] ?_
 refine g_ret ?_
 refine fin_r [.tmp 4] [.bool (decide (((b / 2 ^ (7 - i % 8) % 2:Nat):Int)=1))] ?_
 have hdd:decide (b / 2 ^ (7 - i % 8) % 2=1)=decide (((b / 2 ^ (7 - i % 8) % 2:Nat):Int)=1):=by rw [decide_eq_decide]; omega
 exact ⟨by rw [hdd]; rfl,H3.mask [false,true]⟩
theorem rightB_iff {n:Int}:rightB n=true ↔ 0≤n∧n≤4096:=by unfold rightB; simp
theorem wrong_bo (h:¬ (0≤n∧n≤4096)) (w:World):Calls Tryz.prog 104 #[.int .i64 n,.string s] w fun e w'=>e=.returned (.tuple #[.int .i64 (wrongS n s).1,.int .i64 (wrongS n s).2])∧S w' [Old w no]:=by
 have H0:=S.old w
 refine enter 41 Tryz.func104 rfl rfl rfl ?_
 refine g_wk [(0,_),(1,_)] ?_
 refine w_s ?_
 refine w_k8 ?_
 by_cases hb1:(n:Int)<0
 ·
  iterate 2 refine w_n (decide_eq_true hb1) ?_
  refine w_v (x_pick_t rfl rfl (decide_eq_true hb1) rfl) ?_
  refine w_e ?_
  refine g_cond_t rfl rfl ?_
  refine w_k6 ?_
  refine fin_r [.tmp 4,.tmp 5] [.int .i64 0,.int .i64 7] ?_
  exact ⟨by unfold wrongS; rw [if_neg (by rw [rightB_iff]; omega)]; rfl,H0.mask [true]⟩
 ·
  refine w_g (decide_eq_false hb1) xm ?_
  refine w_g (decide_eq_false hb1) (x_bin rfl rfl rfl b_gtr) ?_
  refine w_v (x_pick_f rfl rfl (decide_eq_false hb1) rfl) ?_
  refine w_e ?_
  refine g_cond_t rfl (decide_eq_true (by omega)) ?_
  refine w_k6 ?_
  refine fin_r [.tmp 4,.tmp 5] [.int .i64 0,.int .i64 7] ?_
  exact ⟨by unfold wrongS; rw [if_neg (by rw [rightB_iff]; omega)]; rfl,H0.mask [true]⟩
theorem wrong_bi (m:Nat) (s:ByteArray) (hm:m≤4096) (w:World):Calls Tryz.prog 104 #[.int .i64 ((m:Int)),.string s] w fun e w'=>e=.returned (.tuple #[.int .i64 (wrongN m s).1,.int .i64 (wrongN m s).2])∧S w' [Old w no]:=by
 have H0:=S.old w
 have hlm:longN m≤512:=by unfold longN; omega
 refine enter 41 Tryz.func104 rfl rfl rfl ?_
 refine g_wk [(0,_),(1,_)] ?_
 refine w_s ?_
 refine w_k8 ?_
 refine l_of (s_val (v:=.int .i64 ((m:Int))) (wt1 rfl rfl rfl rfl (decide_eq_false (by omega))) rfl rfl (x_move rfl rfl) ?_)
 refine l_of (s_val (v:=.bool (decide ((4096:Int)<(m:Int)))) (wt1 rfl rfl rfl rfl (decide_eq_false (by omega))) rfl rfl (x_bin rfl rfl rfl b_gtr) ?_)
 refine w_v (x_pick_f rfl rfl (decide_eq_false (by omega)) rfl) ?_
 refine w_e ?_
 refine g_cond_f rfl (decide_eq_false (by omega)) ?_
 refine w_k4 ?_
 refine w_b (v:=.int .i64 (((m+7:Nat):Int))) (hb:=(b_addN (a:=m) (b:=7) (by omega))) ?_
 refine w_b (v:=.int .i64 (((longN m:Nat):Int))) (hb:=(b_quoN (a:=m+7) (b:=8) (by omega))) ?_
 refine w_k5 ?_
 refine w_v (x_lens rfl rfl Tryz.underlying9) ?_
 refine w_m ?_
 refine w_b (v:=.bool (!decide (((s.size:Int):Int)=((longN m:Nat):Int)))) (hb:=b_neq) ?_
 refine w_e ?_
 refine g_wk [(0,_),(1,_),(6,_),(21,_)] ?_
 by_cases hb1:((s.size:Int):Int)=((longN m:Nat):Int)
 ·
  refine g_nf hb1 ?_
  refine w_k5 ?_
  refine l_of (s_bytesOf H0 (wt0 rfl) rfl rfl rfl rfl Tryz.underlying9 Tryz.underlying113 Tryz.underlying5 ?_)
  intro g2 c3 fr4 cs5 wq8 H9 hcs6 hcc7
  refine w_v (v:=.agg #[.int .i64 ((m:Int)),.slice (some ⟨g2,0,none⟩) (s.size) (c3)]) (x_build (vs:=[.int .i64 ((m:Int)),.slice (some ⟨g2,0,none⟩) (s.size) (c3)]) rfl rfl (cells:=#[.int .i64 ((m:Int)),.slice (some ⟨g2,0,none⟩) (s.size) (c3)]) (by kernel_rfl)) ?_
  refine l_of (s_alloc H9 (wt0 rfl) rfl rfl rfl ze137 ?_)
  intro g10 wq11 H12
  refine l_of (w_st #[.int .i64 ((m:Int)),.slice (some ⟨g2,0,none⟩) (s.size) (c3)] H12 0 ?_)
  intro wq13 H14
  refine w_k7 ?_
  refine g_loop (ι:=Nat) (fun i=>[(6,.int .i64 (((longN m:Nat):Int))),(7,.pointer (some ⟨g10,0,none⟩)),(8,.int .i64 ((i:Int)))]) (fun i wx=>(m≤i)∧(i≤8 * longN m)∧(∀ j,m≤j→j<i→bitA s j=false)∧S wx [Ob g10 (.cells #[.int .i64 ((m:Int)),.slice (some ⟨g2,0,none⟩) (s.size) (c3)] 137 (0,0)),Ob g2 (.cells cs5 5 fr4),Old w no]) (fun i=>8 * longN m - i) (m) ⟨rfl,rfl,rfl,trivial⟩ ⟨Nat.le_refl _,(by unfold longN; omega),(fun j h1 h2=>by omega),H14⟩ ?_
  rintro i wq15 ⟨hmi,hil,hno,H16⟩
  refine g_wk [(6,_),(7,_),(8,_)] ?_
  refine g_seq ?_
  refine w_k3 ?_
  refine w_b (v:=.int .i64 (((8 * longN m:Nat):Int))) (hb:=(b_mulN (a:=8) (b:=longN m) (by omega))) ?_
  refine w_k2 ?_
  by_cases hb17:((i:Int):Int)<((8 * longN m:Nat):Int)
  ·
   refine g_ct hb17 ?_
   refine w_k5 ?_
   refine w_v (v:=.agg #[.int .i64 ((m:Int)),.slice (some ⟨g2,0,none⟩) (s.size) (c3)]) (x_loadA H16 0 rfl rfl Tryz.underlying137 rfl sz137 rfl rfl rfl) ?_
   refine w_m ?_
   have hb8:=bt'_lt s (i / 8)
   refine l_of (s_call0 H16 (wt0 rfl) (x_call' rfl rfl cl113) (has_b m g2 s.size c3 i (bt' s (i / 8)) _ hb8 (by omega) (by omega) (H16.cell (k:=1) rfl (hcs6 (i / 8) (by omega)))) rfl rfl ?_)
   intro wq18 H19
   refine w_e ?_
   rcases Bool.eq_false_or_eq_true (bitA s i) with hb20 | hb20
   ·
    refine g_cond_t rfl hb20 ?_
    refine w_k11 ?_
    refine fin_r [.tmp 4,.tmp 5] [.int .i64 ((i:Int)),.int .i64 12] ?_
    exact ⟨by rw [wrongN_bad (by omega) hno hmi (by omega) hb20]; rfl,H19.mask [false,false,true]⟩
   ·
    refine g_cond_f rfl hb20 ?_
    refine w_k5 ?_
    refine w_b (v:=.int .i64 ((i:Int)+1)) (hb:=(b_add (w64 (by omega)))) ?_
    refine w_k2 ?_
    refine g_rd (i:=(i)) (i+1) ⟨by omega,by omega,(noBit_next hno hb20),H19⟩
  ·
   refine g_cf hb17 ?_
   refine w_k10 ?_
   refine fin_r [.tmp 4,.tmp 5] [.int .i64 (-1),.int .i64 0] ?_
   exact ⟨by rw [wrongN_ok (by omega) (fun j h1 h2=>hno j h1 (by omega))]; rfl,H16.mask [false,false,true]⟩
 ·
  refine g_nt hb1 ?_
  refine w_k2 ?_
  refine w_v (x_lens rfl rfl Tryz.underlying9) ?_
  refine w_m ?_
  refine w_v (v:=.int .i64 (min (s.size:Int) ((longN m:Nat):Int))) (x_min rfl rfl rfl) ?_
  refine w_k5 ?_
  refine fin_r [.tmp 4,.tmp 5] [.int .i64 (min (s.size:Int) ((longN m:Nat):Int)),.int .i64 11] ?_
  exact ⟨by rw [wrongN_size (by omega)]; have hmn:min (s.size:Int) (longN m:Int)=(min (s.size:Int) ((longN m:Nat):Int)):=(by omega); rw [hmn]; rfl,H0.mask [true]⟩
theorem wrong_b (w:World):Calls Tryz.prog 104 #[.int .i64 n,.string s] w fun e w'=>e=.returned (.tuple #[.int .i64 (wrongS n s).1,.int .i64 (wrongS n s).2])∧S w' [Old w no]:=by
 by_cases h1:0≤n∧n≤4096
 · obtain ⟨m,rfl⟩:∃ m:Nat,n=m:=⟨n.toNat,by omega⟩
   have e:wrongS (m:Int) s=wrongN m s:=by unfold wrongS; rw [if_pos (rightB_iff.2 h1),Int.toNat_natCast]
   rw [e]; exact wrong_bi m s (by omega) w
 · exact wrong_bo n s h1 w
theorem valid_b  (w:World):Calls Tryz.prog 41 #[.int .i64 n,.string s] w fun e w'=>e=.returned (.bool (validF n s))∧S w' [Old w no]:=by
 have H0:=S.old w
 refine enter 15 Tryz.func41 rfl rfl rfl ?_
 refine g_wk [(0,_),(1,_)] ?_
 refine w_s ?_
 refine w_k5 ?_
 refine l_of (s_call0 H0 (wt0 rfl) (x_call' rfl rfl cl104) (wrong_b _ _ _) rfl rfl ?_)
 intro wq1 H2
 refine w_k11 ?_
 refine g_wk [(4,_)] ?_
 refine g_ret ?_
 refine fin_r [.tmp 4] [.bool (decide (((wrongS n s).2:Int)=0))] ?_
 exact ⟨rfl,H2.mask [true]⟩
theorem nbV_bytes {b:List Nat} (h:∀ x∈b,x<256):(nbV b).toList=bytesV (b.map UInt8.ofNat):=by
 unfold nbV bytesV
 rw [List.map_map]
 refine List.map_congr_left fun x hx=>?_
 have:=h x hx
 simp only [Function.comp]
 congr 1
 rw [UInt8.toNat_ofNat']
 omega
theorem zeros_lt (n:Nat):∀ x∈List.replicate n 0,x<256:=fun x hx=>by have:=List.eq_of_mem_replicate hx; omega
theorem caughtb_p (ge:Nat) (y e0:Int) (older:List PanicEntry) (w:World) (he:w.heap[ge]?=some (.cells #[.int .i64 e0] 30 (0,0))) :
  CallsD Tryz.prog 102 #[.pointer (some ⟨ge,0,none⟩)] (.panicking ({ v:=.iface 155 (.int .i64 y),recovered:=false } :: older)) w
   (fun e u' w'=>(e=.returned (.tuple #[])∧S w' [Ob ge (.cells #[.int .i64 y] 30 (0,0)),Old w (fun i=>i∈[ge])])∧u'=.panicking ({ v:=.iface 155 (.int .i64 y),recovered:=true } :: older)):=by
 have H0:=S.beginL [(ge,.cells #[.int .i64 e0] 30 (0,0))] (by intro p hp; rw [List.mem_singleton] at hp; subst hp; exact he) (by simp) (fun i=>i∈[ge]) (fun i=>Iff.rfl)
 refine callsD_rec 19 Tryz.func102 rfl rfl rfl rfl rfl rfl rfl rfl rfl ?_
 refine g_wk [(0,_),(2,_),(5,_)] ?_
 refine w_s ?_
 refine w_m ?_
 refine w_b (v:=.bool true) (hb:=(b_neqHeld ifc20)) ?_
 refine w_e ?_
 refine g_cond_t rfl rfl ?_
 refine w_k2 ?_
 refine w_v (v:=.tuple #[.int .i64 y,.bool true]) (x_assertOk rfl rfl Tryz.underlying155 rfl) ?_
 refine w_k9 ?_
 refine w_v (x_not (b:=true) rfl rfl) ?_
 refine w_e ?_
 refine g_cond_f rfl rfl ?_
 refine w_k2 ?_
 refine g_wk [(0,_),(3,_)] ?_
 refine g_region ?_
 refine w_r3 ?_
 refine l_of (w_st #[.int .i64 y] H0 0 ?_)
 intro wq1 H2
 refine w_0 ?_
 refine fin_end [] [] rfl trivial ?_
 exact ⟨⟨rfl,H2.mask [true,true]⟩,rfl⟩
theorem caughtb_n (ge:Nat) (w:World):CallsD Tryz.prog 102 #[.pointer (some ⟨ge,0,none⟩)] .returning w (fun e u' w'=>(e=.returned (.tuple #[])∧S w' [Old w no])∧u'=.returning):=by
 have H0:=S.old w
 refine callsD_rec 19 Tryz.func102 rfl rfl rfl rfl rfl rfl rfl rfl rfl ?_
 refine g_wk [(0,_),(2,_),(5,_)] ?_
 refine w_s ?_
 refine w_m ?_
 refine w_b (v:=.bool false) (hb:=(b_neqNil ifc20)) ?_
 refine w_e ?_
 refine g_cond_f rfl rfl ?_
 refine w_0 ?_
 refine fin_end [] [] rfl trivial ?_
 exact ⟨⟨rfl,H0.mask [true]⟩,rfl⟩
theorem empty_o (n:Int) (h:¬ (0≤n∧n≤4096)) (w:World):Calls Tryz.prog 103 #[.int .i64 n] w fun e w'=>e=.panicked [{ v:=.iface 155 (.int .i64 7),recovered:=false }]∧S w' [Old w no]:=by
 have H0:=S.old w
 refine enter 16 Tryz.func103 rfl rfl rfl ?_
 refine g_weak [(0,.int .i64 n)] ⟨rfl,trivial⟩ ?_
 refine w_s ?_
 refine l_of (s_alloc H0 (wt0 rfl) rfl rfl rfl ze137 ?_)
 intro g1 wq2 H3
 refine w_e ?_
 refine w_s ?_
 refine w_m ?_
 refine w_b ?_
 refine w_m ?_
 by_cases hb4:(n:Int)<0
 ·
  refine w_n (decide_eq_true hb4) ?_
  refine w_n (decide_eq_true hb4) ?_
  refine w_v (v:=.bool true) (x_pick_t rfl rfl (decide_eq_true hb4) rfl) ?_
  refine l_of (s_call (wt0 rfl) (x_call' rfl rfl cl112) (fail_p _ _ rfl _) ?_)
  rintro _ wq5 ⟨rfl,H6⟩
  replace H6:S wq5 [Ob g1 (.cells #[.int .i64 0,.slice none 0 0] 137 (0,0)),Old w no]:=H3.absorb (new:=[]) H6
  refine b_panic ?_
  refine g_then_panic ?_
  refine fin_panic ?_
  exact ⟨rfl,H6.mask [false,true]⟩
 ·
  refine w_g (decide_eq_false hb4) xm ?_
  refine w_g (decide_eq_false hb4) (x_bin rfl rfl rfl b_gtr) ?_
  refine w_v (v:=.bool (decide ((4096:Int)<n))) (x_pick_f rfl rfl (decide_eq_false hb4) rfl) ?_
  refine l_of (s_call (wt0 rfl) (x_call' rfl rfl cl112) (fail_p _ _ (decide_eq_true (by omega)) _) ?_)
  rintro _ wq7 ⟨rfl,H8⟩
  replace H8:S wq7 [Ob g1 (.cells #[.int .i64 0,.slice none 0 0] 137 (0,0)),Old w no]:=H3.absorb (new:=[]) H8
  refine b_panic ?_
  refine g_then_panic ?_
  refine fin_panic ?_
  exact ⟨rfl,H8.mask [false,true]⟩
theorem empty_i (m:Nat) (hm:m≤4096) (w:World):Calls Tryz.prog 103 #[.int .i64 ((m:Int))] w fun e w'=>∃ g,e=.returned (.agg #[.int .i64 (m:Int),.slice (some ⟨g,0,none⟩) (longN m) (longN m)])∧S w' ([Ob g (.cells (nbV (List.replicate (longN m) 0)) 5 (0,0))]++[Old w no]):=by
 have H0:=S.old w
 have hlm:longN m≤512:=by unfold longN; omega
 refine enter 16 Tryz.func103 rfl rfl rfl ?_
 refine g_wk [(0,_)] ?_
 refine w_s ?_
 refine l_of (s_alloc H0 (wt0 rfl) rfl rfl rfl ze137 ?_)
 intro g1 wq2 H3
 refine w_k5 ?_
 refine l_of (s_val (v:=.int .i64 ((m:Int))) (wt1 rfl rfl rfl rfl (decide_eq_false (by omega))) rfl rfl (x_move rfl rfl) ?_)
 refine l_of (s_val (v:=.bool (decide ((4096:Int)<(m:Int)))) (wt1 rfl rfl rfl rfl (decide_eq_false (by omega))) rfl rfl (x_bin rfl rfl rfl b_gtr) ?_)
 refine w_v (x_pick_f rfl rfl (decide_eq_false (by omega)) rfl) ?_
 refine l_of (s_call0 H3 (wt0 rfl) (x_call' rfl rfl cl112) (fail_r _ _ (decide_eq_false (by omega)) _) rfl rfl ?_)
 intro wq4 H5
 refine w_k4 ?_
 refine w_b (v:=.int .i64 (((m+7:Nat):Int))) (hb:=(b_addN (a:=m) (b:=7) (by omega))) ?_
 refine w_b (v:=.int .i64 (((longN m:Nat):Int))) (hb:=(b_quoN (a:=m+7) (b:=8) (by omega))) ?_
 refine l_of (s_make1 (longN m) H5 (wt0 rfl) rfl rfl rfl rfl rfl Tryz.underlying113 inf5 rfl (by omega) ?_)
 intro g6 wq7 H8
 rw [nbV_zero] at H8
 replace H8:S wq7 [Ob g6 (.cells (nbV (List.replicate (longN m) 0)) 5 (0,0)),Ob g1 (.cells #[.int .i64 0,.slice none 0 0] 137 (0,0)),Old w no]:=H8
 refine w_v (v:=.agg #[.int .i64 ((m:Int)),.slice (some ⟨g6,0,none⟩) (longN m) (longN m)]) (x_build (vs:=[.int .i64 ((m:Int)),.slice (some ⟨g6,0,none⟩) (longN m) (longN m)]) rfl rfl (cells:=#[.int .i64 ((m:Int)),.slice (some ⟨g6,0,none⟩) (longN m) (longN m)]) (by kernel_rfl)) ?_
 refine l_of (w_st #[.int .i64 ((m:Int)),.slice (some ⟨g6,0,none⟩) (longN m) (longN m)] H8 1 ?_)
 intro wq9 H10
 refine w_e ?_
 refine g_wk [(2,_)] ?_
 refine g_ret ?_
 refine fin_ret [.cell 2 137] [.agg #[.int .i64 ((m:Int)),.slice (some ⟨g6,0,none⟩) (longN m) (longN m)]] rfl ⟨⟨_,rfl,run_loadA (H10.ob (k:=1) rfl) Tryz.underlying137 rfl sz137 rfl rfl⟩,trivial⟩ ?_
 exact ⟨_,rfl,H10.tk [0,2]⟩
theorem new_b_o (n:Int) (h:¬ (0≤n∧n≤4096)) (w:World):Calls Tryz.prog 40 #[.int .i64 n] w fun e w'=>e=.returned (.tuple #[.string (newS n).1,.int .i64 (newS n).2])∧S w' [Old w no]:=by
 have H0:=S.old w
 refine enter_d 8 Tryz.func40 rfl rfl rfl ?_
 refine g_wk [(0,_)] ?_
 refine w_s ?_
 refine w_a ?_
 refine l_of (s_alloc H0 (wt0 rfl) rfl rfl rfl ze30 ?_)
 intro g1 wq2 H3
 refine w_k2 ?_
 refine l_of (s_defer (wt0 rfl) rfl (xd_defer rfl rfl rfl) ?_)
 refine w_k3 ?_
 refine l_of (s_cl (empty_o n h _) ?_)
 rintro _ wq4 ⟨rfl,H5⟩
 replace H5:=H3.ab0 H5
 refine b_panic ?_
 refine g_then_panic ?_
 refine fin_dpanic ?_
 refine gl_step (by simp) cl102 (caughtb_p g1 7 (0) [] _ (H5.ob (k:=0) rfl)) ?_
 rintro _ _ wq6 ⟨⟨rfl,H7⟩,rfl⟩
 replace H7:S wq6 [Ob g1 (.cells #[.int .i64 7] 30 (0,0)),Old w no]:=H5.absorbK (new:=[Ob g1 (.cells #[.int .i64 7] 30 (0,0))]) [0] (by intro g hg; rw [List.mem_singleton] at hg; subst hg; exact ⟨0,rfl,_,rfl,rfl⟩) H7
 refine (?_:GL _ _ _ _ _ _ FrameMode.returning _)
 refine gl_ret [.tmp 2,.cell 3 30] [.string (⟨#[]⟩),.int .i64 7] rfl ⟨rfl,⟨_,rfl,run_load1 Tryz.underlying30 rfl (H7.cell (k:=0) rfl rfl)⟩,trivial⟩ ?_
 exact ⟨by unfold newS; rw [if_neg (by rw [rightB_iff]; exact h)]; rfl,H7.mask [false,true]⟩
theorem new_b_i (m:Nat) (hm:m≤4096) (w:World):Calls Tryz.prog 40 #[.int .i64 ((m:Int))] w fun e w'=>e=.returned (.tuple #[.string (nbS (List.replicate (longN m) 0)),.int .i64 0])∧S w' [Old w no]:=by
 have H0:=S.old w
 have hlm:longN m≤512:=by unfold longN; omega
 refine enter_d 8 Tryz.func40 rfl rfl rfl ?_
 refine g_wk [(0,_)] ?_
 refine w_s ?_
 refine w_a ?_
 refine l_of (s_alloc H0 (wt0 rfl) rfl rfl rfl ze30 ?_)
 intro g1 wq2 H3
 refine w_k2 ?_
 refine l_of (s_defer (wt0 rfl) rfl (xd_defer rfl rfl rfl) ?_)
 refine w_k3 ?_
 refine l_of (s_cl (empty_i m hm _) ?_)
 rintro _ wq4 ⟨g6,rfl,H5⟩
 replace H5:S _ [_,_,_]:=H3.ab (new:=[_]) H5 rfl
 refine b_ret rfl rfl ?_
 refine w_v (v:=.slice (some ⟨g6,0,none⟩) (longN m) (longN m)) (x_field (n:=0) (m:=0) rfl rfl Tryz.underlying137 rfl (run_part1 Tryz.underlying113 rfl rfl)) ?_
 refine w_v (v:=.string ((nbS (List.replicate (longN m) 0)))) (x_bytes (l:=((List.replicate (longN m) 0)).map UInt8.ofNat) rfl rfl Tryz.underlying113 Tryz.underlying9 Tryz.underlying5 (by simp) (hc_ob (k:=0) H5 rfl (nbV_bytes (zeros_lt _)))) ?_
 refine w_a ?_
 refine l_of (w_st #[.int .i64 0] H5 1 ?_)
 intro wq7 H8
 refine w_k2 ?_
 refine fin_dret ?_
 refine gl_step (by simp) cl102 (caughtb_n g1 _) ?_
 rintro _ _ wq9 ⟨⟨rfl,H10⟩,rfl⟩
 replace H10:=H8.ab0 H10
 refine (?_:GL _ _ _ _ _ _ FrameMode.returning _)
 refine gl_ret [.tmp 2,.cell 3 30] [.string ((nbS (List.replicate (longN m) 0))),.int .i64 0] rfl ⟨rfl,⟨_,rfl,run_load1 Tryz.underlying30 rfl (H10.cell (k:=1) rfl rfl)⟩,trivial⟩ ?_
 exact ⟨rfl,H10.mask [false,false,true]⟩
theorem new_b (n:Int) (w:World):Calls Tryz.prog 40 #[.int .i64 n] w fun e w'=>e=.returned (.tuple #[.string (newS n).1,.int .i64 (newS n).2])∧S w' [Old w no]:=by
 by_cases h1:0≤n∧n≤4096
 · obtain ⟨m,rfl⟩:∃ m:Nat,n=m:=⟨n.toNat,by omega⟩
   have e:newS (m:Int)=(nbS (List.replicate (longN m) 0),0):=by unfold newS; rw [if_pos (rightB_iff.2 h1),Int.toNat_natCast]
   rw [e]; exact new_b_i m (by omega) w
 · exact new_b_o n h1 w
theorem set_b (m gb c i:Nat) (b:List Nat) (hb:∀ x∈b,x<256) (hc:b.length≤c) (hi:i / 8<b.length) (hi2:i≤1099511627776) (w:World) (HB:S w [Ob gb (.cells (nbV b) 5 (0,0))]) :
  Calls Tryz.prog 114 #[.agg #[.int .i64 (m:Int),.slice (some ⟨gb,0,none⟩) b.length c],.int .i64 (i:Int),.bool true] w fun e w'=>e=.returned (.tuple #[])∧S w' ([Ob gb (.cells (nbV (bitStep b i)) 5 (0,0))]++[Old w (fps [Ob gb (.cells (nbV b) 5 (0,0))])]):=by
 have H0:S _ [_,_]:=HB.beginI
 have hb8:=getD_lt hb (i / 8)
 have h128:128 / 2 ^ (i % 8)≤128:=Nat.div_le_self _ _
 refine enter 29 Tryz.func114 rfl rfl rfl ?_
 refine g_wk [(0,_),(1,_),(2,_)] ?_
 refine w_s ?_
 refine l_of (s_box H0 (wt0 rfl) rfl rfl rfl rfl ?_)
 intro g1 wq2 H3
 refine w_k3 ?_
 refine w_b (v:=.int .i64 (((i % 8:Nat):Int))) (hb:=(b_remN (a:=i) (b:=8) (by omega))) ?_
 refine w_b (v:=.int .u8 (((128 / 2 ^ (i % 8):Nat):Int))) (hb:=(b_shrN (a:=128) (n:=i % 8) (by show i % 8≤8; omega))) ?_
 refine w_k5 ?_
 refine g_cond_t rfl rfl ?_
 refine w_k4 ?_
 refine w_b (v:=.int .i64 (((i / 8:Nat):Int))) (hb:=(b_quoN (a:=i) (b:=8) (by omega))) ?_
 refine w_v (v:=.pointer (some ⟨gb,(i / 8),none⟩)) (x_indexAddr (i / 8) rfl rfl rfl Tryz.underlying113 sz5 (by omega) (off':=(i / 8)) (by omega)) ?_
 refine w_v (x_load1 H3 1 rfl rfl Tryz.underlying5 rfl rfl (nbV_at (by omega))) ?_
 refine w_m ?_
 refine w_b (v:=.int .u8 (((b.getD (i / 8) 0 ||| 128 / 2 ^ (i % 8):Nat):Int))) (hb:=(b_or8 (a:=b.getD (i / 8) 0) (b:=128 / 2 ^ (i % 8)) (by omega))) ?_
 refine w_v (v:=.pointer (some ⟨gb,(i / 8),none⟩)) (x_indexAddr (i / 8) rfl rfl rfl Tryz.underlying113 sz5 (by omega) (off':=(i / 8)) (by omega)) ?_
 refine l_of (s_store1 H3 1 (wt0 rfl) rfl rfl rfl rfl rfl sz5 rfl rfl (by rw [nbV_size]; omega) ?_)
 intro wq4 H5
 rw [nbV_set b (i / 8) (b.getD (i / 8) 0 ||| 128 / 2 ^ (i % 8))] at H5
 replace H5:S wq4 [Ob g1 (.cells #[.int .i64 ((m:Int)),.slice (some ⟨gb,0,none⟩) (b.length) (c)] 137 (0,0)),Ob gb (.cells (nbV (b.set (i / 8) (b.getD (i / 8) 0 ||| 128 / 2 ^ (i % 8)))) 5 (0,0)),Old w (fps [Ob gb (.cells (nbV b) 5 (0,0))])]:=H5
 refine w_0 ?_
 refine fin_end [] [] rfl trivial ?_
 exact ⟨rfl,H5.mask [false,true,true]⟩
def bsV (l:List Bool):List Value:=l.map Value.bool
theorem bsV_at {l:List Bool} {j:Nat} (h:j<l.length):(bsV l)[j * 1]?=some (.bool (l.getD j false)):=by
 unfold bsV
 rw [Nat.mul_one]
 simp [List.getD,h]
theorem getD_out {l:List Bool} {i:Nat} (h:l.length≤i):l.getD i false=false:=by
 rw [List.getD_eq_getElem?_getD,List.getElem?_eq_none h]; rfl
theorem fldAt_one {l:List Bool} {i:Nat} (h:l.getD i false=true):fldAt l (i+1)=((fldAt l i).set (i / 8) (2 * (fldAt l i).getD (i / 8) 0 % 256)).set (i / 8) ((((fldAt l i).set (i / 8) (2 * (fldAt l i).getD (i / 8) 0 % 256)).getD (i / 8) 0+1) % 256):=by
 rw [fldAt]; unfold fldStep; simp only [h,if_true]
theorem fldAt_zero {l:List Bool} {i:Nat} (h:l.getD i false=false):fldAt l (i+1)=(fldAt l i).set (i / 8) (2 * (fldAt l i).getD (i / 8) 0 % 256):=by
 rw [fldAt]; unfold fldStep; simp only [h,Bool.false_eq_true,if_false]
def truthsS (m:Nat) (s:ByteArray):List Bool:=(List.range m).map (bitA s)
theorem truths_len (m:Nat) (s:ByteArray):(truthsS m s).length=m:=by unfold truthsS; simp
theorem truths_next (i:Nat) (s:ByteArray):bsV (truthsS (i+1) s)=bsV (truthsS i s)++[Value.bool (bitA s i)]:=by
 unfold bsV truthsS; simp [List.range_succ]
def flipTo (i:Nat) (l:List Bool):List Bool:=(l.take i).map (!·)++l.drop i
theorem flip_len (i:Nat) (l:List Bool):(flipTo i l).length=l.length:=by unfold flipTo; simp; omega
theorem flip_zero (l:List Bool):flipTo 0 l=l:=by unfold flipTo; simp
theorem flip_all (l:List Bool):flipTo l.length l=l.map (!·):=by unfold flipTo; simp
theorem flip_at {i:Nat} {l:List Bool} (h:i<l.length):(flipTo i l).getD i false=l.getD i false:=by
 unfold flipTo
 rw [List.getD_eq_getElem?_getD,List.getElem?_append_right (by simp; omega),List.getElem?_drop,List.getD_eq_getElem?_getD]
 congr 2; simp; omega
theorem flip_next {i:Nat} {l:List Bool} (h:i<l.length):(bsV (flipTo i l)).take (i * 1)++(Value.bool (!(flipTo i l).getD i false)).cells.toList++(bsV (flipTo i l)).drop (i * 1+1)=bsV (flipTo (i+1) l):=by
 rw [flip_at h,Nat.mul_one]
 have e1:((l.take i).map (!·)).length=i:=by simp; omega
 have hx:l.drop i=l.getD i false :: l.drop (i+1):=by
   rw [List.getD_eq_getElem?_getD,List.getElem?_eq_getElem h,Option.getD_some]
   exact List.drop_eq_getElem_cons h
 unfold bsV flipTo
 rw [← List.map_take,← List.map_drop,List.take_append_of_le_length (by omega),List.take_of_length_le (by omega),List.drop_append,List.drop_eq_nil_of_le (by omega),e1,List.nil_append,List.drop_drop]
 rw [List.take_succ_eq_append_getElem h]
 simp only [Value.cells,List.map_append,List.map_cons,List.map_nil,List.append_assoc,List.cons_append,List.nil_append]
 rw [List.getD_eq_getElem?_getD,List.getElem?_eq_getElem h,Option.getD_some,show i+(i+1 - i)=i+1 from by omega]
theorem set_same {b:List Nat} {k:Nat}:b.set k (b.getD k 0)=b:=by
 apply List.ext_getElem?
 intro j
 rw [List.getElem?_set]
 by_cases h:k=j
 · subst h
   rw [if_pos rfl,List.getD_eq_getElem?_getD]
   by_cases hk:k<b.length
   · rw [if_pos hk,List.getElem?_eq_getElem hk]; rfl
   · rw [if_neg hk,List.getElem?_eq_none (by omega)]
 · rw [if_neg h]
theorem getD_rep (n k:Nat):(List.replicate n 0).getD k 0=0:=by
 rw [List.getD_eq_getElem?_getD,List.getElem?_replicate]; split <;> rfl
theorem getD_repB (n k:Nat):(List.replicate n false).getD k false=false:=by
 rw [List.getD_eq_getElem?_getD,List.getElem?_replicate]; split <;> rfl
theorem fld_zeros (m:Nat):∀ i,fldAt (List.replicate m false) i=List.replicate (longN m) 0
 | 0=>by rw [fldAt,List.length_replicate]
 | i+1=>by
   rw [fldAt_zero (getD_repB m i),fld_zeros m i,getD_rep]
   have:=set_same (b:=List.replicate (longN m) 0) (k:=i / 8)
   rw [getD_rep] at this
   exact this
theorem field_zeros (m:Nat):fieldT (List.replicate m false)=nbS (List.replicate (longN m) 0):=by unfold fieldT; rw [fld_zeros]
theorem btz_nb (n k:Nat):bt' (nbS (List.replicate n 0)) k=0:=by
 unfold bt' nbS
 simp only [List.map_replicate,List.getElem?_replicate]
 split <;> rfl
theorem bit_zeros (n i:Nat):bitA (nbS (List.replicate n 0)) i=false:=by
 unfold bitA; rw [btz_nb,Nat.zero_div]; rfl
theorem wrong_zeros {m:Nat}:wrongN m (nbS (List.replicate (longN m) 0))=(-1,0):=
 wrongN_ok (by rw [nbS_size,List.length_replicate]) (fun j _ _=>bit_zeros _ j)
theorem truths_zeros (m n:Nat):truthsS m (nbS (List.replicate n 0))=List.replicate m false:=by
 unfold truthsS
 apply List.ext_getElem?
 intro j
 rw [List.getElem?_map,List.getElem?_replicate]
 by_cases h:j<m
 · rw [List.getElem?_range h,if_pos h,Option.map_some,bit_zeros]
 · rw [if_neg h,List.getElem?_eq_none (by simpa using h)]; rfl
def onesB (j o:Nat):Nat:=(2 ^ o - 1) * 2 ^ (j - o)
theorem ones_more:∀ j,j<8→2 * onesB j j % 256+1=onesB (j+1) (j+1)∧(2 * onesB j j % 256+1) % 256=onesB (j+1) (j+1):=by decide
theorem ones_shift:∀ j,j<8→∀ o,o<9→o≤j→2 * onesB j o % 256=onesB (j+1) o:=by decide
theorem ones_or:∀ j,j<8→onesB 8 j ||| 128 / 2 ^ j=onesB 8 (j+1):=by decide
theorem getD_set {b:List Nat} {i k x:Nat} (h:i<b.length):(b.set i x).getD k 0=if k=i then x else b.getD k 0:=by
 rw [List.getD_eq_getElem?_getD,List.getElem?_set,List.getD_eq_getElem?_getD]
 by_cases hk:k=i
 · subst hk; rw [if_pos rfl,if_pos rfl,if_pos h]; rfl
 · rw [if_neg (fun e=>hk e.symm),if_neg hk]
theorem getD_repT (n k:Nat):(List.replicate n true).getD k false=decide (k<n):=by
 rw [List.getD_eq_getElem?_getD,List.getElem?_replicate]
 by_cases h:k<n
 · rw [if_pos h,decide_eq_true h]; rfl
 · rw [if_neg h,decide_eq_false h]; rfl
theorem fld_ones (m:Nat):∀ i,i≤8 * longN m→∀ k,k<longN m→(fldAt (List.replicate m true) i).getD k 0=onesB (min (i - 8 * k) 8) (min (min (i - 8 * k) 8) (m - 8 * k))
 | 0,_,k,hk=>by
   rw [fldAt,getD_rep,Nat.zero_sub,Nat.zero_min,Nat.zero_min]; rfl
 | i+1,hi,k,hk=>by
   have hl:longN (List.replicate m true).length=longN m:=by rw [List.length_replicate]
   have hlen:=fldAt_len (List.replicate m true) i
   have hik:i / 8<longN m:=by omega
   have ih:=fld_ones m i (by omega)
   have ihk:=ih (i / 8) hik
   by_cases hb:i<m
   · have h1:(List.replicate m true).getD i false=true:=by rw [getD_repT,decide_eq_true hb]
     rw [fldAt_one h1,getD_set (by rw [List.length_set,hlen,hl]; exact hik),getD_set (by rw [hlen,hl]; exact hik),if_pos rfl]
     by_cases hke:k=i / 8
     · subst hke
       rw [if_pos rfl,ihk]
       have e1:min (i - 8 * (i / 8)) 8=i % 8:=by omega
       have e2:min (i % 8) (m - 8 * (i / 8))=i % 8:=by omega
       have e3:min (i+1 - 8 * (i / 8)) 8=i % 8+1:=by omega
       have e4:min (i % 8+1) (m - 8 * (i / 8))=i % 8+1:=by omega
       rw [e1,e2,e3,e4]
       exact (ones_more (i % 8) (by omega)).2
     · rw [if_neg hke,getD_set (by rw [hlen,hl]; exact hik),if_neg hke,ih k hk]
       rcases Nat.lt_or_gt_of_ne hke with h | h
       · have:min (i+1 - 8 * k) 8=min (i - 8 * k) 8:=by omega
         rw [this]
       · have:min (i+1 - 8 * k) 8=min (i - 8 * k) 8:=by omega
         rw [this]
   · have h1:(List.replicate m true).getD i false=false:=by rw [getD_repT,decide_eq_false hb]
     rw [fldAt_zero h1,getD_set (by rw [hlen,hl]; exact hik)]
     by_cases hke:k=i / 8
     · subst hke
       rw [if_pos rfl,ihk]
       have e1:min (i - 8 * (i / 8)) 8=i % 8:=by omega
       have e2:min (i % 8) (m - 8 * (i / 8))=m - 8 * (i / 8):=by omega
       have e3:min (i+1 - 8 * (i / 8)) 8=i % 8+1:=by omega
       have e4:min (i % 8+1) (m - 8 * (i / 8))=m - 8 * (i / 8):=by omega
       rw [e1,e2,e3,e4]
       exact ones_shift (i % 8) (by omega) (m - 8 * (i / 8)) (by omega) (by omega)
     · rw [if_neg hke,ih k hk]
       have:min (i+1 - 8 * k) 8=min (i - 8 * k) 8:=by omega
       rw [this]
theorem full_ones (n:Nat):∀ i,i≤n→∀ k,k<longN n→(fullAt n i).getD k 0=onesB 8 (min (i - 8 * k) 8)
 | 0,_,k,hk=>by rw [fullAt,getD_rep,Nat.zero_sub,Nat.zero_min]; rfl
 | i+1,hi,k,hk=>by
   have hik:i / 8<longN n:=by unfold longN; omega
   have ih:=full_ones n i (by omega)
   rw [fullAt,bitStep,getD_set (by rw [fullAt_len]; exact hik)]
   by_cases hke:k=i / 8
   · subst hke
     rw [if_pos rfl,ih _ hik]
     have e1:min (i - 8 * (i / 8)) 8=i % 8:=by omega
     have e3:min (i+1 - 8 * (i / 8)) 8=i % 8+1:=by omega
     rw [e1,e3]
     exact ones_or (i % 8) (by omega)
   · rw [if_neg hke,ih k hk]
     have:min (i+1 - 8 * k) 8=min (i - 8 * k) 8:=by omega
     rw [this]
theorem field_ones (m:Nat):fieldT (List.replicate m true)=nbS (fullAt m m):=by
 unfold fieldT
 rw [List.length_replicate]
 congr 1
 have h1:=fldAt_len (List.replicate m true) (8 * longN m)
 rw [List.length_replicate] at h1
 have h2:=fullAt_len m m
 apply List.ext_getElem (by omega)
 intro k hk1 hk2
 have a1:=fld_ones m (8 * longN m) (Nat.le_refl _) k (by omega)
 have a2:=full_ones m m (Nat.le_refl _) k (by omega)
 rw [List.getD_eq_getElem?_getD,List.getElem?_eq_getElem hk1] at a1
 rw [List.getD_eq_getElem?_getD,List.getElem?_eq_getElem hk2] at a2
 rw [Option.getD_some] at a1 a2
 rw [a1,a2]
 have e1:min (8 * longN m - 8 * k) 8=8:=by omega
 have e2:min 8 (m - 8 * k)=min (m - 8 * k) 8:=Nat.min_comm _ _
 rw [e1,e2]
theorem reads_ob {w:World} {L:List Item} {k g n e:Nat} {cs:Array Value} {fr:Nat × Nat} (H:S w L) (hk:L[k]?=some (Ob g (.cells cs e fr))) (hn:cs.size=n):Reads w (some ⟨g,0,none⟩) n n 1 cs.toList:=
 ⟨by simpa using hn,Nat.le_refl _,fun _=>⟨_,rfl,news_ob H hk⟩⟩
theorem bsV_rep (m:Nat):(Array.replicate m (Value.bool false)).toList=bsV (List.replicate m false):=by unfold bsV; simp
theorem fieldB_r (l:List Bool) (n c:Nat) (p:Option Addr) (hn:n=l.length) (hm:n≤4096) (w:World) (hr:Reads w p n c 1 (bsV l)):Calls Tryz.prog 21 #[.slice p n c] w fun e w'=>e=.returned (.string (fieldT l))∧S w' [Old w no]:=by
 have H0:=S.old w
 have hlm:longN n≤512:=by unfold longN; omega
 refine enter 42 Tryz.func21 rfl rfl rfl ?_
 refine g_wk [(0,_)] ?_
 refine w_s ?_
 refine w_k5 ?_
 refine l_of (s_call0 H0 (wt0 rfl) (x_call' rfl rfl cl57) (long_r _ (by omega) _) rfl rfl ?_)
 intro wq1 H2
 refine l_of (s_make1 (longN n) H2 (wt0 rfl) rfl rfl rfl rfl rfl Tryz.underlying113 inf5 rfl (by omega) ?_)
 intro g3 wq4 H5
 rw [nbV_zero,show List.replicate (longN n) 0=fldAt l 0 from by rw [fldAt,hn]] at H5
 replace H5:S wq4 [Ob g3 (.cells (nbV (fldAt l 0)) 5 (0,0)),Old w no]:=H5
 refine w_k6 ?_
 refine w_b (v:=.int .i64 (((8 * longN n:Nat):Int))) (hb:=(b_mulN (a:=8) (b:=longN n) (by omega))) ?_
 refine w_k3 ?_
 refine g_loop (ι:=Nat) (fun i=>[(0,.slice p n c),(3,.slice (some ⟨g3,0,none⟩) (longN n) (longN n)),(11,.int .i64 (((8 * longN n:Nat):Int))),(12,.int .i64 ((i:Int)))]) (fun i wx=>(i≤8 * longN n)∧S wx [Ob g3 (.cells (nbV (fldAt l i)) 5 (0,0)),Old w no]) (fun i=>8 * longN n - i) (0) ⟨rfl,rfl,rfl,rfl,trivial⟩ ⟨Nat.zero_le _,H5⟩ ?_
 rintro i wq6 ⟨hi,H7⟩
 refine g_wk [(0,_),(3,_),(11,_),(12,_)] ?_
 have hxlt:=getD_lt (fldAt_lt l i) (i / 8)
 have hln:longN l.length=longN n:=by rw [hn]
 refine w_k3 ?_
 refine g_seq ?_
 by_cases hb8:((i:Int):Int)<((8 * longN n:Nat):Int)
 ·
  refine g_ct hb8 ?_
  refine w_k11 ?_
  refine w_b (v:=.int .i64 (((i / 8:Nat):Int))) (hb:=(b_quoN (a:=i) (b:=8) (by omega))) ?_
  refine w_v (v:=.pointer (some ⟨g3,(i / 8),none⟩)) (x_indexAddr (i / 8) rfl rfl rfl Tryz.underlying113 sz5 (by omega) (off':=(i / 8)) (by omega)) ?_
  refine w_v (x_load1 H7 0 rfl rfl Tryz.underlying5 rfl rfl (nbV_at (by simp only [List.length_set,fldAt_len]; omega))) ?_
  refine w_b (v:=.int .u8 (((2 * ((fldAt l i).getD (i / 8) 0) % 256:Nat):Int))) (hb:=(b_mul (by rw [IntKind.wrap_u8]; omega))) ?_
  refine w_v (v:=.pointer (some ⟨g3,(i / 8),none⟩)) (x_indexAddr (i / 8) rfl rfl rfl Tryz.underlying113 sz5 (by omega) (off':=(i / 8)) (by omega)) ?_
  refine l_of (s_store1 H7 0 (wt0 rfl) rfl rfl rfl rfl rfl sz5 rfl rfl (by rw [nbV_size]; simp only [List.length_set,fldAt_len]; omega) ?_)
  intro wq9 H10
  rw [nbV_set (fldAt l i) (i / 8) (2 * ((fldAt l i).getD (i / 8) 0) % 256)] at H10
  replace H10:S wq9 [Ob g3 (.cells (nbV ((fldAt l i).set (i / 8) (2 * ((fldAt l i).getD (i / 8) 0) % 256))) 5 (0,0)),Old w no]:=H10
  refine w_k7 ?_
  by_cases hb11:((i:Int):Int)<(n:Int)
  ·
   iterate 2 refine w_g (decide_eq_true hb11) xm ?_
   refine w_g (decide_eq_true hb11) (x_i i (H10.oldReads (k:=1) rfl hr)) ?_
   refine w_g (v:=.bool ((l.getD i false))) (decide_eq_true hb11) (x_r i (H10.oldReads (k:=1) rfl hr) (bsV_at (by omega))) ?_
   refine w_v (x_pick_t rfl rfl (decide_eq_true hb11) rfl) ?_
   refine w_e ?_
   refine g_wk [(0,_),(3,_),(4,_),(11,_),(12,_),(31,_)] ?_
   rcases Bool.eq_false_or_eq_true ((l.getD i false)) with hb12 | hb12
   ·
    refine g_cond_t rfl hb12 ?_
    refine w_k3 ?_
    refine w_b (v:=.int .i64 (((i / 8:Nat):Int))) (hb:=(b_quoN (a:=i) (b:=8) (by omega))) ?_
    refine w_v (v:=.pointer (some ⟨g3,(i / 8),none⟩)) (x_indexAddr (i / 8) rfl rfl rfl Tryz.underlying113 sz5 (by omega) (off':=(i / 8)) (by omega)) ?_
    refine w_v (x_load1 H10 0 rfl rfl Tryz.underlying5 rfl rfl (nbV_at (by simp only [List.length_set,fldAt_len]; omega))) ?_
    refine w_b (v:=.int .u8 (((((((fldAt l i).set (i / 8) (2 * ((fldAt l i).getD (i / 8) 0) % 256)).getD (i / 8) 0)+1) % 256:Nat):Int))) (hb:=(b_add (by rw [IntKind.wrap_u8]; omega))) ?_
    refine w_v (v:=.pointer (some ⟨g3,(i / 8),none⟩)) (x_indexAddr (i / 8) rfl rfl rfl Tryz.underlying113 sz5 (by omega) (off':=(i / 8)) (by omega)) ?_
    refine l_of (s_store1 H10 0 (wt0 rfl) rfl rfl rfl rfl rfl sz5 rfl rfl (by rw [nbV_size]; simp only [List.length_set,fldAt_len]; omega) ?_)
    intro wq13 H14
    rw [nbV_set ((fldAt l i).set (i / 8) (2 * ((fldAt l i).getD (i / 8) 0) % 256)) (i / 8) (((((fldAt l i).set (i / 8) (2 * ((fldAt l i).getD (i / 8) 0) % 256)).getD (i / 8) 0)+1) % 256)] at H14
    replace H14:S wq13 [Ob g3 (.cells (nbV (((fldAt l i).set (i / 8) (2 * ((fldAt l i).getD (i / 8) 0) % 256)).set (i / 8) (((((fldAt l i).set (i / 8) (2 * ((fldAt l i).getD (i / 8) 0) % 256)).getD (i / 8) 0)+1) % 256))) 5 (0,0)),Old w no]:=H14
    refine w_k4 ?_
    refine w_b (v:=.int .i64 ((i:Int)+1)) (hb:=(b_add (w64 (by omega)))) ?_
    refine w_k2 ?_
    refine g_rd (i:=(i)) (i+1) ⟨by omega,(by rw [fldAt_one hb12]; exact H14)⟩
   ·
    refine g_cond_f rfl hb12 ?_
    refine w_k4 ?_
    refine w_b (v:=.int .i64 ((i:Int)+1)) (hb:=(b_add (w64 (by omega)))) ?_
    refine w_k2 ?_
    refine g_rd (i:=(i)) (i+1) ⟨by omega,(by rw [fldAt_zero hb12]; exact H10)⟩
  ·
   iterate 4 refine w_n (decide_eq_false hb11) ?_
   refine w_v (x_pick_f rfl rfl (decide_eq_false hb11) rfl) ?_
   refine w_e ?_
   refine g_wk [(0,_),(3,_),(4,_),(11,_),(12,_),(31,_)] ?_
   refine g_cond_f rfl rfl ?_
   refine w_k4 ?_
   refine w_b (v:=.int .i64 ((i:Int)+1)) (hb:=(b_add (w64 (by omega)))) ?_
   refine w_k2 ?_
   refine g_rd (i:=(i)) (i+1) ⟨by omega,(by rw [fldAt_zero (getD_out (by omega))]; exact H10)⟩
 ·
  refine g_cf hb8 ?_
  refine w_k7 ?_
  refine w_v (v:=.string ((nbS (fldAt l i)))) (x_bytes (l:=(fldAt l i).map UInt8.ofNat) rfl rfl Tryz.underlying113 Tryz.underlying9 Tryz.underlying5 (by simp [fldAt_len,hn]) (hc_ob (k:=0) H7 rfl (nbV_bytes (fldAt_lt l i)))) ?_
  refine w_k3 ?_
  refine fin_r [.tmp 2] [.string ((nbS (fldAt l i)))] ?_
  have hii:i=8 * longN l.length:=by rw [← hn]; omega
  exact ⟨by unfold fieldT; rw [hii]; rfl,H7.mask [false,true]⟩
theorem new_ro (n:Int) (h:rightB n=false) (w:World):Calls Tryz.prog 36 #[.int .i64 n] w fun e w'=>e=.returned (.tuple #[.string (newS n).1,.int .i64 (newS n).2])∧S w' [Old w no]:=by
 have H0:=S.old w
 refine enter 10 Tryz.func36 rfl rfl rfl ?_
 refine g_wk [(0,_)] ?_
 refine w_s ?_
 refine w_k6 ?_
 refine l_of (s_call0 H0 (wt0 rfl) (x_call' rfl rfl cl100) (right_r _ _) rfl rfl ?_)
 intro wq1 H2
 refine w_v (x_not (b:=rightB n) rfl rfl) ?_
 refine w_e ?_
 refine g_cond_t rfl (neg_of h) ?_
 refine w_k6 ?_
 refine fin_r [.tmp 2,.tmp 3] [.string (⟨#[]⟩),.int .i64 7] ?_
 exact ⟨by unfold newS; rw [h,if_neg Bool.false_ne_true]; rfl,H2.mask [true]⟩
theorem new_ri (m:Nat) (hm:m≤4096) (w:World):Calls Tryz.prog 36 #[.int .i64 ((m:Int))] w fun e w'=>e=.returned (.tuple #[.string (nbS (List.replicate (longN m) 0)),.int .i64 0])∧S w' [Old w no]:=by
 have H0:=S.old w
 refine enter 10 Tryz.func36 rfl rfl rfl ?_
 refine g_wk [(0,_)] ?_
 refine w_s ?_
 refine w_k6 ?_
 refine l_of (s_call0 H0 (wt0 rfl) (x_call' rfl rfl cl100) (right_r _ _) rfl rfl ?_)
 intro wq1 H2
 refine w_v (x_not (b:=rightB (m:Int)) rfl rfl) ?_
 refine w_e ?_
 refine g_cond_f rfl (neg_of (rightB_nat hm)) ?_
 refine w_k4 ?_
 refine l_of (s_make1 m H2 (wt0 rfl) rfl rfl rfl rfl rfl Tryz.underlying38 inf4 rfl (by omega) ?_)
 intro g3 wq4 H5
 refine l_of (s_call0 H5 (wt0 rfl) (x_call' rfl rfl cl21) (fieldB_r (List.replicate m false) m m (some ⟨g3,0,none⟩) (by simp) hm _ (by have:=reads_ob H5 (k:=0) rfl (n:=m) (by simp); rw [bsV_rep] at this; exact this)) rfl rfl ?_)
 intro wq6 H7
 refine w_k4 ?_
 refine fin_r [.tmp 2,.tmp 3] [.string ((fieldT (List.replicate m false))),.int .i64 0] ?_
 exact ⟨by rw [field_zeros]; rfl,H7.mask [false,true]⟩
theorem newF_r (n:Int) (w:World):Calls Tryz.prog 36 #[.int .i64 n] w fun e w'=>e=.returned (.tuple #[.string (newS n).1,.int .i64 (newS n).2])∧S w' [Old w no]:=by
 by_cases h1:0≤n∧n≤4096
 · obtain ⟨m,rfl⟩:∃ m:Nat,n=m:=⟨n.toNat,by omega⟩
   have e:newS (m:Int)=(nbS (List.replicate (longN m) 0),0):=by unfold newS; rw [if_pos (rightB_iff.2 h1),Int.toNat_natCast]
   rw [e]; exact new_ri m (by omega) w
 · exact new_ro n (by rw [← Bool.not_eq_true,rightB_iff]; exact h1) w
theorem truths_r (m:Nat) (s:ByteArray) (hm:m≤4096) (hs:s.size=longN m) (w:World):Calls Tryz.prog 101 #[.int .i64 ((m:Int)),.string s] w fun e w'=>∃ p c,e=.returned (.slice p m c)∧S w' ([Rw 4 1 p m c (bsV (truthsS m s))]++[Old w no]):=by
 have H0:=S.old w
 have hlm:m≤8 * longN m:=by unfold longN; omega
 refine enter 19 Tryz.func101 rfl rfl rfl ?_
 refine g_wk [(0,_),(1,_)] ?_
 refine w_s ?_
 refine w_k3 ?_
 have H1:S _ [_,_]:=H0.nilRw 4 1
 refine w_k8 ?_
 refine g_loop (ι:=Nat × Option Addr × Nat) (fun (i,q,d)=>[(1,.string s),(5,.slice q i d),(7,.int .i64 ((m:Int))),(8,.int .i64 ((i:Int)))]) (fun (i,q,d) wx=>(i≤m)∧S wx [Rw 4 1 q i d (bsV (truthsS i s)),Old w no]) (fun (i,q,d)=>m - i) (0,none,0) ⟨rfl,rfl,rfl,rfl,trivial⟩ ⟨Nat.zero_le _,(H1.tk [0,1])⟩ ?_
 rintro ⟨i,q,d⟩ wq2 ⟨hi,H3⟩
 refine g_wk [(1,_),(5,_),(7,_),(8,_)] ?_
 refine w_s ?_
 refine w_k2 ?_
 refine g_seq ?_
 by_cases hb4:((i:Int):Int)<(m:Int)
 ·
  refine g_ct hb4 ?_
  refine w_k12 ?_
  refine l_of (s_call0 H3 (wt0 rfl) (x_call' rfl rfl cl87) (at_r _ _ (by omega) (by omega) _) rfl rfl ?_)
  intro wq5 H6
  refine l_of (s_b1 ze4 #[.bool (bitA s i)] H6 ?_)
  intro g7 wq8 H9
  refine l_of (s_appendR (n:=i) (m:=1) (sc:=d) (xs:=(bsV (truthsS i s))) (news:=[.bool (bitA s i)]) (p:=q) (ad:=⟨g7,0,none⟩) H9 1 (wt0 rfl) rfl rfl rfl rfl rfl rfl Tryz.underlying38 inf4 rfl (by decide) (by decide) rfl (by decide) (news_ob H9 (j0:=0) rfl) rfl (by omega) ?_)
  intro p10 c11 wq12 (H13:S wq12 [Ob g7 (.cells #[.bool (bitA s i)] 4 (0,0)),Rw 4 1 p10 (i+1) c11 ((bsV (truthsS i s))++[.bool (bitA s i)]),Old w no])
  refine w_k5 ?_
  refine w_b (v:=.int .i64 ((i:Int)+1)) (hb:=(b_add (w64 (by omega)))) ?_
  refine w_k2 ?_
  refine g_rd (i:=(i,q,d)) (i+1,p10,c11) ⟨by omega,(by rw [truths_next]; exact (H13.tk [1,2]))⟩
 ·
  refine g_cf hb4 ?_
  refine w_k10 ?_
  refine fin_r [.tmp 4] [.slice q i d] ?_
  have him:i=m:=by omega
  subst him
  exact ⟨q,d,rfl,H3⟩
theorem not_r (m:Nat) (s:ByteArray) (hm:m≤4096) (hs:s.size=longN m) (hv:checkS (m:Int) s=0) (w:World):Calls Tryz.prog 37 #[.int .i64 (m:Int),.string s] w fun e w'=>e=.returned (.tuple #[.string (fieldT ((truthsS m s).map (!·))),.int .i64 0])∧S w' [Old w no]:=by
 obtain ⟨l,hl0⟩:∃ l,truthsS m s=l:=⟨_,rfl⟩
 have hl:l.length=m:=by rw [← hl0,truths_len]
 rw [hl0]
 have H0:=S.old w
 refine enter 34 Tryz.func37 rfl rfl rfl ?_
 refine g_wk [(0,_),(1,_)] ?_
 refine w_s ?_
 refine w_k7 ?_
 refine l_of (s_call0 H0 (wt0 rfl) (x_call' rfl rfl cl86) (checkB_r _ _ _) rfl rfl ?_)
 intro wq1 H2
 refine w_k4 ?_
 refine w_b (v:=.bool (!decide (((checkS (m:Int) s):Int)=0))) (hb:=b_neq) ?_
 refine w_e ?_
 refine g_nf hv ?_
 refine w_k5 ?_
 refine l_of (s_cl (truths_r m s hm hs _) ?_)
 rintro _ wq5 ⟨p3,c4,rfl,H6⟩
 rw [hl0] at H6
 replace H6:S _ [_,_]:=H2.ab (new:=[_]) H6 rfl
 refine b_ret rfl rfl ?_
 refine w_k2 ?_
 refine g_wk [(7,_)] ?_
 refine g_seq ?_
 refine w_k6 ?_
 refine g_loop (ι:=Nat) (fun i=>[(7,.slice p3 m c4),(19,.int .i64 ((m:Int))),(20,.int .i64 ((i:Int)))]) (fun i wx=>(i≤m)∧S wx [Rw 4 1 p3 m c4 (bsV (flipTo i l)),Old w no]) (fun i=>m - i) (0) ⟨rfl,rfl,rfl,trivial⟩ ⟨Nat.zero_le _,(by rw [flip_zero]; exact H6)⟩ ?_
 rintro i wq7 ⟨hi,H8⟩
 refine g_wk [(7,_),(19,_),(20,_)] ?_
 refine w_s ?_
 refine w_k2 ?_
 refine g_seq ?_
 by_cases hb9:((i:Int):Int)<(m:Int)
 ·
  refine g_ct hb9 ?_
  refine w_k13 ?_
  refine w_v (x_i i (H8.rr 0)) ?_
  refine w_v (v:=.bool (((flipTo i l).getD i false))) (x_r i (H8.rr 0) (bsV_at (by rw [flip_len]; omega))) ?_
  refine w_v (x_not (b:=((flipTo i l).getD i false)) rfl rfl) ?_
  refine w_v (x_i i (H8.rr 0)) ?_
  refine l_of (s_storeW (n:=m) (c:=c4) (j:=i) (p:=p3) (xs:=bsV (flipTo i l)) H8 0 (wt0 rfl) rfl rfl rfl rfl rfl sz4 rfl rfl (by omega) ?_)
  intro wq10 H11
  rw [flip_next (by omega)] at H11
  replace H11:S wq10 [Rw 4 1 p3 m c4 (bsV (flipTo (i+1) l)),Old w no]:=H11
  refine w_k4 ?_
  refine w_b (v:=.int .i64 ((i:Int)+1)) (hb:=(b_add (w64 (by omega)))) ?_
  refine w_k2 ?_
  refine g_rd (i:=(i)) (i+1) ⟨by omega,H11⟩
 ·
  refine g_cf hb9 ?_
  refine w_k7 ?_
  refine l_of (s_call0 H8 (wt0 rfl) (x_call' rfl rfl cl21) (fieldB_r (flipTo i l) m c4 p3 (by rw [flip_len]; exact hl.symm) hm _ (H8.rr 0)) rfl rfl ?_)
  intro wq12 H13
  refine w_k4 ?_
  refine fin_r [.tmp 4,.tmp 5] [.string ((fieldT (flipTo i l))),.int .i64 0] ?_
  have him:i=l.length:=by omega
  rw [him,flip_all]
  exact ⟨by rw [← hl0]; rfl,H13.mask [false,true]⟩
theorem check_zeros {m:Nat} (hm:m≤4096):checkS (m:Int) (nbS (List.replicate (longN m) 0))=0:=by
 have h1:=rightB_nat hm
 unfold checkS validF wrongS
 rw [if_pos h1,if_pos h1,Int.toNat_natCast,wrong_zeros,if_pos (by rfl)]
theorem full_ro (n:Int) (h:rightB n=false) (w:World):Calls Tryz.prog 11 #[.int .i64 n] w fun e w'=>e=.returned (.tuple #[.string (fullS n).1,.int .i64 (fullS n).2])∧S w' [Old w no]:=by
 have H0:=S.old w
 refine enter 19 Tryz.func11 rfl rfl rfl ?_
 refine g_wk [(0,_)] ?_
 refine w_s ?_
 refine w_k5 ?_
 refine l_of (s_call0 H0 (wt0 rfl) (x_call' rfl rfl cl36) (newF_r n _) rfl rfl ?_)
 intro wq1 H2
 refine w_k9 ?_
 refine w_b (v:=.bool (!decide (((newS n).2:Int)=0))) (hb:=b_neq) ?_
 refine w_e ?_
 refine g_cond_t rfl (nt (by unfold newS; rw [h,if_neg Bool.false_ne_true]; decide)) ?_
 refine w_k7 ?_
 refine fin_r [.tmp 2,.tmp 3] [.string (⟨#[]⟩),.int .i64 ((newS n).2)] ?_
 exact ⟨by unfold fullS newS; rw [h,if_neg Bool.false_ne_true]; rfl,H2.mask [true]⟩
theorem full_ri (m:Nat) (hm:m≤4096) (w:World):Calls Tryz.prog 11 #[.int .i64 ((m:Int))] w fun e w'=>e=.returned (.tuple #[.string (nbS (fullAt m m)),.int .i64 0])∧S w' [Old w no]:=by
 have H0:=S.old w
 refine enter 19 Tryz.func11 rfl rfl rfl ?_
 refine g_wk [(0,_)] ?_
 refine w_s ?_
 refine w_k5 ?_
 refine l_of (s_call0 H0 (wt0 rfl) (x_call' rfl rfl cl36) (new_ri m hm _) rfl rfl ?_)
 intro wq1 H2
 refine w_k9 ?_
 refine w_b (v:=.bool (!decide ((0:Int)=0))) (hb:=b_neq) ?_
 refine w_e ?_
 refine g_nf rfl ?_
 refine w_k5 ?_
 refine l_of (s_call0 H2 (wt0 rfl) (x_call' rfl rfl cl37) (not_r m _ hm (by rw [nbS_size,List.length_replicate]) (check_zeros hm) _) rfl rfl ?_)
 intro wq3 H4
 refine w_k5 ?_
 refine g_wk [(2,_),(3,_)] ?_
 refine g_ret ?_
 refine fin_r [.tmp 2,.tmp 3] [.string ((fieldT ((truthsS m (nbS (List.replicate (longN m) 0))).map (!·)))),.int .i64 0] ?_
 exact ⟨by rw [truths_zeros,List.map_replicate,Bool.not_false,field_ones]; rfl,H4.mask [true]⟩
theorem full_r (n:Int) (w:World):Calls Tryz.prog 11 #[.int .i64 n] w fun e w'=>e=.returned (.tuple #[.string (fullS n).1,.int .i64 (fullS n).2])∧S w' [Old w no]:=by
 by_cases h1:0≤n∧n≤4096
 · obtain ⟨m,rfl⟩:∃ m:Nat,n=m:=⟨n.toNat,by omega⟩
   have e:fullS (m:Int)=(nbS (fullAt m m),0):=by unfold fullS; rw [if_pos (rightB_iff.2 h1),Int.toNat_natCast]
   rw [e]; exact full_ri m (by omega) w
 · exact full_ro n (by rw [← Bool.not_eq_true,rightB_iff]; exact h1) w
end
end Go.Proofs.YthmmfhdpkddniaaGreatDoor
