import Derived.Test.YthmmfhdpkddniaaGreatDoorGi
set_option linter.unusedSimpArgs false
set_option linter.unusedVariables false
namespace Go.Proofs.YthmmfhdpkddniaaGreatDoor
open Go.RowKit
theorem cl178:callable Tryz.prog 178=true:=by kernel_rfl
theorem cl179:callable Tryz.prog 179=true:=by kernel_rfl
theorem cl180:callable Tryz.prog 180=true:=by kernel_rfl
theorem cl193:callable Tryz.prog 193=true:=by kernel_rfl
def fn8 (s:ByteArray):Nat→Nat
 | 0=>0
 | i+1=>fn8 s i * 256+bt' s i
theorem fn8_lt (s:ByteArray):∀ i,fn8 s i<256 ^ i
 | 0=>by unfold fn8; decide
 | i+1=>by
   have h1:=fn8_lt s i
   have h2:=bt'_lt s i
   have h3:fn8 s (i+1)=fn8 s i * 256+bt' s i:=rfl
   rw [h3,Nat.pow_succ]
   omega
theorem fn8_le {s:ByteArray} {i:Nat} (h:i<8):fn8 s i * 256+255<18446744073709551616:=by
 have h1:=fn8_lt s i
 have h2:256 ^ i≤256 ^ 7:=Nat.pow_le_pow_right (by decide) (by omega)
 have h3:(256:Nat) ^ 7=72057594037927936:=by decide
 omega
def drV (seed:ByteArray) (k:Int):Int:=((fn8 (sumS ((seed++⟨#[58]⟩)++itS k)) 8 % 1000000:Nat):Int)
theorem b_shlU {P:Program} {w:World} {t:TypeId} {xo yo:Operand} {yk:IntKind} {a:Nat} (h:a * 256<18446744073709551616):Bin P .shl t xo yo (.int .u64 (a:Int)) (.int yk 8) w (.int .u64 ((a * 256:Nat):Int)):=
 b_shl (n:=8) (by
   have e:(a:Int) * 2 ^ (min 8 IntKind.u64.bits)=((a * 256:Nat):Int):=by
     show (a:Int) * 256=_
     omega
   rw [e]; exact wrapU h)
theorem b_orU {P:Program} {w:World} {t:TypeId} {xo yo:Operand} {a b:Nat} (hb:b<256) (h:a * 256+255<18446744073709551616):Bin P .or t xo yo (.int .u64 ((a * 256:Nat):Int)) (.int .u64 (b:Int)) w (.int .u64 ((a * 256+b:Nat):Int)):=by
 refine b_bits (.inr (.inl rfl)) ?_
 have h2:(a * 256) ||| b=a * 256+b:=by
   have h2:=Nat.shiftLeft_add_eq_or_of_lt (i:=8) (b:=b) hb a
   rw [Nat.shiftLeft_eq] at h2
   exact h2.symm
 have hm:a * 256+b<18446744073709551616:=Nat.lt_of_le_of_lt (Nat.add_le_add_left (Nat.le_of_lt_succ (show b<255+1 from hb)) _) h
 have hm2:a * 256<18446744073709551616:=Nat.lt_of_le_of_lt (Nat.le_add_right _ _) h
 clear h
 generalize a * 256=m at *
 have e:(BitVec.ofInt IntKind.u64.bits (m:Int) ||| BitVec.ofInt IntKind.u64.bits (b:Int)).toNat=m+b:=by
   show (BitVec.ofInt 64 (m:Int) ||| BitVec.ofInt 64 (b:Int)).toNat=_
   rw [ofInt_nat,ofInt_nat,BitVec.toNat_or,BitVec.toNat_ofNat,BitVec.toNat_ofNat,Nat.mod_eq_of_lt (by omega),Nat.mod_eq_of_lt (by omega)]
   exact h2
 simp only [Op.intBits,e]
 rw [wrapU (by omega)]; rfl
set_option maxRecDepth 20000 in
set_option maxHeartbeats 4000000 in
set_option maxRecDepth 20000 in
set_option maxHeartbeats 4000000 in
theorem fst8_h (s:ByteArray) (hs:8≤s.size) (hs2:s.size≤1099511627776)  (w:World):Calls Tryz.prog 193 #[.string s] w fun e w'=>e=.returned (.int .u64 ((fn8 s 8:Nat):Int))∧S w' [Old w no]:=by
 have H0:=S.old w
 refine enter 17 Tryz.func193 rfl rfl rfl ?_
 refine g_weak [(0,.string s)] ⟨rfl,trivial⟩ ?_
 refine g_seq ?_
 refine g_region ?_
 refine l_of (s_val (v:=.int .u64 0) (wt0 rfl) rfl rfl (x_assign rfl rfl) ?_)
 refine g_nil ?_
 refine g_then ?_
 refine g_seq ?_
 refine g_region ?_
 refine l_of (s_val (v:=.int .u64 0) (wt0 rfl) rfl rfl (x_assign rfl rfl) ?_)
 refine g_nil ?_
 refine g_then ?_
 refine g_seq ?_
 refine g_seq ?_
 refine g_region ?_
 refine l_of (s_val (v:=.int .i64 0) (wt0 rfl) rfl rfl (x_move rfl rfl) ?_)
 refine g_nil ?_
 refine g_then ?_
 refine g_block ?_
 refine g_loop (ι:=Nat) (fun i=>[(0,.string s),(3,.int .u64 (((fn8 s i:Nat):Int))),(5,.int .i64 ((i:Int)))]) (fun i wx=>(i≤8)∧S wx [Old w no]) (fun i=>8 - i) (0) ⟨rfl,rfl,rfl,trivial⟩ ⟨Nat.zero_le _,H0⟩ ?_
 rintro i wq1 ⟨hi,H2⟩
 replace H2:S wq1 [Old w no]:=H2
 refine g_weak [(0,.string s),(3,.int .u64 (((fn8 s i:Nat):Int))),(5,.int .i64 ((i:Int)))] ⟨rfl,rfl,rfl,trivial⟩ ?_
 refine g_seq ?_
 refine g_region ?_
 refine l_of (s_val (v:=.bool (decide (((i:Int):Int)<8))) (wt0 rfl) rfl rfl (x_bin rfl rfl rfl b_lss) ?_)
 refine g_nil ?_
 refine g_then ?_
 refine g_seq ?_
 by_cases hb3:((i:Int):Int)<8
 · skip
   refine g_cond_t rfl (decide_eq_true hb3) ?_
   refine g_skip ?_
   refine g_then ?_
   refine g_seq ?_
   refine g_block ?_
   refine g_seq ?_
   refine g_region ?_
   refine l_of (s_val (v:=.int .i64 ((i:Int))) (wt0 rfl) rfl rfl (x_move rfl rfl) ?_)
   refine l_of (s_val (v:=.int .i64 ((i:Int))) (wt0 rfl) rfl rfl (x_assign rfl rfl) ?_)
   refine g_nil ?_
   refine g_then ?_
   refine g_region ?_
   refine l_of (s_val (v:=.int .u64 (((fn8 s i:Nat):Int))) (wt0 rfl) rfl rfl (x_move rfl rfl) ?_)
   have hbt:=bt'_lt s i
   have hfl:=fn8_le (s:=s) (i:=i) (by omega)
   refine l_of (s_val (v:=.int .u64 (((fn8 s i * 256:Nat):Int))) (wt0 rfl) rfl rfl (x_bin rfl rfl rfl (b_shlU (by omega))) ?_)
   refine l_of (s_val (v:=.string s) (wt0 rfl) rfl rfl (x_move rfl rfl) ?_)
   refine l_of (s_val (v:=.int .i64 ((i:Int))) (wt0 rfl) rfl rfl (x_move rfl rfl) ?_)
   have hbt4:=bt'_lt s i
   refine l_of (s_val (v:=.int .u8 ((bt' s i:Int))) (wt0 rfl) rfl rfl (x_index i rfl rfl rfl Tryz.underlying9 (by omega)) ?_)
   refine l_of (s_val (v:=.int .u64 (((bt' s i:Nat):Int))) (wt0 rfl) rfl rfl (x_conv rfl rfl Tryz.underlying5 Tryz.underlying174 (wrapU (by omega))) ?_)
   refine l_of (s_val (v:=.int .u64 (((fn8 s (i+1):Nat):Int))) (wt0 rfl) rfl rfl (x_bin rfl rfl rfl (b_orU (by omega) (by omega))) ?_)
   refine l_of (s_val (v:=.int .u64 (((fn8 s (i+1):Nat):Int))) (wt0 rfl) rfl rfl (x_assign rfl rfl) ?_)
   refine g_nil ?_
   refine g_in ?_
   refine g_then ?_
   refine g_region ?_
   refine l_of (s_val (v:=.int .i64 (((i+1:Nat):Int))) (wt0 rfl) rfl rfl (x_bin rfl rfl rfl (b_add (by rw [w64 (by omega)]; omega))) ?_)
   refine l_of (s_val (v:=.int .i64 (((i+1:Nat):Int))) (wt0 rfl) rfl rfl (x_move rfl rfl) ?_)
   refine g_nil ?_
   refine g_then ?_
   refine g_round (i:=(i)) ((i+1)) ?_ ?_ ?_
   · exact ⟨rfl,rfl,rfl,trivial⟩
   · exact ⟨by omega,H2⟩
   · (try dsimp only); omega
 · skip
   refine g_cond_f rfl (decide_eq_false hb3) ?_
   refine g_exit ?_
   refine g_then_exit ?_
   refine g_then_exit ?_
   refine g_in_hit ?_
   refine g_then ?_
   refine g_seq ?_
   refine g_region ?_
   refine l_of (s_val (v:=.int .u64 (((fn8 s i:Nat):Int))) (wt0 rfl) rfl rfl (x_move rfl rfl) ?_)
   refine l_of (s_val (v:=.int .u64 (((fn8 s i:Nat):Int))) (wt0 rfl) rfl rfl (x_assign rfl rfl) ?_)
   refine g_nil ?_
   refine g_then ?_
   refine g_ret ?_
   refine fin_ret [.tmp 2] [.int .u64 (((fn8 s i:Nat):Int))] rfl ⟨rfl,trivial⟩ ?_
   have he:i=8:=by omega
   subst he
   exact ⟨rfl,H2.mask [true]⟩
set_option maxRecDepth 20000 in
set_option maxHeartbeats 4000000 in
set_option maxRecDepth 20000 in
set_option maxHeartbeats 4000000 in
theorem numb_h (s:ByteArray) (hs:s.size=32)  (w:World):Calls Tryz.prog 178 #[.string s,.int .i64 1000000] w fun e w'=>e=.returned (.tuple #[.int .i64 ((fn8 s 8 % 1000000:Nat):Int),.int .i64 0])∧S w' [Old w no]:=by
 have H0:=S.old w
 refine enter 19 Tryz.func178 rfl rfl rfl ?_
 refine g_weak [(0,.string s),(1,.int .i64 1000000)] ⟨rfl,rfl,trivial⟩ ?_
 refine g_seq ?_
 refine g_region ?_
 refine l_of (s_val (v:=.int .i64 0) (wt0 rfl) rfl rfl (x_assign rfl rfl) ?_)
 refine l_of (s_val (v:=.int .i64 0) (wt0 rfl) rfl rfl (x_assign rfl rfl) ?_)
 refine g_nil ?_
 refine g_then ?_
 refine g_seq ?_
 refine g_block ?_
 refine g_seq ?_
 refine g_region ?_
 refine l_of (s_val (v:=.string s) (wt0 rfl) rfl rfl (x_move rfl rfl) ?_)
 refine l_of (s_val (v:=.int .i64 ((s.size:Int))) (wt0 rfl) rfl rfl (x_lens rfl rfl Tryz.underlying9) ?_)
 refine l_of (s_val (v:=.bool (decide (((s.size:Int):Int)<8))) (wt0 rfl) rfl rfl (x_bin rfl rfl rfl b_lss) ?_)
 refine l_of (s_val (v:=.bool (decide (((s.size:Int):Int)<8))) (wt0 rfl) rfl rfl (x_assign rfl rfl) ?_)
 refine g_nil ?_
 refine g_then ?_
 refine g_cond_f rfl (decide_eq_false (by omega)) ?_
 refine g_seq ?_
 refine g_region ?_
 refine l_of (s_val (v:=.int .i64 1000000) (wt0 rfl) rfl rfl (x_move rfl rfl) ?_)
 refine l_of (s_val (v:=.bool (decide ((1000000:Int)<1))) (wt0 rfl) rfl rfl (x_bin rfl rfl rfl b_lss) ?_)
 refine l_of (s_val (v:=.bool (decide ((1000000:Int)<1))) (wt0 rfl) rfl rfl (x_assign rfl rfl) ?_)
 refine g_nil ?_
 refine g_then ?_
 refine g_cond_f rfl (by decide) ?_
 refine g_skip ?_
 refine g_in ?_
 refine g_then ?_
 refine g_seq ?_
 refine g_region ?_
 refine l_of (s_val (v:=.string s) (wt0 rfl) rfl rfl (x_move rfl rfl) ?_)
 refine l_of (s_call (wt0 rfl) (x_call' rfl rfl cl193) (fst8_h s (by omega) (by omega) _) ?_)
 rintro _ wq1 ⟨rfl,H2⟩
 replace H2:S wq1 [Old w no]:=H0.absorb (new:=[]) H2
 refine b_ret rfl rfl ?_
 refine l_of (s_val (v:=.int .i64 1000000) (wt0 rfl) rfl rfl (x_move rfl rfl) ?_)
 refine l_of (s_val (v:=.int .u64 1000000) (wt0 rfl) rfl rfl (x_conv rfl rfl Tryz.underlying3 Tryz.underlying174 (by decide)) ?_)
 refine l_of (s_val (v:=.int .u64 (((fn8 s 8 % 1000000:Nat):Int))) (wt0 rfl) rfl rfl (x_bin rfl rfl rfl (b_remU (a:=fn8 s 8) (b:=1000000) (by omega))) ?_)
 refine l_of (s_val (v:=.int .i64 (((fn8 s 8 % 1000000:Nat):Int))) (wt0 rfl) rfl rfl (x_conv rfl rfl Tryz.underlying174 Tryz.underlying3 (w64 (by omega))) ?_)
 refine l_of (s_val (v:=.int .i64 (((fn8 s 8 % 1000000:Nat):Int))) (wt0 rfl) rfl rfl (x_assign rfl rfl) ?_)
 refine l_of (s_val (v:=.int .i64 0) (wt0 rfl) rfl rfl (x_assign rfl rfl) ?_)
 refine g_nil ?_
 refine g_then ?_
 refine g_weak [(4,.int .i64 (((fn8 s 8 % 1000000:Nat):Int))),(5,.int .i64 0)] ⟨rfl,rfl,trivial⟩ ?_
 refine g_ret ?_
 refine fin_ret [.tmp 4,.tmp 5] [.int .i64 (((fn8 s 8 % 1000000:Nat):Int)),.int .i64 0] rfl ⟨rfl,rfl,trivial⟩ ?_
 exact ⟨rfl,H2.mask [true]⟩
def digB (n:Nat):ByteArray:=⟨[UInt8.ofNat (48+n % 10)].toArray⟩
set_option maxRecDepth 20000 in
set_option maxHeartbeats 4000000 in
set_option maxRecDepth 20000 in
set_option maxHeartbeats 4000000 in
theorem draw_h (seed:ByteArray) (k:Int) (hs:seed.size≤100) (h0:0≤k) (h1:k<24)  (w:World):Calls Tryz.prog 170 #[.string seed,.int .i64 k,.int .i64 1000000] w fun e w'=>e=.returned (.tuple #[.int .i64 (drV seed k),.int .i64 0])∧S w' [Old w no]:=by
 have H0:=S.old w
 have hz1:(⟨#[58]⟩:ByteArray).size=1:=rfl
 have hsz:=sumS_size ((seed++⟨#[58]⟩)++itS k)
 refine enter 24 Tryz.func170 rfl rfl rfl ?_
 refine g_weak [(0,.string seed),(1,.int .i64 k),(2,.int .i64 1000000)] ⟨rfl,rfl,rfl,trivial⟩ ?_
 refine g_seq ?_
 refine g_region ?_
 refine l_of (s_val (v:=.int .i64 0) (wt0 rfl) rfl rfl (x_assign rfl rfl) ?_)
 refine l_of (s_val (v:=.int .i64 0) (wt0 rfl) rfl rfl (x_assign rfl rfl) ?_)
 refine g_nil ?_
 refine g_then ?_
 refine g_seq ?_
 refine g_seq ?_
 refine g_region ?_
 refine l_of (s_val (v:=.int .i64 1000000) (wt0 rfl) rfl rfl (x_move rfl rfl) ?_)
 refine l_of (s_val (v:=.bool (decide ((1000000:Int)<1))) (wt0 rfl) rfl rfl (x_bin rfl rfl rfl b_lss) ?_)
 refine l_of (s_val (v:=.bool (decide ((1000000:Int)<1))) (wt0 rfl) rfl rfl (x_move rfl rfl) ?_)
 refine l_of (s_val (v:=.int .i64 k) (wt1 rfl rfl rfl rfl (by decide)) rfl rfl (x_move rfl rfl) ?_)
 refine l_of (s_val (v:=.bool (decide ((k:Int)<0))) (wt1 rfl rfl rfl rfl (by decide)) rfl rfl (x_bin rfl rfl rfl b_lss) ?_)
 refine l_of (s_val (v:=.bool (decide ((k:Int)<0))) (wt0 rfl) rfl rfl (x_pick_f rfl rfl (by decide) rfl) ?_)
 refine g_nil ?_
 refine g_then ?_
 refine g_cond_f rfl (decide_eq_false (by omega)) ?_
 refine g_skip ?_
 refine g_then ?_
 refine g_seq ?_
 refine g_region ?_
 refine l_of (s_val (v:=.string seed) (wt0 rfl) rfl rfl (x_move rfl rfl) ?_)
 have hsz1:(seed++(⟨#[58]⟩:ByteArray)).size=seed.size+(⟨#[58]⟩:ByteArray).size:=ByteArray.size_append
 refine l_of (s_val (v:=.string (seed++(⟨#[58]⟩:ByteArray))) (wt0 rfl) rfl rfl (x_bin rfl rfl rfl (b_cat (by omega))) ?_)
 refine l_of (s_val (v:=.int .i64 k) (wt0 rfl) rfl rfl (x_move rfl rfl) ?_)
 refine l_of (s_call (wt0 rfl) (x_call' rfl rfl cl180) (itoa1_s k (by omega) (by omega) _) ?_)
 rintro _ wq2 ⟨rfl,H3⟩
 replace H3:S wq2 [Old w no]:=H0.absorb (new:=[]) H3
 have hiz:=itS_size (n:=k) (by omega) (by omega)
 refine b_ret rfl rfl ?_
 have hsz4:((seed++(⟨#[58]⟩:ByteArray))++(itS k)).size=(seed++(⟨#[58]⟩:ByteArray)).size+(itS k).size:=ByteArray.size_append
 refine l_of (s_val (v:=.string ((seed++(⟨#[58]⟩:ByteArray))++(itS k))) (wt0 rfl) rfl rfl (x_bin rfl rfl rfl (b_cat (by omega))) ?_)
 refine l_of (s_call (wt0 rfl) (x_call' rfl rfl cl179) (sum_h _ (by omega) _) ?_)
 rintro _ wq5 ⟨rfl,H6⟩
 replace H6:S wq5 [Old w no]:=H3.absorb (new:=[]) H6
 refine b_ret rfl rfl ?_
 refine l_of (s_val (v:=.int .i64 1000000) (wt0 rfl) rfl rfl (x_move rfl rfl) ?_)
 refine l_of (s_call (wt0 rfl) (x_call' rfl rfl cl178) (numb_h (sumS ((seed++(⟨#[58]⟩:ByteArray))++(itS k))) hsz _) ?_)
 rintro _ wq7 ⟨rfl,H8⟩
 replace H8:S wq7 [Old w no]:=H6.absorb (new:=[]) H8
 refine b_ret rfl rfl ?_
 refine l_of (s_val (v:=.int .i64 (((fn8 (sumS ((seed++(⟨#[58]⟩:ByteArray))++(itS k))) 8 % 1000000:Nat):Int))) (wt0 rfl) rfl rfl (x_extract rfl rfl rfl) ?_)
 refine l_of (s_val (v:=.int .i64 0) (wt0 rfl) rfl rfl (x_extract rfl rfl rfl) ?_)
 refine l_of (s_val (v:=.int .i64 (((fn8 (sumS ((seed++(⟨#[58]⟩:ByteArray))++(itS k))) 8 % 1000000:Nat):Int))) (wt0 rfl) rfl rfl (x_assign rfl rfl) ?_)
 refine l_of (s_val (v:=.int .i64 0) (wt0 rfl) rfl rfl (x_assign rfl rfl) ?_)
 refine g_nil ?_
 refine g_then ?_
 refine g_weak [(6,.int .i64 (((fn8 (sumS ((seed++(⟨#[58]⟩:ByteArray))++(itS k))) 8 % 1000000:Nat):Int))),(7,.int .i64 0)] ⟨rfl,rfl,trivial⟩ ?_
 refine g_ret ?_
 refine fin_ret [.tmp 6,.tmp 7] [.int .i64 (((fn8 (sumS ((seed++(⟨#[58]⟩:ByteArray))++(itS k))) 8 % 1000000:Nat):Int)),.int .i64 0] rfl ⟨rfl,rfl,trivial⟩ ?_
 exact ⟨rfl,H8.mask [true]⟩
end Go.Proofs.YthmmfhdpkddniaaGreatDoor
