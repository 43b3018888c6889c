import Derived.Test.YtpbjekdjebjbkaaGreatFk
import Derived.Test.YtpbjekdjebjbkaaGreatTh
import Derived.Test.YtpbjekdjebjbkaaGreatTk
set_option linter.unusedSimpArgs false
set_option linter.unusedVariables false
namespace Go.Proofs.YtpbjekdjebjbkaaGreat
open Go.RowKit

theorem cl168 : callable Tryz.prog 168 = true := by kernel_rfl
theorem cl171 : callable Tryz.prog 171 = true := by kernel_rfl
theorem fo79_0 : foO Tryz.prog 79 0 = some 0 := by kernel_rfl
theorem fo79_2 : foO Tryz.prog 79 2 = some 2 := by kernel_rfl
theorem must_t {P : Int → Option Int} {rt i : Int} (h : (P i).isSome = true) : mustV P rt i = (P i).getD 0 := by
  unfold mustV
  cases e : P i with
  | none => rw [e] at h; cases h
  | some v => rfl
theorem must_f {P : Int → Option Int} {rt i : Int} (h : (P i).isSome = false) : mustV P rt i = rt / 4 := by
  unfold mustV
  cases e : P i with
  | none => rfl
  | some v => rw [e] at h; cases h
theorem must_bd {P : Int → Option Int} {rt : Int} (hP : ∀ i v, P i = some v → 0 ≤ v ∧ v ≤ 1000000) (hr : 0 ≤ rt ∧ rt ≤ 1000000) (i : Int) : 0 ≤ mustV P rt i ∧ mustV P rt i ≤ 1000000 := by
  unfold mustV
  cases e : P i with
  | none => show 0 ≤ rt / 4 ∧ rt / 4 ≤ 1000000; omega
  | some v => exact hP i v e
theorem mul_bd {x y : Int} (hx : 0 ≤ x ∧ x ≤ 1000000) (hy : 0 ≤ y ∧ y ≤ 1000000) : 0 ≤ x * y ∧ x * y ≤ 1000000000000 := by
  have h1 := Int.mul_nonneg hx.1 hy.1
  have h2 : x * y ≤ 1000000 * 1000000 := Int.mul_le_mul hx.2 hy.2 hy.1 (by decide)
  omega
theorem mV_int (l : List Int) : mV (Value.int .i64) l = fl intL l := by
  unfold mV fl
  rfl
theorem sort_i (l : List Int) (p : Option Addr) (c : Nat) (hl : l.length ≤ 20) (cm : Int → Int → Int) (gc : Nat) (fi ca : Array Value) (X : Item) (hc : Cmps Tryz.prog gc fi ca X (Value.int .i64) cm l) (w : World) (HS : S w [Rw 3 1 p l.length c (fl intL l), X]) :
    Calls Tryz.prog 171 #[.slice p l.length c, .func (.func gc) fi ca] w fun e w' => e = .returned (.tuple #[]) ∧ S w' ([Rw 3 1 p l.length c (fl intL (stableS 0 cm l)), X] ++ [Old w (fps [Rw 3 1 p l.length c (fl intL l), X])]) := by
  have h := sortStable_i 0 (Value.int .i64) (fun _ => rfl) (fun _ => rfl) (fun _ => rfl) l l.length rfl p c (by omega) cm gc fi ca X hc hl w
  rw [mV_int, mV_int] at h
  exact h HS
theorem tyrF_snoc (m : Int → Int) (n : Nat) (rt : Int) (l : List Int) (x : Int) : tyrF m n rt (l ++ [x]) = tyrS m (tyrF m n rt l) x := by
  unfold tyrF
  rw [List.foldl_append]; rfl
theorem tyr_stay (m : Int → Int) : ∀ (l : List Int) {s : TyR}, s.stop = true → l.foldl (tyrS m) s = s
  | [], s, _ => rfl
  | a :: l, s, h => by
    rw [List.foldl_cons, show tyrS m s a = s from by unfold tyrS; rw [if_pos h]]
    exact tyr_stay m l h
theorem tyr_brk {m : Int → Int} {n : Nat} {rt : Int} {l : List Int} {i : Nat} {x : Int} {s : TyR} (hx : l[i]? = some x) (hs : s = tyrF m n rt (l.take i)) (hst : s.stop = false) (hlt : s.left < m x) : tyrF m n rt l = { s with stop := true } := by
  obtain ⟨hi, hxe⟩ := List.getElem?_eq_some_iff.1 hx
  have e : l = l.take (i + 1) ++ l.drop (i + 1) := (List.take_append_drop _ _).symm
  rw [e, take_snocT hx]
  unfold tyrF
  rw [List.foldl_append, List.foldl_append]
  have e2 : (l.take i).foldl (tyrS m) ⟨List.replicate n 0, fun _ => none, rt, false⟩ = s := hs.symm
  rw [e2]
  show (l.drop (i + 1)).foldl (tyrS m) (tyrS m s x) = _
  rw [show tyrS m s x = { s with stop := true } from by unfold tyrS; rw [if_neg (by rw [hst]; decide), if_pos hlt]]
  exact tyr_stay m _ rfl
set_option maxRecDepth 20000 in
set_option maxHeartbeats 4000000 in
theorem must_s (b pg bg : Nat) (cg : Option Nat) (P : Int → Option Int) (hP : ∀ i v, P i = some v → 0 ≤ v ∧ v ≤ 1000000) (g : Nat) (gp : Option Addr) (gc gn : Nat) (seed : ByteArray) (pp : Option Addr) (pc : Nat) (ps : List Pl) (sp : Option Addr) (sc sn : Nat) (tp : Option Addr) (tc tn : Nat) (vp : Option Addr) (vc vn : Nat) (bp : Option Addr) (bc bn : Nat) (me : Int) (h0m : 0 ≤ me) (pm : Pl) (hm : ps[me.toNat]? = some pm) (rt : Int) (hrt : pm.rt = rt) (hr0 : 0 ≤ rt ∧ rt ≤ 1000000) (i : Int) (hi : okI i)  (w : World) (HS : S w [Ob b (.cells #[.map (some pg), .map (some bg), .map cg] 79 (0, 0)), Mp (Value.int .i64) (Value.int .i64) okI pg P, Ob g (.cells #[.slice gp gn gc, .string seed, .slice pp ps.length pc, .slice sp sn sc, .slice tp tn tc, .slice vp vn vc, .slice bp bn bc] 52 (0, 0)), Rw 33 2 pp ps.length pc (fl plL ps)]) : Calls Tryz.prog 168 #[.pointer (some ⟨b, 0, none⟩), .pointer (some ⟨g, 0, none⟩), .int .i64 me, .int .i64 i] w fun e w' => e = .returned (.int .i64 (mustV P rt i)) ∧ S w' ([Ob b (.cells #[.map (some pg), .map (some bg), .map cg] 79 (0, 0)), Mp (Value.int .i64) (Value.int .i64) okI pg P, Ob g (.cells #[.slice gp gn gc, .string seed, .slice pp ps.length pc, .slice sp sn sc, .slice tp tn tc, .slice vp vn vc, .slice bp bn bc] 52 (0, 0)), Rw 33 2 pp ps.length pc (fl plL ps)] ++ [Old w (fps [Ob b (.cells #[.map (some pg), .map (some bg), .map cg] 79 (0, 0)), Mp (Value.int .i64) (Value.int .i64) okI pg P, Ob g (.cells #[.slice gp gn gc, .string seed, .slice pp ps.length pc, .slice sp sn sc, .slice tp tn tc, .slice vp vn vc, .slice bp bn bc] 52 (0, 0)), Rw 33 2 pp ps.length pc (fl plL ps)])]) := by
 have H0 := HS.beginI
 have hmp := (List.getElem?_eq_some_iff.1 hm).1
 refine enter 32 Tryz.func168 rfl rfl rfl ?_
 refine g_weak [(0, .pointer (some ⟨b, 0, none⟩)), (1, .pointer (some ⟨g, 0, none⟩)), (2, .int .i64 me), (3, .int .i64 i)] ⟨rfl, rfl, rfl, rfl, trivial⟩ ?_
 refine w_s ?_
 refine w_a ?_
 refine w_e ?_
 refine w_s ?_
 refine w_r3 ?_
 refine w_1 H0 0 ?_
 refine w_m ?_
 refine w_v (v := .tuple #[.int .i64 (((P i).getD 0)), .bool ((P i).isSome)]) (ex_cast (x_lookup (x := i) (intTy Tryz.underlying76 Tryz.underlying3) H0 1 rfl rfl rfl rfl (hi) ze3) (by rw [look_I _])) ?_
 refine w_r5 ?_
 refine w_e ?_
 refine g_weak [(1, .pointer (some ⟨g, 0, none⟩)), (2, .int .i64 me), (9, .int .i64 (((P i).getD 0))), (10, .bool ((P i).isSome))] ⟨rfl, rfl, rfl, rfl, trivial⟩ ?_
 refine g_seq ?_
 refine w_s ?_
 refine w_m ?_
 refine w_v (v := .bool (!((P i).isSome))) (x_not (b := (P i).isSome) rfl rfl) ?_
 refine w_e ?_
 rcases Bool.eq_false_or_eq_true ((P i).isSome) with hb1 | hb1
 ·
  refine g_cond_f rfl (neg_of hb1) ?_
  refine g_skip ?_
  refine g_then ?_
  refine w_s ?_
  refine w_r2 ?_
  refine w_e ?_
  refine g_ret ?_
  refine fin_ret [.tmp 8] [.int .i64 (((P i).getD 0))] rfl ⟨rfl, trivial⟩ ?_
  rw [must_t hb1]
  exact ⟨rfl, (H0.takes [0, 1, 2, 3, 4] (by decide))⟩
 ·
  refine g_cond_t rfl (neg_of hb1) ?_
  refine w_s ?_
  refine w_r3 ?_
  refine w_1 H0 2 ?_
  refine w_m ?_
  refine w_v (v := .pointer ((pp).map fun q => q.add (((me).toNat) * 2))) (x_idxR ((me).toNat) (H0.rwReads (k := 3) rfl) rfl rfl rfl Tryz.underlying22 sz33 (by omega)) ?_
  refine w_v (v := .pointer ((pp).map fun q => q.add (((me).toNat) * 2 + 1))) (ex_cast (x_fieldAddrG (m := ((me).toNat) * 2) ((H0.rwReads (k := 3) rfl).some (by omega)) rfl rfl fo33_1) rfl) ?_
  have hlq := (H0.rwReads (k := 3) rfl).lenL plE
  obtain ⟨x2, hx2⟩ := ex_at (l := ps) (j := ((me).toNat)) (by omega)
  clear hlq
  have hrx : x2.rt = rt := by rw [show x2 = pm from Option.some.inj (hx2.symm.trans hm)]; exact hrt
  refine w_v (v := .int .i64 rt) (ex_cast (x_loadF1 (i := 1) (j := ((me).toNat)) plE (H0.rwReads (k := 3) rfl) hx2 rfl rfl Tryz.underlying3 rfl rfl) (by rw [hrx])) ?_
  refine w_b (v := .int .i64 (rt / 4)) (hb := (b_quo (by omega) (quo64 (by omega)))) ?_
  refine w_a ?_
  refine w_e ?_
  refine g_weak [(8, .int .i64 (rt / 4))] ⟨rfl, trivial⟩ ?_
  refine g_ret ?_
  refine g_then_ret ?_
  refine fin_ret [.tmp 8] [.int .i64 (rt / 4)] rfl ⟨rfl, trivial⟩ ?_
  rw [must_f hb1]
  exact ⟨rfl, (H0.takes [0, 1, 2, 3, 4] (by decide))⟩
set_option maxRecDepth 20000 in
set_option maxHeartbeats 4000000 in
theorem tyr1_s (ug um ut : Nat) (b pg bg : Nat) (cg : Option Nat) (P : Int → Option Int) (hP : ∀ i v, P i = some v → 0 ≤ v ∧ v ≤ 1000000) (g : Nat) (seed : ByteArray) (pp : Option Addr) (pc : Nat) (ps : List Pl) (sp : Option Addr) (sc sn : Nat) (tp : Option Addr) (tc tn : Nat) (vp : Option Addr) (vc vn : Nat) (bp : Option Addr) (bc bn : Nat) (pl gs : List Rd) (gp : Option Addr) (gc : Nat) (hG : GsOK ps.length pl gs) (hgl : gs.length ≤ 200) (hnp : ps.length ≤ 9) (me : Int) (h0m : 0 ≤ me) (pm : Pl) (hm : ps[me.toNat]? = some pm) (rt : Int) (hrt : pm.rt = rt) (hr0 : 0 ≤ rt ∧ rt ≤ 1000000) (a z : Int) (ha : 0 ≤ a ∧ a < ps.length) (hb : 0 ≤ z ∧ z < ps.length)  (w : World) (HS : S w [Ob ug (.cells #[.pointer (some ⟨g, 0, none⟩)] 25 (0, 0)), Ob um (.cells #[.int .i64 me] 3 (0, 0)), Ob ut (.cells #[.pointer (some ⟨b, 0, none⟩)] 75 (0, 0)), Ob b (.cells #[.map (some pg), .map (some bg), .map cg] 79 (0, 0)), Mp (Value.int .i64) (Value.int .i64) okI pg P, Ob g (.cells #[.slice gp gs.length gc, .string seed, .slice pp ps.length pc, .slice sp sn sc, .slice tp tn tc, .slice vp vn vc, .slice bp bn bc] 52 (0, 0)), Rw 29 1 gp gs.length gc (fl rowL gs), Rw 33 2 pp ps.length pc (fl plL ps), (Pool pl)]) : Calls Tryz.prog 172 #[.int .i64 a, .int .i64 z, .pointer (some ⟨ug, 0, none⟩), .pointer (some ⟨um, 0, none⟩), .pointer (some ⟨ut, 0, none⟩)] w fun e w' => e = .returned (.int .i64 (tyrC (gs.map Rd.v) P rt me a z)) ∧ S w' ([Ob ug (.cells #[.pointer (some ⟨g, 0, none⟩)] 25 (0, 0)), Ob um (.cells #[.int .i64 me] 3 (0, 0)), Ob ut (.cells #[.pointer (some ⟨b, 0, none⟩)] 75 (0, 0)), Ob b (.cells #[.map (some pg), .map (some bg), .map cg] 79 (0, 0)), Mp (Value.int .i64) (Value.int .i64) okI pg P, Ob g (.cells #[.slice gp gs.length gc, .string seed, .slice pp ps.length pc, .slice sp sn sc, .slice tp tn tc, .slice vp vn vc, .slice bp bn bc] 52 (0, 0)), Rw 29 1 gp gs.length gc (fl rowL gs), Rw 33 2 pp ps.length pc (fl plL ps), (Pool pl)] ++ [Old w (fps [Ob ug (.cells #[.pointer (some ⟨g, 0, none⟩)] 25 (0, 0)), Ob um (.cells #[.int .i64 me] 3 (0, 0)), Ob ut (.cells #[.pointer (some ⟨b, 0, none⟩)] 75 (0, 0)), Ob b (.cells #[.map (some pg), .map (some bg), .map cg] 79 (0, 0)), Mp (Value.int .i64) (Value.int .i64) okI pg P, Ob g (.cells #[.slice gp gs.length gc, .string seed, .slice pp ps.length pc, .slice sp sn sc, .slice tp tn tc, .slice vp vn vc, .slice bp bn bc] 52 (0, 0)), Rw 29 1 gp gs.length gc (fl rowL gs), Rw 33 2 pp ps.length pc (fl plL ps), (Pool pl)])]) := by
 have H0 := HS.beginI
 have hmp := (List.getElem?_eq_some_iff.1 hm).1
 refine enter 48 Tryz.func172 rfl rfl rfl ?_
 refine g_weak [(0, .int .i64 a), (1, .int .i64 z), (2, .pointer (some ⟨ug, 0, none⟩)), (3, .pointer (some ⟨um, 0, none⟩)), (4, .pointer (some ⟨ut, 0, none⟩))] ⟨rfl, rfl, rfl, rfl, rfl, trivial⟩ ?_
 refine w_s ?_
 refine w_a ?_
 refine w_e ?_
 refine g_seq ?_
 refine g_anyY [] (fun wx => S wx [Ob ug (.cells #[.pointer (some ⟨g, 0, none⟩)] 25 (0, 0)), Ob um (.cells #[.int .i64 me] 3 (0, 0)), Ob g (.cells #[.slice gp gs.length gc, .string seed, .slice pp ps.length pc, .slice sp sn sc, .slice tp tn tc, .slice vp vn vc, .slice bp bn bc] 52 (0, 0))]) (fun wx => S wx [Ob ug (.cells #[.pointer (some ⟨g, 0, none⟩)] 25 (0, 0)), Ob um (.cells #[.int .i64 me] 3 (0, 0)), Ob g (.cells #[.slice gp gs.length gc, .string seed, .slice pp ps.length pc, .slice sp sn sc, .slice tp tn tc, .slice vp vn vc, .slice bp bn bc] 52 (0, 0))]) [] (by kernel_rfl) H0 (fun wq1 H2 => ?_)
 have cm1 := H2.mask [true, true, false, false, false, true, false, false, false, false]
 refine y_take (v := .pointer (some ⟨g, 0, none⟩)) 0 rfl (wt0 rfl) rfl rfl rfl (by kernel_rfl) (by kernel_rfl) (by kernel_rfl) (by kernel_rfl) (by kernel_rfl) cm1 (fun wx H => x_load1 H 0 rfl rfl Tryz.underlying25 rfl rfl rfl) ?_
 refine w_y 1 rfl (wt0 rfl) rfl rfl rfl (by kernel_rfl) (fun _ => x_nilCheck rfl rfl) ?_
 refine w_y 2 rfl (wt0 rfl) rfl rfl rfl (by kernel_rfl) (fun _ => x_fieldAddr (off' := 0) rfl rfl fo52_0 rfl) ?_
 refine y_take (v := .agg #[.slice gp gs.length gc]) 3 rfl (wt0 rfl) rfl rfl rfl (by kernel_rfl) (by kernel_rfl) (by kernel_rfl) (by kernel_rfl) (by kernel_rfl) cm1 (fun wx H => x_loadA H 2 rfl rfl Tryz.underlying49 rfl sz49 rfl rfl rfl) ?_
 refine w_y 4 rfl (wt0 rfl) rfl rfl rfl (by kernel_rfl) (fun _ => x_move rfl rfl) ?_
 refine y_take (v := .int .i64 me) 5 rfl (wt0 rfl) rfl rfl rfl (by kernel_rfl) (by kernel_rfl) (by kernel_rfl) (by kernel_rfl) (by kernel_rfl) cm1 (fun wx H => x_load1 H 1 rfl rfl Tryz.underlying3 rfl rfl rfl) ?_
 refine y_take (v := .pointer (some ⟨g, 0, none⟩)) 7 rfl (wt0 rfl) rfl rfl rfl (by kernel_rfl) (by kernel_rfl) (by kernel_rfl) (by kernel_rfl) (by kernel_rfl) cm1 (fun wx H => x_load1 H 0 rfl rfl Tryz.underlying25 rfl rfl rfl) ?_
 refine w_y 8 rfl (wt0 rfl) rfl rfl rfl (by kernel_rfl) (fun _ => x_nilCheck rfl rfl) ?_
 refine w_y 9 rfl (wt0 rfl) rfl rfl rfl (by kernel_rfl) (fun _ => x_fieldAddr (off' := 0) rfl rfl fo52_0 rfl) ?_
 refine y_take (v := .agg #[.slice gp gs.length gc]) 10 rfl (wt0 rfl) rfl rfl rfl (by kernel_rfl) (by kernel_rfl) (by kernel_rfl) (by kernel_rfl) (by kernel_rfl) cm1 (fun wx H => x_loadA H 2 rfl rfl Tryz.underlying49 rfl sz49 rfl rfl rfl) ?_
 refine w_y 11 rfl (wt0 rfl) rfl rfl rfl (by kernel_rfl) (fun _ => x_move rfl rfl) ?_
 refine y_take (v := .int .i64 me) 12 rfl (wt0 rfl) rfl rfl rfl (by kernel_rfl) (by kernel_rfl) (by kernel_rfl) (by kernel_rfl) (by kernel_rfl) cm1 (fun wx H => x_load1 H 1 rfl rfl Tryz.underlying3 rfl rfl rfl) ?_
 refine y_one (i := 6) (by kernel_rfl) rfl ?_
 refine s_call (wt0 rfl) (x_call' rfl rfl cl45) (tlast_s ps.length pl gs gp gc hnp hG hgl a me ha ⟨h0m, by omega⟩ _ (H2.takes [6, 8] (by decide))) ?_
 rintro _ wq4 ⟨rfl, H5⟩
 replace H5 : S wq4 [Rw 29 1 gp gs.length gc (fl rowL gs), (Pool pl), Ob ug (.cells #[.pointer (some ⟨g, 0, none⟩)] 25 (0, 0)), Ob um (.cells #[.int .i64 me] 3 (0, 0)), Ob ut (.cells #[.pointer (some ⟨b, 0, none⟩)] 75 (0, 0)), Ob b (.cells #[.map (some pg), .map (some bg), .map cg] 79 (0, 0)), Mp (Value.int .i64) (Value.int .i64) okI pg P, Ob g (.cells #[.slice gp gs.length gc, .string seed, .slice pp ps.length pc, .slice sp sn sc, .slice tp tn tc, .slice vp vn vc, .slice bp bn bc] 52 (0, 0)), Rw 33 2 pp ps.length pc (fl plL ps), Old w (fps [Ob ug (.cells #[.pointer (some ⟨g, 0, none⟩)] 25 (0, 0)), Ob um (.cells #[.int .i64 me] 3 (0, 0)), Ob ut (.cells #[.pointer (some ⟨b, 0, none⟩)] 75 (0, 0)), Ob b (.cells #[.map (some pg), .map (some bg), .map cg] 79 (0, 0)), Mp (Value.int .i64) (Value.int .i64) okI pg P, Ob g (.cells #[.slice gp gs.length gc, .string seed, .slice pp ps.length pc, .slice sp sn sc, .slice tp tn tc, .slice vp vn vc, .slice bp bn bc] 52 (0, 0)), Rw 29 1 gp gs.length gc (fl rowL gs), Rw 33 2 pp ps.length pc (fl plL ps), (Pool pl)])] := by have h := H2.absorbI [6, 8] H5; exact h
 have hlbq3 := lastV_bd hG a me
 refine b_ret rfl rfl ?_
 have cm2 := H5.mask [false, false, true, true, false, false, false, true, false, false]
 refine y_k cm2 cm2 ?_
 refine y_one (i := 13) (by kernel_rfl) rfl ?_
 refine s_call (wt0 rfl) (x_call' rfl rfl cl45) (tlast_s ps.length pl gs gp gc hnp hG hgl z me hb ⟨h0m, by omega⟩ _ (H5.takes [0, 1] (by decide))) ?_
 rintro _ wq7 ⟨rfl, H8⟩
 replace H8 : S wq7 [Rw 29 1 gp gs.length gc (fl rowL gs), (Pool pl), Ob ug (.cells #[.pointer (some ⟨g, 0, none⟩)] 25 (0, 0)), Ob um (.cells #[.int .i64 me] 3 (0, 0)), Ob ut (.cells #[.pointer (some ⟨b, 0, none⟩)] 75 (0, 0)), Ob b (.cells #[.map (some pg), .map (some bg), .map cg] 79 (0, 0)), Mp (Value.int .i64) (Value.int .i64) okI pg P, Ob g (.cells #[.slice gp gs.length gc, .string seed, .slice pp ps.length pc, .slice sp sn sc, .slice tp tn tc, .slice vp vn vc, .slice bp bn bc] 52 (0, 0)), Rw 33 2 pp ps.length pc (fl plL ps), Old w (fps [Ob ug (.cells #[.pointer (some ⟨g, 0, none⟩)] 25 (0, 0)), Ob um (.cells #[.int .i64 me] 3 (0, 0)), Ob ut (.cells #[.pointer (some ⟨b, 0, none⟩)] 75 (0, 0)), Ob b (.cells #[.map (some pg), .map (some bg), .map cg] 79 (0, 0)), Mp (Value.int .i64) (Value.int .i64) okI pg P, Ob g (.cells #[.slice gp gs.length gc, .string seed, .slice pp ps.length pc, .slice sp sn sc, .slice tp tn tc, .slice vp vn vc, .slice bp bn bc] 52 (0, 0)), Rw 29 1 gp gs.length gc (fl rowL gs), Rw 33 2 pp ps.length pc (fl plL ps), (Pool pl)])] := by have h := H5.absorbI [0, 1] H8; exact h
 have hlbq6 := lastV_bd hG z me
 refine b_ret rfl rfl ?_
 have cm3 := H8.mask [false, false, true, true, false, false, false, true, false, false]
 refine y_k cm3 cm3 ?_
 refine w_y 14 rfl (wt0 rfl) rfl rfl rfl (by kernel_rfl) (fun _ => x_assign rfl rfl) ?_
 refine w_y 15 rfl (wt0 rfl) rfl rfl rfl (by kernel_rfl) (fun _ => x_assign rfl rfl) ?_
 refine y_done (by kernel_rfl) ?_
 refine g_then ?_
 refine g_weak [(0, .int .i64 a), (1, .int .i64 z), (2, .pointer (some ⟨ug, 0, none⟩)), (3, .pointer (some ⟨um, 0, none⟩)), (4, .pointer (some ⟨ut, 0, none⟩)), (8, .int .i64 ((lastV (gs.map Rd.v) a me))), (9, .int .i64 ((lastV (gs.map Rd.v) z me)))] ⟨rfl, rfl, rfl, rfl, rfl, rfl, rfl, trivial⟩ ?_
 refine g_seq ?_
 refine w_s ?_
 refine w_m ?_
 refine w_b ?_
 refine w_m ?_
 by_cases hb9 : ((lastV (gs.map Rd.v) a me) : Int) = 0
 ·
  refine w_n (decide_eq_true hb9) ?_
  refine w_n (decide_eq_true hb9) ?_
  refine w_v (v := .bool true) (x_pick_t rfl rfl (decide_eq_true hb9) rfl) ?_
  refine w_e ?_
  refine g_cond_t rfl rfl ?_
  refine w_s ?_
  refine w_r2 ?_
  refine w_b (v := .int .i64 ((lastV (gs.map Rd.v) z me) - (lastV (gs.map Rd.v) a me))) (hb := (b_sub (w64 (by omega)))) ?_
  refine w_a ?_
  refine w_e ?_
  refine g_weak [(7, .int .i64 ((lastV (gs.map Rd.v) z me) - (lastV (gs.map Rd.v) a me)))] ⟨rfl, trivial⟩ ?_
  refine g_ret ?_
  refine g_then_ret ?_
  refine fin_ret [.tmp 7] [.int .i64 ((lastV (gs.map Rd.v) z me) - (lastV (gs.map Rd.v) a me))] rfl ⟨rfl, trivial⟩ ?_
  exact ⟨by unfold tyrC; first | (rw [if_pos (by omega)]; rfl) | (rw [if_neg (by omega)]; rfl), (H8.takes [2, 3, 4, 5, 6, 7, 0, 8, 1, 9] (by decide))⟩
 ·
  refine w_g (decide_eq_false hb9) xm ?_
  refine w_g (decide_eq_false hb9) (x_bin rfl rfl rfl b_eql) ?_
  refine w_v (v := .bool (decide (((lastV (gs.map Rd.v) z me) : Int) = 0))) (x_pick_f rfl rfl (decide_eq_false hb9) rfl) ?_
  refine w_e ?_
  by_cases hb10 : ((lastV (gs.map Rd.v) z me) : Int) = 0
  ·
   refine g_cond_t rfl (decide_eq_true hb10) ?_
   refine w_s ?_
   refine w_r2 ?_
   refine w_b (v := .int .i64 ((lastV (gs.map Rd.v) z me) - (lastV (gs.map Rd.v) a me))) (hb := (b_sub (w64 (by omega)))) ?_
   refine w_a ?_
   refine w_e ?_
   refine g_weak [(7, .int .i64 ((lastV (gs.map Rd.v) z me) - (lastV (gs.map Rd.v) a me)))] ⟨rfl, trivial⟩ ?_
   refine g_ret ?_
   refine g_then_ret ?_
   refine fin_ret [.tmp 7] [.int .i64 ((lastV (gs.map Rd.v) z me) - (lastV (gs.map Rd.v) a me))] rfl ⟨rfl, trivial⟩ ?_
   exact ⟨by unfold tyrC; first | (rw [if_pos (by omega)]; rfl) | (rw [if_neg (by omega)]; rfl), (H8.takes [2, 3, 4, 5, 6, 7, 0, 8, 1, 9] (by decide))⟩
  ·
   refine g_cond_f rfl (decide_eq_false hb10) ?_
   refine g_skip ?_
   refine g_then ?_
   refine g_seq ?_
   refine g_anyY [] (fun wx => S wx [Ob ug (.cells #[.pointer (some ⟨g, 0, none⟩)] 25 (0, 0)), Ob um (.cells #[.int .i64 me] 3 (0, 0)), Ob ut (.cells #[.pointer (some ⟨b, 0, none⟩)] 75 (0, 0))]) (fun wx => S wx [Ob ug (.cells #[.pointer (some ⟨g, 0, none⟩)] 25 (0, 0)), Ob um (.cells #[.int .i64 me] 3 (0, 0)), Ob ut (.cells #[.pointer (some ⟨b, 0, none⟩)] 75 (0, 0))]) [] (by kernel_rfl) H8 (fun wq11 H12 => ?_)
   refine w_y 0 rfl (wt0 rfl) rfl rfl rfl (by kernel_rfl) (fun _ => x_move rfl rfl) ?_
   have cm4 := H12.mask [false, false, true, true, true, false, false, false, false, false]
   refine y_take (v := .pointer (some ⟨b, 0, none⟩)) 1 rfl (wt0 rfl) rfl rfl rfl (by kernel_rfl) (by kernel_rfl) (by kernel_rfl) (by kernel_rfl) (by kernel_rfl) cm4 (fun wx H => x_load1 H 2 rfl rfl Tryz.underlying75 rfl rfl rfl) ?_
   refine y_take (v := .pointer (some ⟨g, 0, none⟩)) 2 rfl (wt0 rfl) rfl rfl rfl (by kernel_rfl) (by kernel_rfl) (by kernel_rfl) (by kernel_rfl) (by kernel_rfl) cm4 (fun wx H => x_load1 H 0 rfl rfl Tryz.underlying25 rfl rfl rfl) ?_
   refine y_take (v := .int .i64 me) 3 rfl (wt0 rfl) rfl rfl rfl (by kernel_rfl) (by kernel_rfl) (by kernel_rfl) (by kernel_rfl) (by kernel_rfl) cm4 (fun wx H => x_load1 H 1 rfl rfl Tryz.underlying3 rfl rfl rfl) ?_
   refine w_y 4 rfl (wt0 rfl) rfl rfl rfl (by kernel_rfl) (fun _ => x_move rfl rfl) ?_
   refine w_y 7 rfl (wt0 rfl) rfl rfl rfl (by kernel_rfl) (fun _ => x_move rfl rfl) ?_
   refine y_take (v := .pointer (some ⟨b, 0, none⟩)) 8 rfl (wt0 rfl) rfl rfl rfl (by kernel_rfl) (by kernel_rfl) (by kernel_rfl) (by kernel_rfl) (by kernel_rfl) cm4 (fun wx H => x_load1 H 2 rfl rfl Tryz.underlying75 rfl rfl rfl) ?_
   refine y_take (v := .pointer (some ⟨g, 0, none⟩)) 9 rfl (wt0 rfl) rfl rfl rfl (by kernel_rfl) (by kernel_rfl) (by kernel_rfl) (by kernel_rfl) (by kernel_rfl) cm4 (fun wx H => x_load1 H 0 rfl rfl Tryz.underlying25 rfl rfl rfl) ?_
   refine y_take (v := .int .i64 me) 10 rfl (wt0 rfl) rfl rfl rfl (by kernel_rfl) (by kernel_rfl) (by kernel_rfl) (by kernel_rfl) (by kernel_rfl) cm4 (fun wx H => x_load1 H 1 rfl rfl Tryz.underlying3 rfl rfl rfl) ?_
   refine w_y 11 rfl (wt0 rfl) rfl rfl rfl (by kernel_rfl) (fun _ => x_move rfl rfl) ?_
   refine y_one (i := 5) (by kernel_rfl) rfl ?_
   refine s_call (wt0 rfl) (x_call' rfl rfl cl168) (must_s b pg bg cg P hP g gp gc gs.length seed pp pc ps sp sc sn tp tc tn vp vc vn bp bc bn me h0m pm hm rt hrt hr0 a ⟨by omega, by omega⟩ _ (H12.takes [5, 6, 7, 8] (by decide))) ?_
   rintro _ wq14 ⟨rfl, H15⟩
   replace H15 : S wq14 [Ob b (.cells #[.map (some pg), .map (some bg), .map cg] 79 (0, 0)), Mp (Value.int .i64) (Value.int .i64) okI pg P, Ob g (.cells #[.slice gp gs.length gc, .string seed, .slice pp ps.length pc, .slice sp sn sc, .slice tp tn tc, .slice vp vn vc, .slice bp bn bc] 52 (0, 0)), Rw 33 2 pp ps.length pc (fl plL ps), Rw 29 1 gp gs.length gc (fl rowL gs), (Pool pl), Ob ug (.cells #[.pointer (some ⟨g, 0, none⟩)] 25 (0, 0)), Ob um (.cells #[.int .i64 me] 3 (0, 0)), Ob ut (.cells #[.pointer (some ⟨b, 0, none⟩)] 75 (0, 0)), Old w (fps [Ob ug (.cells #[.pointer (some ⟨g, 0, none⟩)] 25 (0, 0)), Ob um (.cells #[.int .i64 me] 3 (0, 0)), Ob ut (.cells #[.pointer (some ⟨b, 0, none⟩)] 75 (0, 0)), Ob b (.cells #[.map (some pg), .map (some bg), .map cg] 79 (0, 0)), Mp (Value.int .i64) (Value.int .i64) okI pg P, Ob g (.cells #[.slice gp gs.length gc, .string seed, .slice pp ps.length pc, .slice sp sn sc, .slice tp tn tc, .slice vp vn vc, .slice bp bn bc] 52 (0, 0)), Rw 29 1 gp gs.length gc (fl rowL gs), Rw 33 2 pp ps.length pc (fl plL ps), (Pool pl)])] := by have h := H12.absorbI [5, 6, 7, 8] H15; exact h
   have hmbq13 := must_bd hP hr0 a
   refine b_ret rfl rfl ?_
   have cm5 := H15.mask [false, false, false, false, false, false, true, true, true, false]
   refine y_k cm5 cm5 ?_
   have hp16 := mul_bd (lastV_bd hG z me) (must_bd hP hr0 a)
   refine w_y (v := .int .i64 ((lastV (gs.map Rd.v) z me) * (mustV P rt a))) 6 rfl (wt0 rfl) rfl rfl rfl (by kernel_rfl) (fun _ => x_bin rfl rfl rfl (b_mul (w64 (by omega)))) ?_
   refine y_one (i := 12) (by kernel_rfl) rfl ?_
   refine s_call (wt0 rfl) (x_call' rfl rfl cl168) (must_s b pg bg cg P hP g gp gc gs.length seed pp pc ps sp sc sn tp tc tn vp vc vn bp bc bn me h0m pm hm rt hrt hr0 z ⟨by omega, by omega⟩ _ (H15.takes [0, 1, 2, 3] (by decide))) ?_
   rintro _ wq18 ⟨rfl, H19⟩
   replace H19 : S wq18 [Ob b (.cells #[.map (some pg), .map (some bg), .map cg] 79 (0, 0)), Mp (Value.int .i64) (Value.int .i64) okI pg P, Ob g (.cells #[.slice gp gs.length gc, .string seed, .slice pp ps.length pc, .slice sp sn sc, .slice tp tn tc, .slice vp vn vc, .slice bp bn bc] 52 (0, 0)), Rw 33 2 pp ps.length pc (fl plL ps), Rw 29 1 gp gs.length gc (fl rowL gs), (Pool pl), Ob ug (.cells #[.pointer (some ⟨g, 0, none⟩)] 25 (0, 0)), Ob um (.cells #[.int .i64 me] 3 (0, 0)), Ob ut (.cells #[.pointer (some ⟨b, 0, none⟩)] 75 (0, 0)), Old w (fps [Ob ug (.cells #[.pointer (some ⟨g, 0, none⟩)] 25 (0, 0)), Ob um (.cells #[.int .i64 me] 3 (0, 0)), Ob ut (.cells #[.pointer (some ⟨b, 0, none⟩)] 75 (0, 0)), Ob b (.cells #[.map (some pg), .map (some bg), .map cg] 79 (0, 0)), Mp (Value.int .i64) (Value.int .i64) okI pg P, Ob g (.cells #[.slice gp gs.length gc, .string seed, .slice pp ps.length pc, .slice sp sn sc, .slice tp tn tc, .slice vp vn vc, .slice bp bn bc] 52 (0, 0)), Rw 29 1 gp gs.length gc (fl rowL gs), Rw 33 2 pp ps.length pc (fl plL ps), (Pool pl)])] := by have h := H15.absorbI [0, 1, 2, 3] H19; exact h
   have hmbq17 := must_bd hP hr0 z
   refine b_ret rfl rfl ?_
   have cm6 := H19.mask [false, false, false, false, false, false, true, true, true, false]
   refine y_k cm6 cm6 ?_
   have hp20 := mul_bd (lastV_bd hG a me) (must_bd hP hr0 z)
   refine w_y (v := .int .i64 ((lastV (gs.map Rd.v) a me) * (mustV P rt z))) 13 rfl (wt0 rfl) rfl rfl rfl (by kernel_rfl) (fun _ => x_bin rfl rfl rfl (b_mul (w64 (by omega)))) ?_
   refine w_y (v := .int .i64 (((lastV (gs.map Rd.v) z me) * (mustV P rt a)) - ((lastV (gs.map Rd.v) a me) * (mustV P rt z)))) 14 rfl (wt0 rfl) rfl rfl rfl (by kernel_rfl) (fun _ => x_bin rfl rfl rfl (b_sub (w64 (by omega)))) ?_
   refine w_y 15 rfl (wt0 rfl) rfl rfl rfl (by kernel_rfl) (fun _ => x_assign rfl rfl) ?_
   refine y_done (by kernel_rfl) ?_
   refine g_then ?_
   refine g_weak [(7, .int .i64 (((lastV (gs.map Rd.v) z me) * (mustV P rt a)) - ((lastV (gs.map Rd.v) a me) * (mustV P rt z))))] ⟨rfl, trivial⟩ ?_
   refine g_ret ?_
   refine fin_ret [.tmp 7] [.int .i64 (((lastV (gs.map Rd.v) z me) * (mustV P rt a)) - ((lastV (gs.map Rd.v) a me) * (mustV P rt z)))] rfl ⟨rfl, trivial⟩ ?_
   exact ⟨by unfold tyrC; first | (rw [if_pos (by omega)]; rfl) | (rw [if_neg (by omega)]; rfl), (H19.takes [6, 7, 8, 0, 1, 2, 4, 3, 5, 9] (by decide))⟩
theorem tyr1_c (ug um ut : Nat) (b pg bg : Nat) (cg : Option Nat) (P : Int → Option Int) (hP : ∀ i v, P i = some v → 0 ≤ v ∧ v ≤ 1000000) (g : Nat) (seed : ByteArray) (pp : Option Addr) (pc : Nat) (ps : List Pl) (sp : Option Addr) (sc sn : Nat) (tp : Option Addr) (tc tn : Nat) (vp : Option Addr) (vc vn : Nat) (bp : Option Addr) (bc bn : Nat) (pl gs : List Rd) (gp : Option Addr) (gc : Nat) (hG : GsOK ps.length pl gs) (hgl : gs.length ≤ 200) (hnp : ps.length ≤ 9) (me : Int) (h0m : 0 ≤ me) (pm : Pl) (hm : ps[me.toNat]? = some pm) (rt : Int) (hrt : pm.rt = rt) (hr0 : 0 ≤ rt ∧ rt ≤ 1000000) : Cmps Tryz.prog 172 #[] #[.pointer (some ⟨ug, 0, none⟩), .pointer (some ⟨um, 0, none⟩), .pointer (some ⟨ut, 0, none⟩)] (Big [Ob ug (.cells #[.pointer (some ⟨g, 0, none⟩)] 25 (0, 0)), Ob um (.cells #[.int .i64 me] 3 (0, 0)), Ob ut (.cells #[.pointer (some ⟨b, 0, none⟩)] 75 (0, 0)), Ob b (.cells #[.map (some pg), .map (some bg), .map cg] 79 (0, 0)), Mp (Value.int .i64) (Value.int .i64) okI pg P, Ob g (.cells #[.slice gp gs.length gc, .string seed, .slice pp ps.length pc, .slice sp sn sc, .slice tp tn tc, .slice vp vn vc, .slice bp bn bc] 52 (0, 0)), Rw 29 1 gp gs.length gc (fl rowL gs), Rw 33 2 pp ps.length pc (fl plL ps), (Pool pl)]) (Value.int .i64) (tyrC (gs.map Rd.v) P rt me) (othV ps.length me) := by
  have hf : FunC Tryz.prog 172 #[] #[.pointer (some ⟨ug, 0, none⟩), .pointer (some ⟨um, 0, none⟩), .pointer (some ⟨ut, 0, none⟩)] (Big [Ob ug (.cells #[.pointer (some ⟨g, 0, none⟩)] 25 (0, 0)), Ob um (.cells #[.int .i64 me] 3 (0, 0)), Ob ut (.cells #[.pointer (some ⟨b, 0, none⟩)] 75 (0, 0)), Ob b (.cells #[.map (some pg), .map (some bg), .map cg] 79 (0, 0)), Mp (Value.int .i64) (Value.int .i64) okI pg P, Ob g (.cells #[.slice gp gs.length gc, .string seed, .slice pp ps.length pc, .slice sp sn sc, .slice tp tn tc, .slice vp vn vc, .slice bp bn bc] 52 (0, 0)), Rw 29 1 gp gs.length gc (fl rowL gs), Rw 33 2 pp ps.length pc (fl plL ps), (Pool pl)]) (fun p : Int × Int => [.int .i64 p.1, .int .i64 p.2]) (fun p => .int .i64 (tyrC (gs.map Rd.v) P rt me p.1 p.2)) (fun p => (0 ≤ p.1 ∧ p.1 < (ps.length : Int)) ∧ (0 ≤ p.2 ∧ p.2 < (ps.length : Int))) :=
    FunC.ofBig (by kernel_rfl) fun z hb w HS => tyr1_s ug um ut b pg bg cg P hP g seed pp pc ps sp sc sn tp tc tn vp vc vn bp bc bn pl gs gp gc hG hgl hnp me h0m pm hm rt hrt hr0 _ _ hb.1 hb.2 w HS
  exact ⟨hf.ok, fun x hx y hy w HS => hf.does (x, y) ⟨(othV_mem.1 hx).1, (othV_mem.1 hy).1⟩ w HS⟩
theorem tyrL_len (n : Nat) (G : List (List (List Int))) (P : Int → Option Int) (rt me : Int) : (tyrL n G P rt me).length = (othV n me).length := (stable_perm _ _ _).length_eq
theorem tyrL_at {n : Nat} {G : List (List (List Int))} {P : Int → Option Int} {rt me x : Int} {j : Nat} (h : (tyrL n G P rt me)[j]? = some x) : (0 ≤ x ∧ x < n) ∧ x ≠ me := othV_mem.1 ((stable_perm _ _ _).mem_iff.1 (List.mem_of_getElem? h))
set_option maxRecDepth 20000 in
set_option maxHeartbeats 4000000 in
theorem tyrgives_s (b pg bg : Nat) (cg : Option Nat) (P : Int → Option Int) (hP : ∀ i v, P i = some v → 0 ≤ v ∧ v ≤ 1000000) (g : Nat) (seed : ByteArray) (pp : Option Addr) (pc : Nat) (ps : List Pl) (sp : Option Addr) (sc sn : Nat) (tp : Option Addr) (tc tn : Nat) (vp : Option Addr) (vc vn : Nat) (bp : Option Addr) (bc bn : Nat) (pl gs : List Rd) (gp : Option Addr) (gc : Nat) (hG : GsOK ps.length pl gs) (hgl : gs.length ≤ 200) (hnp : ps.length ≤ 9) (me : Int) (h0m : 0 ≤ me) (pm : Pl) (hm : ps[me.toNat]? = some pm) (rt : Int) (hrt : pm.rt = rt) (hr0 : 0 ≤ rt ∧ rt ≤ 1000000)  (w : World) (HS : S w [Ob b (.cells #[.map (some pg), .map (some bg), .map cg] 79 (0, 0)), Mp (Value.int .i64) (Value.int .i64) okI pg P, Ob g (.cells #[.slice gp gs.length gc, .string seed, .slice pp ps.length pc, .slice sp sn sc, .slice tp tn tc, .slice vp vn vc, .slice bp bn bc] 52 (0, 0)), Rw 29 1 gp gs.length gc (fl rowL gs), Rw 33 2 pp ps.length pc (fl plL ps), (Pool pl)]) : Calls Tryz.prog 167 #[.pointer (some ⟨b, 0, none⟩), .pointer (some ⟨g, 0, none⟩), .int .i64 me] w fun e w' => ∃ p' c' mg, e = .returned (.slice p' (tyrV ps.length rt (gs.map Rd.v) P me).o.length c') ∧ S w' ([Rw 3 1 p' (tyrV ps.length rt (gs.map Rd.v) P me).o.length c' (fl intL (tyrV ps.length rt (gs.map Rd.v) P me).o), Ob b (.cells #[.map (some pg), .map (some bg), .map (some mg)] 79 (0, 0)), intMp pg P, boolMp mg (tyrV ps.length rt (gs.map Rd.v) P me).C, Ob g (.cells #[.slice gp gs.length gc, .string seed, .slice pp ps.length pc, .slice sp sn sc, .slice tp tn tc, .slice vp vn vc, .slice bp bn bc] 52 (0, 0)), Rw 29 1 gp gs.length gc (fl rowL gs), Rw 33 2 pp ps.length pc (fl plL ps), (Pool pl)] ++ [Old w (fps [Ob b (.cells #[.map (some pg), .map (some bg), .map cg] 79 (0, 0)), Mp (Value.int .i64) (Value.int .i64) okI pg P, Ob g (.cells #[.slice gp gs.length gc, .string seed, .slice pp ps.length pc, .slice sp sn sc, .slice tp tn tc, .slice vp vn vc, .slice bp bn bc] 52 (0, 0)), Rw 29 1 gp gs.length gc (fl rowL gs), Rw 33 2 pp ps.length pc (fl plL ps), (Pool pl)])]) := by
 have H0 := HS.beginI
 have hmp := (List.getElem?_eq_some_iff.1 hm).1
 refine enter 67 Tryz.func167 rfl rfl rfl ?_
 refine g_weak [(0, .pointer (some ⟨b, 0, none⟩)), (1, .pointer (some ⟨g, 0, none⟩)), (2, .int .i64 me)] ⟨rfl, rfl, rfl, trivial⟩ ?_
 refine w_s ?_
 refine l_of (s_box H0 (wt0 rfl) rfl rfl rfl rfl ?_)
 intro g1 wq2 H3
 refine l_of (s_box H3 (wt0 rfl) rfl rfl rfl rfl ?_)
 intro g4 wq5 H6
 refine l_of (s_box H6 (wt0 rfl) rfl rfl rfl rfl ?_)
 intro g7 wq8 H9
 refine w_a ?_
 refine w_e ?_
 refine w_s ?_
 refine w_1 H9 1 ?_
 refine w_1 H9 0 ?_
 refine l_of (s_call (wt0 rfl) (x_call' rfl rfl cl49) (others_s g gp gc gs.length seed pp pc ps sp sc sn tp tc tn vp vc vn bp bc bn (by omega) me _ (H9.takes [5] (by decide))) ?_)
 rintro _ wq12 ⟨po10, co11, rfl, H13⟩
 replace H13 : S wq12 [Rw 3 1 po10 ((othV ps.length me).length) co11 (fl intL (othV ps.length me)), Ob g (.cells #[.slice gp gs.length gc, .string seed, .slice pp ps.length pc, .slice sp sn sc, .slice tp tn tc, .slice vp vn vc, .slice bp bn bc] 52 (0, 0)), Ob g7 (.cells #[.int .i64 me] 3 (0, 0)), Ob g4 (.cells #[.pointer (some ⟨g, 0, none⟩)] 25 (0, 0)), Ob g1 (.cells #[.pointer (some ⟨b, 0, none⟩)] 75 (0, 0)), Ob b (.cells #[.map (some pg), .map (some bg), .map cg] 79 (0, 0)), Mp (Value.int .i64) (Value.int .i64) okI pg P, Rw 29 1 gp gs.length gc (fl rowL gs), Rw 33 2 pp ps.length pc (fl plL ps), (Pool pl), Old w (fps [Ob b (.cells #[.map (some pg), .map (some bg), .map cg] 79 (0, 0)), Mp (Value.int .i64) (Value.int .i64) okI pg P, Ob g (.cells #[.slice gp gs.length gc, .string seed, .slice pp ps.length pc, .slice sp sn sc, .slice tp tn tc, .slice vp vn vc, .slice bp bn bc] 52 (0, 0)), Rw 29 1 gp gs.length gc (fl rowL gs), Rw 33 2 pp ps.length pc (fl plL ps), (Pool pl)])] := by have h := H9.absorbI [5] H13; exact h
 have hol := othV_len ps.length me
 refine b_ret rfl rfl ?_
 refine w_a ?_
 refine w_e ?_
 refine w_s ?_
 refine w_m ?_
 refine w_v (v := .func (.func 172) #[] #[.pointer (some ⟨g4, 0, none⟩), .pointer (some ⟨g7, 0, none⟩), .pointer (some ⟨g1, 0, none⟩)]) (x_makeFunc rfl rfl rfl) ?_
 have H14 : S wq12 [(Big [Ob g4 (.cells #[.pointer (some ⟨g, 0, none⟩)] 25 (0, 0)), Ob g7 (.cells #[.int .i64 me] 3 (0, 0)), Ob g1 (.cells #[.pointer (some ⟨b, 0, none⟩)] 75 (0, 0)), Ob b (.cells #[.map (some pg), .map (some bg), .map cg] 79 (0, 0)), Mp (Value.int .i64) (Value.int .i64) okI pg P, Ob g (.cells #[.slice gp gs.length gc, .string seed, .slice pp ps.length pc, .slice sp sn sc, .slice tp tn tc, .slice vp vn vc, .slice bp bn bc] 52 (0, 0)), Rw 29 1 gp gs.length gc (fl rowL gs), Rw 33 2 pp ps.length pc (fl plL ps), (Pool pl)]), Rw 3 1 po10 ((othV ps.length me).length) co11 (fl intL (othV ps.length me)), Old w (fps [Ob b (.cells #[.map (some pg), .map (some bg), .map cg] 79 (0, 0)), Mp (Value.int .i64) (Value.int .i64) okI pg P, Ob g (.cells #[.slice gp gs.length gc, .string seed, .slice pp ps.length pc, .slice sp sn sc, .slice tp tn tc, .slice vp vn vc, .slice bp bn bc] 52 (0, 0)), Rw 29 1 gp gs.length gc (fl rowL gs), Rw 33 2 pp ps.length pc (fl plL ps), (Pool pl)])] := S.big (L := [Ob g4 (.cells #[.pointer (some ⟨g, 0, none⟩)] 25 (0, 0)), Ob g7 (.cells #[.int .i64 me] 3 (0, 0)), Ob g1 (.cells #[.pointer (some ⟨b, 0, none⟩)] 75 (0, 0)), Ob b (.cells #[.map (some pg), .map (some bg), .map cg] 79 (0, 0)), Mp (Value.int .i64) (Value.int .i64) okI pg P, Ob g (.cells #[.slice gp gs.length gc, .string seed, .slice pp ps.length pc, .slice sp sn sc, .slice tp tn tc, .slice vp vn vc, .slice bp bn bc] 52 (0, 0)), Rw 29 1 gp gs.length gc (fl rowL gs), Rw 33 2 pp ps.length pc (fl plL ps), (Pool pl)]) (H13.takes [3, 2, 4, 5, 6, 1, 7, 8, 9, 0, 10] (by decide))
 refine l_of (s_call (wt0 rfl) (x_call' rfl rfl cl171) (sort_i (othV ps.length me) po10 co11 (by omega) (tyrC (gs.map Rd.v) P rt me) 172 #[] #[.pointer (some ⟨g4, 0, none⟩), .pointer (some ⟨g7, 0, none⟩), .pointer (some ⟨g1, 0, none⟩)] (Big [Ob g4 (.cells #[.pointer (some ⟨g, 0, none⟩)] 25 (0, 0)), Ob g7 (.cells #[.int .i64 me] 3 (0, 0)), Ob g1 (.cells #[.pointer (some ⟨b, 0, none⟩)] 75 (0, 0)), Ob b (.cells #[.map (some pg), .map (some bg), .map cg] 79 (0, 0)), Mp (Value.int .i64) (Value.int .i64) okI pg P, Ob g (.cells #[.slice gp gs.length gc, .string seed, .slice pp ps.length pc, .slice sp sn sc, .slice tp tn tc, .slice vp vn vc, .slice bp bn bc] 52 (0, 0)), Rw 29 1 gp gs.length gc (fl rowL gs), Rw 33 2 pp ps.length pc (fl plL ps), (Pool pl)]) (tyr1_c g4 g7 g1 b pg bg cg P hP g seed pp pc ps sp sc sn tp tc tn vp vc vn bp bc bn pl gs gp gc hG hgl hnp me h0m pm hm rt hrt hr0) _ (H14.takes [1, 0] (by decide))) ?_)
 rintro _ wq15 ⟨rfl, H16⟩
 replace H16 : S wq15 [Rw 3 1 po10 ((othV ps.length me).length) co11 (fl intL (tyrL ps.length (gs.map Rd.v) P rt me)), (Big [Ob g4 (.cells #[.pointer (some ⟨g, 0, none⟩)] 25 (0, 0)), Ob g7 (.cells #[.int .i64 me] 3 (0, 0)), Ob g1 (.cells #[.pointer (some ⟨b, 0, none⟩)] 75 (0, 0)), Ob b (.cells #[.map (some pg), .map (some bg), .map cg] 79 (0, 0)), Mp (Value.int .i64) (Value.int .i64) okI pg P, Ob g (.cells #[.slice gp gs.length gc, .string seed, .slice pp ps.length pc, .slice sp sn sc, .slice tp tn tc, .slice vp vn vc, .slice bp bn bc] 52 (0, 0)), Rw 29 1 gp gs.length gc (fl rowL gs), Rw 33 2 pp ps.length pc (fl plL ps), (Pool pl)]), Old w (fps [Ob b (.cells #[.map (some pg), .map (some bg), .map cg] 79 (0, 0)), Mp (Value.int .i64) (Value.int .i64) okI pg P, Ob g (.cells #[.slice gp gs.length gc, .string seed, .slice pp ps.length pc, .slice sp sn sc, .slice tp tn tc, .slice vp vn vc, .slice bp bn bc] 52 (0, 0)), Rw 29 1 gp gs.length gc (fl rowL gs), Rw 33 2 pp ps.length pc (fl plL ps), (Pool pl)])] := by have h := H14.absorbI [1, 0] H16; exact h
 have htl := tyrL_len ps.length (gs.map Rd.v) P rt me
 have H17 : S wq15 [Ob g4 (.cells #[.pointer (some ⟨g, 0, none⟩)] 25 (0, 0)), Ob g7 (.cells #[.int .i64 me] 3 (0, 0)), Ob g1 (.cells #[.pointer (some ⟨b, 0, none⟩)] 75 (0, 0)), Ob b (.cells #[.map (some pg), .map (some bg), .map cg] 79 (0, 0)), Mp (Value.int .i64) (Value.int .i64) okI pg P, Ob g (.cells #[.slice gp gs.length gc, .string seed, .slice pp ps.length pc, .slice sp sn sc, .slice tp tn tc, .slice vp vn vc, .slice bp bn bc] 52 (0, 0)), Rw 29 1 gp gs.length gc (fl rowL gs), Rw 33 2 pp ps.length pc (fl plL ps), (Pool pl), Rw 3 1 po10 ((othV ps.length me).length) co11 (fl intL (tyrL ps.length (gs.map Rd.v) P rt me)), Old w (fps [Ob b (.cells #[.map (some pg), .map (some bg), .map cg] 79 (0, 0)), Mp (Value.int .i64) (Value.int .i64) okI pg P, Ob g (.cells #[.slice gp gs.length gc, .string seed, .slice pp ps.length pc, .slice sp sn sc, .slice tp tn tc, .slice vp vn vc, .slice bp bn bc] 52 (0, 0)), Rw 29 1 gp gs.length gc (fl rowL gs), Rw 33 2 pp ps.length pc (fl plL ps), (Pool pl)])] := S.unbig (H16.takes [1, 0, 2] (by decide))
 refine b_ret rfl rfl ?_
 refine w_e ?_
 refine w_s ?_
 refine w_1 H17 2 ?_
 refine l_of (s_makeMap (α := Bool) (Value.int .i64) Value.bool okI H17 (wt0 rfl) rfl rfl rfl ?_)
 intro mg18 wq19 H20
 refine w_r2 ?_
 refine l_of (w_st #[.map (some pg), .map (some bg), .map (some mg18)] H20 4 ?_)
 intro wq21 H22
 refine w_e ?_
 refine g_weak [(3, .pointer (some ⟨g1, 0, none⟩)), (4, .pointer (some ⟨g4, 0, none⟩)), (5, .pointer (some ⟨g7, 0, none⟩)), (7, .slice po10 ((othV ps.length me).length) co11)] ⟨rfl, rfl, rfl, rfl, trivial⟩ ?_
 refine w_s ?_
 refine w_1 H22 1 ?_
 refine w_r2 ?_
 refine w_1 H22 6 ?_
 refine w_v (v := .int .i64 ((ps.length : Int))) (x_lenl rfl rfl Tryz.underlying22) ?_
 refine l_of (s_make1 ps.length H22 (wt0 rfl) rfl rfl rfl rfl rfl Tryz.underlying34 inf3 rfl (by omega) ?_)
 intro g23 wq24 H25
 replace H25 : S wq24 [Rw 3 1 (some ⟨g23, 0, none⟩ : Option Addr) ps.length ps.length (fl intL (List.replicate ps.length (0 : Int))), Mp (Value.int .i64) Value.bool okI mg18 (fun _ => none), Ob g4 (.cells #[.pointer (some ⟨g, 0, none⟩)] 25 (0, 0)), Ob g7 (.cells #[.int .i64 me] 3 (0, 0)), Ob g1 (.cells #[.pointer (some ⟨b, 0, none⟩)] 75 (0, 0)), Ob b (.cells #[.map (some pg), .map (some bg), .map (some mg18)] 79 (0, 0)), Mp (Value.int .i64) (Value.int .i64) okI pg P, Ob g (.cells #[.slice gp gs.length gc, .string seed, .slice pp ps.length pc, .slice sp sn sc, .slice tp tn tc, .slice vp vn vc, .slice bp bn bc] 52 (0, 0)), Rw 29 1 gp gs.length gc (fl rowL gs), Rw 33 2 pp ps.length pc (fl plL ps), (Pool pl), Rw 3 1 po10 ((othV ps.length me).length) co11 (fl intL (tyrL ps.length (gs.map Rd.v) P rt me)), Old w (fps [Ob b (.cells #[.map (some pg), .map (some bg), .map cg] 79 (0, 0)), Mp (Value.int .i64) (Value.int .i64) okI pg P, Ob g (.cells #[.slice gp gs.length gc, .string seed, .slice pp ps.length pc, .slice sp sn sc, .slice tp tn tc, .slice vp vn vc, .slice bp bn bc] 52 (0, 0)), Rw 29 1 gp gs.length gc (fl rowL gs), Rw 33 2 pp ps.length pc (fl plL ps), (Pool pl)])] := S.obFl (l := (List.replicate ps.length (0 : Int))) intE H25 (k := 0) rfl (by rw [List.length_replicate]) (by unfold maxLen; omega) (zero_fl _)
 refine w_a ?_
 refine w_e ?_
 refine g_seq ?_
 refine g_quiet (by kernel_rfl) (by kernel_rfl) H25 ?_
 refine q_val (v := .pointer (some ⟨g, 0, none⟩)) (wt0 rfl) rfl rfl (fun wx H => x_load1 H 2 rfl rfl Tryz.underlying25 rfl rfl rfl) ?_
 refine q_val (v := .pointer (some ⟨g, 0, none⟩)) (wt0 rfl) rfl rfl (fun wx H => x_nilCheck rfl rfl) ?_
 refine q_val (v := .pointer (some ⟨g, 2, none⟩)) (wt0 rfl) rfl rfl (fun wx H => x_fieldAddr rfl rfl fo52_2 rfl) ?_
 refine q_val (v := .slice pp ps.length pc) (wt0 rfl) rfl rfl (fun wx H => x_load1 H 7 rfl rfl Tryz.underlying22 rfl rfl rfl) ?_
 refine q_val (v := .int .i64 me) (wt0 rfl) rfl rfl (fun wx H => x_load1 H 3 rfl rfl Tryz.underlying3 rfl rfl rfl) ?_
 refine q_val (v := .pointer ((pp).map fun q => q.add (((me).toNat) * 2))) (wt0 rfl) rfl rfl (fun wx H => x_idxP ((me).toNat) ((H25.rwReads (k := 9) rfl).some (by omega)) rfl rfl rfl Tryz.underlying22 sz33 (by omega)) ?_
 refine q_val (v := .pointer ((pp).map fun q => q.add (((me).toNat) * 2 + 1))) (wt0 rfl) rfl rfl (fun wx H => ex_cast (x_fieldAddrG (m := ((me).toNat) * 2) ((H25.rwReads (k := 9) rfl).some (by omega)) rfl rfl fo33_1) rfl) ?_
 have hlq := (H25.rwReads (k := 9) rfl).lenL plE
 obtain ⟨x26, hx26⟩ := ex_at (l := ps) (j := ((me).toNat)) (by omega)
 clear hlq
 have hrx : x26.rt = rt := by rw [show x26 = pm from Option.some.inj (hx26.symm.trans hm)]; exact hrt
 refine q_val (v := .int .i64 rt) (wt0 rfl) rfl rfl (fun wx H => ex_cast (x_loadF1 (i := 1) (j := ((me).toNat)) plE (H.rwReads (k := 9) rfl) hx26 rfl rfl Tryz.underlying3 rfl rfl) (by rw [hrx])) ?_
 refine q_val (v := .int .i64 rt) (wt0 rfl) rfl rfl (fun wx H => x_assign rfl rfl) ?_
 refine q_nil (fun wq27 H28 => ?_)
 refine g_then ?_
 refine g_weak [(3, .pointer (some ⟨g1, 0, none⟩)), (4, .pointer (some ⟨g4, 0, none⟩)), (5, .pointer (some ⟨g7, 0, none⟩)), (7, .slice po10 ((othV ps.length me).length) co11), (8, .slice (some ⟨g23, 0, none⟩ : Option Addr) ps.length ps.length), (9, .int .i64 rt)] ⟨rfl, rfl, rfl, rfl, rfl, rfl, trivial⟩ ?_
 refine g_seq ?_
 refine w_s ?_
 refine w_m ?_
 refine w_v (v := .int .i64 (((othV ps.length me).length : Int))) (x_lenl rfl rfl Tryz.underlying34) ?_
 refine w_m ?_
 refine w_e ?_
 refine g_block ?_
 refine g_loop (ι := Nat × List Int × (Int → Option Bool) × Int) (fun (i, o, C, lf) => [(3, .pointer (some ⟨g1, 0, none⟩)), (4, .pointer (some ⟨g4, 0, none⟩)), (5, .pointer (some ⟨g7, 0, none⟩)), (8, .slice (some ⟨g23, 0, none⟩ : Option Addr) ps.length ps.length), (9, .int .i64 lf), (37, .slice po10 ((othV ps.length me).length) co11), (38, .int .i64 (((othV ps.length me).length : Int))), (39, .int .i64 ((i : Int)))]) (fun (i, o, C, lf) wx => (i ≤ (othV ps.length me).length) ∧ ((⟨o, C, lf, false⟩ : TyR) = tyrF (mustV P rt) ps.length rt ((tyrL ps.length (gs.map Rd.v) P rt me).take i)) ∧ (o.length = ps.length) ∧ (0 ≤ lf ∧ lf ≤ rt) ∧ S wx [Rw 3 1 (some ⟨g23, 0, none⟩ : Option Addr) ps.length ps.length (fl intL o), Rw 3 1 po10 ((othV ps.length me).length) co11 (fl intL (tyrL ps.length (gs.map Rd.v) P rt me)), Ob g1 (.cells #[.pointer (some ⟨b, 0, none⟩)] 75 (0, 0)), Ob g4 (.cells #[.pointer (some ⟨g, 0, none⟩)] 25 (0, 0)), Ob g7 (.cells #[.int .i64 me] 3 (0, 0)), Ob b (.cells #[.map (some pg), .map (some bg), .map (some mg18)] 79 (0, 0)), Mp (Value.int .i64) (Value.int .i64) okI pg P, Mp (Value.int .i64) Value.bool okI mg18 C, Ob g (.cells #[.slice gp gs.length gc, .string seed, .slice pp ps.length pc, .slice sp sn sc, .slice tp tn tc, .slice vp vn vc, .slice bp bn bc] 52 (0, 0)), Rw 29 1 gp gs.length gc (fl rowL gs), Rw 33 2 pp ps.length pc (fl plL ps), (Pool pl), Old w (fps [Ob b (.cells #[.map (some pg), .map (some bg), .map cg] 79 (0, 0)), Mp (Value.int .i64) (Value.int .i64) okI pg P, Ob g (.cells #[.slice gp gs.length gc, .string seed, .slice pp ps.length pc, .slice sp sn sc, .slice tp tn tc, .slice vp vn vc, .slice bp bn bc] 52 (0, 0)), Rw 29 1 gp gs.length gc (fl rowL gs), Rw 33 2 pp ps.length pc (fl plL ps), (Pool pl)])]) (fun (i, o, C, lf) => ((othV ps.length me).length) - i) (0, (List.replicate ps.length (0 : Int)), (fun _ => none), rt) ⟨rfl, rfl, rfl, rfl, rfl, rfl, rfl, rfl, trivial⟩ ⟨Nat.zero_le _, rfl, List.length_replicate, (by omega), (H28.takes [0, 11, 4, 2, 3, 5, 6, 1, 7, 8, 9, 10, 12] (by decide))⟩ ?_
 rintro ⟨i, o, C, lf⟩ wq29 ⟨hi, ho, hol, hlf, H30⟩
 refine g_weak [(3, .pointer (some ⟨g1, 0, none⟩)), (4, .pointer (some ⟨g4, 0, none⟩)), (5, .pointer (some ⟨g7, 0, none⟩)), (8, .slice (some ⟨g23, 0, none⟩ : Option Addr) ps.length ps.length), (9, .int .i64 lf), (37, .slice po10 ((othV ps.length me).length) co11), (38, .int .i64 (((othV ps.length me).length : Int))), (39, .int .i64 ((i : Int)))] ⟨rfl, rfl, rfl, rfl, rfl, rfl, rfl, rfl, trivial⟩ ?_
 refine w_s ?_
 refine w_b ?_
 refine w_e ?_
 refine g_seq ?_
 by_cases hb31 : ((i : Int) : Int) < ((othV ps.length me).length : Int)
 ·
  refine g_cond_t rfl (decide_eq_true hb31) ?_
  refine g_skip ?_
  refine g_then ?_
  refine g_seq ?_
  refine g_block ?_
  refine w_s ?_
  refine w_v (v := .pointer ((po10).map fun q => q.add (i * 1))) (x_idxR i (H30.rwReads (k := 1) rfl) rfl rfl rfl Tryz.underlying34 sz3 (by omega)) ?_
  have hlq := (H30.rwReads (k := 1) rfl).lenL intE
  obtain ⟨x32, hx32⟩ := ex_at (l := (tyrL ps.length (gs.map Rd.v) P rt me)) (j := i) (by omega)
  clear hlq
  have hx9 := tyrL_at hx32
  refine w_v (v := .int .i64 x32) (x_loadR1 i (H30.rwReads (k := 1) rfl) (by omega) rfl rfl Tryz.underlying3 rfl (intE.flAt1 hx32 rfl)) ?_
  refine w_a ?_
  refine w_e ?_
  refine w_s ?_
  refine w_1 H30 2 ?_
  refine w_1 H30 3 ?_
  refine w_1 H30 4 ?_
  refine w_m ?_
  refine l_of (s_call (wt0 rfl) (x_call' rfl rfl cl168) (must_s b pg bg (some mg18) P hP g gp gc gs.length seed pp pc ps sp sc sn tp tc tn vp vc vn bp bc bn me h0m pm hm rt hrt hr0 x32 ⟨by omega, by omega⟩ _ (H30.takes [5, 6, 8, 10] (by decide))) ?_)
  rintro _ wq34 ⟨rfl, H35⟩
  replace H35 : S wq34 [Ob b (.cells #[.map (some pg), .map (some bg), .map (some mg18)] 79 (0, 0)), Mp (Value.int .i64) (Value.int .i64) okI pg P, Ob g (.cells #[.slice gp gs.length gc, .string seed, .slice pp ps.length pc, .slice sp sn sc, .slice tp tn tc, .slice vp vn vc, .slice bp bn bc] 52 (0, 0)), Rw 33 2 pp ps.length pc (fl plL ps), Rw 3 1 (some ⟨g23, 0, none⟩ : Option Addr) ps.length ps.length (fl intL o), Rw 3 1 po10 ((othV ps.length me).length) co11 (fl intL (tyrL ps.length (gs.map Rd.v) P rt me)), Ob g1 (.cells #[.pointer (some ⟨b, 0, none⟩)] 75 (0, 0)), Ob g4 (.cells #[.pointer (some ⟨g, 0, none⟩)] 25 (0, 0)), Ob g7 (.cells #[.int .i64 me] 3 (0, 0)), Mp (Value.int .i64) Value.bool okI mg18 C, Rw 29 1 gp gs.length gc (fl rowL gs), (Pool pl), Old w (fps [Ob b (.cells #[.map (some pg), .map (some bg), .map cg] 79 (0, 0)), Mp (Value.int .i64) (Value.int .i64) okI pg P, Ob g (.cells #[.slice gp gs.length gc, .string seed, .slice pp ps.length pc, .slice sp sn sc, .slice tp tn tc, .slice vp vn vc, .slice bp bn bc] 52 (0, 0)), Rw 29 1 gp gs.length gc (fl rowL gs), Rw 33 2 pp ps.length pc (fl plL ps), (Pool pl)])] := by have h := H30.absorbI [5, 6, 8, 10] H35; exact h
  have hmbq33 := must_bd hP hr0 x32
  refine b_ret rfl rfl ?_
  refine w_a ?_
  refine w_e ?_
  refine g_seq ?_
  refine w_s ?_
  refine w_r2 ?_
  refine w_b ?_
  refine w_e ?_
  by_cases hb36 : (lf : Int) < (mustV P rt x32)
  ·
   refine g_cond_t rfl (decide_eq_true hb36) ?_
   refine g_exit ?_
   refine g_then_exit ?_
   refine g_in_miss rfl ?_
   refine g_then_exit ?_
   refine g_then_exit ?_
   refine g_in_hit ?_
   refine g_then ?_
   refine g_weak [(8, .slice (some ⟨g23, 0, none⟩ : Option Addr) ps.length ps.length)] ⟨rfl, trivial⟩ ?_
   refine w_s ?_
   refine w_r2 ?_
   refine w_e ?_
   refine g_ret ?_
   refine fin_ret [.tmp 6] [.slice (some ⟨g23, 0, none⟩ : Option Addr) ps.length ps.length] rfl ⟨rfl, trivial⟩ ?_
   have hv := tyr_brk hx32 ho rfl hb36
   have hvo : (tyrV ps.length rt (gs.map Rd.v) P me).o = o := by unfold tyrV; rw [hv]
   have hvc : (tyrV ps.length rt (gs.map Rd.v) P me).C = C := by unfold tyrV; rw [hv]
   rw [hvo, hvc, hol]
   exact ⟨_, _, _, rfl, H35.takes [4, 0, 1, 9, 2, 10, 3, 11, 12] (by decide)⟩
  ·
   refine g_cond_f rfl (decide_eq_false hb36) ?_
   refine g_skip ?_
   refine g_then ?_
   refine w_s ?_
   refine w_r2 ?_
   refine w_1 H35 6 ?_
   refine w_r2 ?_
   refine w_1 H35 0 ?_
   refine w_r2 ?_
   refine w_v (v := .pointer (((some ⟨g23, 0, none⟩ : Option Addr)).map fun q => q.add (((x32).toNat) * 1))) (x_idxR ((x32).toNat) (H35.rwReads (k := 4) rfl) rfl rfl rfl Tryz.underlying34 sz3 (by omega)) ?_
   refine l_of (s_stoL (j := ((x32).toNat)) intE (mustV P rt x32) H35 4 (wt0 rfl) rfl rfl rfl rfl rfl rfl sz3 (by omega) ?_)
   intro wq37 H38
   refine l_of (s_mapEntry (x := x32) (z0 := false) (intTy Tryz.underlying77 Tryz.underlying3) H38 9 (wt0 rfl) rfl rfl rfl rfl rfl rfl (⟨by omega, by omega⟩) ze4 ?_)
   intro sm39 wq40 H41
   refine w_v xe ?_
   refine l_of (s_entryStore (x := x32) (a := true) H41 9 (wt0 rfl) rfl rfl rfl rfl rfl rfl (intTy Tryz.underlying77 Tryz.underlying3) ?_)
   intro wq42 H43
   rw [upM_up] at H43
   replace H43 : S wq42 [Ob b (.cells #[.map (some pg), .map (some bg), .map (some mg18)] 79 (0, 0)), Mp (Value.int .i64) (Value.int .i64) okI pg P, Ob g (.cells #[.slice gp gs.length gc, .string seed, .slice pp ps.length pc, .slice sp sn sc, .slice tp tn tc, .slice vp vn vc, .slice bp bn bc] 52 (0, 0)), Rw 33 2 pp ps.length pc (fl plL ps), Rw 3 1 (some ⟨g23, 0, none⟩ : Option Addr) ps.length ps.length (fl intL (o.set ((x32).toNat) (mustV P rt x32))), Rw 3 1 po10 ((othV ps.length me).length) co11 (fl intL (tyrL ps.length (gs.map Rd.v) P rt me)), Ob g1 (.cells #[.pointer (some ⟨b, 0, none⟩)] 75 (0, 0)), Ob g4 (.cells #[.pointer (some ⟨g, 0, none⟩)] 25 (0, 0)), Ob g7 (.cells #[.int .i64 me] 3 (0, 0)), Mp (Value.int .i64) Value.bool okI mg18 (upM C x32 true), Rw 29 1 gp gs.length gc (fl rowL gs), (Pool pl), Old w (fps [Ob b (.cells #[.map (some pg), .map (some bg), .map cg] 79 (0, 0)), Mp (Value.int .i64) (Value.int .i64) okI pg P, Ob g (.cells #[.slice gp gs.length gc, .string seed, .slice pp ps.length pc, .slice sp sn sc, .slice tp tn tc, .slice vp vn vc, .slice bp bn bc] 52 (0, 0)), Rw 29 1 gp gs.length gc (fl rowL gs), Rw 33 2 pp ps.length pc (fl plL ps), (Pool pl)])] := H43
   refine w_e ?_
   refine g_weak [(3, .pointer (some ⟨g1, 0, none⟩)), (4, .pointer (some ⟨g4, 0, none⟩)), (5, .pointer (some ⟨g7, 0, none⟩)), (8, .slice (some ⟨g23, 0, none⟩ : Option Addr) ps.length ps.length), (9, .int .i64 lf), (12, .int .i64 ((mustV P rt x32))), (37, .slice po10 ((othV ps.length me).length) co11), (38, .int .i64 (((othV ps.length me).length : Int))), (39, .int .i64 ((i : Int)))] ⟨rfl, rfl, rfl, rfl, rfl, rfl, rfl, rfl, rfl, trivial⟩ ?_
   refine g_region ?_
   refine w_r2 ?_
   refine w_b (v := .int .i64 (lf - (mustV P rt x32))) (hb := (b_sub (w64 (by omega)))) ?_
   refine w_a ?_
   refine g_nil ?_
   refine g_in ?_
   refine g_then ?_
   refine g_region ?_
   refine w_b (v := .int .i64 (((i + 1 : Nat) : Int))) (hb := (b_add (by rw [w64 (by omega)]; omega))) ?_
   refine w_m ?_
   refine w_e ?_
   refine g_round (i := (i, o, C, lf)) ((i + 1), (o.set x32.toNat (mustV P rt x32)), (upM C x32 true), (lf - mustV P rt x32)) ?_ ?_ ?_
   · exact ⟨rfl, rfl, rfl, rfl, rfl, rfl, rfl, rfl, trivial⟩
   · exact ⟨by omega, (by rw [take_snocT hx32, tyrF_snoc, ← ho]; unfold tyrS; rw [if_neg Bool.false_ne_true, if_neg hb36]), (by rw [List.length_set]; exact hol), (by omega), (H43.takes [4, 5, 6, 7, 8, 0, 1, 9, 2, 10, 3, 11, 12] (by decide))⟩
   · (try dsimp only); omega
 ·
  refine g_cond_f rfl (decide_eq_false hb31) ?_
  refine g_exit ?_
  refine g_then_exit ?_
  refine g_then_exit ?_
  refine g_in_hit ?_
  refine g_then ?_
  refine w_s ?_
  refine w_r2 ?_
  refine w_e ?_
  refine g_ret ?_
  refine fin_ret [.tmp 6] [.slice (some ⟨g23, 0, none⟩ : Option Addr) ps.length ps.length] rfl ⟨rfl, trivial⟩ ?_
  rw [List.take_of_length_le (by omega)] at ho
  have hvo : (tyrV ps.length rt (gs.map Rd.v) P me).o = o := by unfold tyrV; rw [← ho]
  have hvc : (tyrV ps.length rt (gs.map Rd.v) P me).C = C := by unfold tyrV; rw [← ho]
  rw [hvo, hvc, hol]
  exact ⟨_, _, _, rfl, H30.takes [0, 5, 6, 7, 8, 9, 10, 11, 12] (by decide)⟩
end Go.Proofs.YtpbjekdjebjbkaaGreat
