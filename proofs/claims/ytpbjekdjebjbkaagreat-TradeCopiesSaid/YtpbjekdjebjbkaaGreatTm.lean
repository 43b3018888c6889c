import Derived.Test.YtpbjekdjebjbkaaGreatFk
import Derived.Test.YtpbjekdjebjbkaaGreatTl
set_option linter.unusedSimpArgs false
set_option linter.unusedVariables false
namespace Go.Proofs.YtpbjekdjebjbkaaGreat
open Go.RowKit

theorem fo79_1 : foO Tryz.prog 79 1 = some 1 := by kernel_rfl
/-- What a tyrant notes of one. -/
def behS (C : Int → Option Bool) (f : Int → Int) (rt : Int) (s : (Int → Option Int) × (Int → Option Int)) (i : Int) : (Int → Option Int) × (Int → Option Int) :=
  if (C i).getD false = false then (upM s.1 i (mustV s.1 rt i), upM s.2 i 0)
  else if 0 < f i then (upM s.1 i (if 3 ≤ (s.2 i).getD 0 + 1 then mustV s.1 rt i - mustV s.1 rt i / 10 else mustV s.1 rt i), upM s.2 i ((s.2 i).getD 0 + 1))
  else (upM s.1 i (min (mustV s.1 rt i + max (mustV s.1 rt i / 5) 1) rt), upM s.2 i 0)
def behF (C : Int → Option Bool) (f : Int → Int) (rt : Int) (l : List Int) (s : (Int → Option Int) × (Int → Option Int)) : (Int → Option Int) × (Int → Option Int) := l.foldl (behS C f rt) s
theorem behF_snoc (C : Int → Option Bool) (f : Int → Int) (rt : Int) (l : List Int) (x : Int) (s : (Int → Option Int) × (Int → Option Int)) : behF C f rt (l ++ [x]) s = behS C f rt (behF C f rt l s) x := by
  unfold behF
  rw [List.foldl_append]; rfl
theorem upM_self {M : Int → Option Int} {x a : Int} : upM M x a x = some a := if_pos rfl
theorem upM_bd {M : Int → Option Int} {x a lo hi : Int} (h : ∀ j v, M j = some v → lo ≤ v ∧ v ≤ hi) (ha : lo ≤ a ∧ a ≤ hi) : ∀ j v, upM M x a j = some v → lo ≤ v ∧ v ≤ hi := fun j v hv => by
  unfold upM at hv
  split at hv
  · cases hv; exact ha
  · exact h j v hv
theorem getD_bd {M : Int → Option Int} {hi : Int} (h : ∀ j v, M j = some v → 0 ≤ v ∧ v ≤ hi) (h0 : 0 ≤ hi) (x : Int) : 0 ≤ (M x).getD 0 ∧ (M x).getD 0 ≤ hi := by
  cases e : M x with
  | none => exact ⟨Int.le_refl _, h0⟩
  | some v => exact h x v e
theorem bd_up {M : Int → Option Int} {lo hi hj : Int} (h : ∀ j v, M j = some v → lo ≤ v ∧ v ≤ hi) (hh : hi ≤ hj) : ∀ j v, M j = some v → lo ≤ v ∧ v ≤ hj := fun j v hv => ⟨(h j v hv).1, Int.le_trans (h j v hv).2 hh⟩
theorem behS_bd {C : Int → Option Bool} {f : Int → Int} {rt K : Int} {s : (Int → Option Int) × (Int → Option Int)} {x : Int} (hr : 0 ≤ rt ∧ rt ≤ 1000000) (hK : 0 ≤ K) (hP : ∀ j v, s.1 j = some v → 0 ≤ v ∧ v ≤ 1000000) (hB : ∀ j v, s.2 j = some v → 0 ≤ v ∧ v ≤ K) :
    (∀ j v, (behS C f rt s x).1 j = some v → 0 ≤ v ∧ v ≤ 1000000) ∧ ∀ j v, (behS C f rt s x).2 j = some v → 0 ≤ v ∧ v ≤ K + 1 := by
  have h1 := must_bd hP hr x
  have h2 := getD_bd hB hK x
  unfold behS
  split
  · exact ⟨upM_bd hP h1, upM_bd (bd_up hB (by omega)) (by omega)⟩
  split
  · refine ⟨upM_bd hP ?_, upM_bd (bd_up hB (by omega)) (by omega)⟩
    split <;> omega
  · exact ⟨upM_bd hP (by omega), upM_bd (bd_up hB (by omega)) (by omega)⟩
theorem behF_bd {C : Int → Option Bool} {f : Int → Int} {rt : Int} (hr : 0 ≤ rt ∧ rt ≤ 1000000) : ∀ (l : List Int) {K : Int} {s : (Int → Option Int) × (Int → Option Int)}, 0 ≤ K → (∀ j v, s.1 j = some v → 0 ≤ v ∧ v ≤ 1000000) → (∀ j v, s.2 j = some v → 0 ≤ v ∧ v ≤ K) →
    (∀ j v, (behF C f rt l s).1 j = some v → 0 ≤ v ∧ v ≤ 1000000) ∧ ∀ j v, (behF C f rt l s).2 j = some v → 0 ≤ v ∧ v ≤ K + l.length
  | [], K, s, _, hP, hB => ⟨hP, by simpa [behF] using hB⟩
  | a :: l, K, s, hK, hP, hB => by
    have h1 := behS_bd (C := C) (f := f) (x := a) hr hK hP hB
    have h2 := behF_bd (C := C) (f := f) hr l (K := K + 1) (s := behS C f rt s a) (by omega) h1.1 h1.2
    exact ⟨h2.1, bd_up h2.2 (by rw [List.length_cons]; omega)⟩
set_option maxRecDepth 20000 in
set_option maxHeartbeats 4000000 in
theorem behind_s (b pg bg cg : Nat) (P B : Int → Option Int) (C : Int → Option Bool) (hP : ∀ i v, P i = some v → 0 ≤ v ∧ v ≤ 1000000) (Kb : Int) (hK : 0 ≤ Kb ∧ Kb ≤ 1000000) (hB : ∀ i v, B i = some v → 0 ≤ v ∧ v ≤ Kb) (g : Nat) (seed : ByteArray) (pp : Option Addr) (pc : Nat) (ps : List Pl) (sp : Option Addr) (sc sn : Nat) (tp : Option Addr) (tc tn : Nat) (vp : Option Addr) (vc vn : Nat) (bp : Option Addr) (bc bn : Nat) (pl gs : List Rd) (gp : Option Addr) (gc : Nat) (hG : GsOK ps.length pl gs) (hgl : gs.length ≤ 200) (hnp : ps.length ≤ 9) (me : Int) (h0m : 0 ≤ me) (pm : Pl) (hm : ps[me.toNat]? = some pm) (rt : Int) (hrt : pm.rt = rt) (hr0 : 0 ≤ rt ∧ rt ≤ 1000000)  (w : World) (HS : S w [Ob b (.cells #[.map (some pg), .map (some bg), .map (some cg)] 79 (0, 0)), Mp (Value.int .i64) (Value.int .i64) okI pg P, Mp (Value.int .i64) (Value.int .i64) okI bg B, Mp (Value.int .i64) Value.bool okI cg C, Ob g (.cells #[.slice gp gs.length gc, .string seed, .slice pp ps.length pc, .slice sp sn sc, .slice tp tn tc, .slice vp vn vc, .slice bp bn bc] 52 (0, 0)), Rw 29 1 gp gs.length gc (fl rowL gs), Rw 33 2 pp ps.length pc (fl plL ps), (Pool pl)]) : Calls Tryz.prog 165 #[.pointer (some ⟨b, 0, none⟩), .pointer (some ⟨g, 0, none⟩), .int .i64 me] w fun e w' => e = .returned (.tuple #[]) ∧ S w' ([Ob b (.cells #[.map (some pg), .map (some bg), .map (some cg)] 79 (0, 0)), intMp pg (behF C (fun i => lastV (gs.map Rd.v) i me) rt (othV ps.length me) (P, B)).1, intMp bg (behF C (fun i => lastV (gs.map Rd.v) i me) rt (othV ps.length me) (P, B)).2, boolMp cg C, Ob g (.cells #[.slice gp gs.length gc, .string seed, .slice pp ps.length pc, .slice sp sn sc, .slice tp tn tc, .slice vp vn vc, .slice bp bn bc] 52 (0, 0)), Rw 29 1 gp gs.length gc (fl rowL gs), Rw 33 2 pp ps.length pc (fl plL ps), (Pool pl)] ++ [Old w (fps [Ob b (.cells #[.map (some pg), .map (some bg), .map (some cg)] 79 (0, 0)), Mp (Value.int .i64) (Value.int .i64) okI pg P, Mp (Value.int .i64) (Value.int .i64) okI bg B, Mp (Value.int .i64) Value.bool okI cg C, Ob g (.cells #[.slice gp gs.length gc, .string seed, .slice pp ps.length pc, .slice sp sn sc, .slice tp tn tc, .slice vp vn vc, .slice bp bn bc] 52 (0, 0)), Rw 29 1 gp gs.length gc (fl rowL gs), Rw 33 2 pp ps.length pc (fl plL ps), (Pool pl)])]) := by
 have H0 := HS.beginI
 have hmp := (List.getElem?_eq_some_iff.1 hm).1
 refine enter 88 Tryz.func165 rfl rfl rfl ?_
 refine g_weak [(0, .pointer (some ⟨b, 0, none⟩)), (1, .pointer (some ⟨g, 0, none⟩)), (2, .int .i64 me)] ⟨rfl, rfl, rfl, trivial⟩ ?_
 refine w_s ?_
 refine w_r2 ?_
 refine l_of (s_call (wt0 rfl) (x_call' rfl rfl cl49) (others_s g gp gc gs.length seed pp pc ps sp sc sn tp tc tn vp vc vn bp bc bn (by omega) me _ (H0.takes [4] (by decide))) ?_)
 rintro _ wq3 ⟨po1, co2, rfl, H4⟩
 replace H4 : S wq3 [Rw 3 1 po1 ((othV ps.length me).length) co2 (fl intL (othV ps.length me)), Ob g (.cells #[.slice gp gs.length gc, .string seed, .slice pp ps.length pc, .slice sp sn sc, .slice tp tn tc, .slice vp vn vc, .slice bp bn bc] 52 (0, 0)), Ob b (.cells #[.map (some pg), .map (some bg), .map (some cg)] 79 (0, 0)), Mp (Value.int .i64) (Value.int .i64) okI pg P, Mp (Value.int .i64) (Value.int .i64) okI bg B, Mp (Value.int .i64) Value.bool okI cg C, Rw 29 1 gp gs.length gc (fl rowL gs), Rw 33 2 pp ps.length pc (fl plL ps), (Pool pl), Old w (fps [Ob b (.cells #[.map (some pg), .map (some bg), .map (some cg)] 79 (0, 0)), Mp (Value.int .i64) (Value.int .i64) okI pg P, Mp (Value.int .i64) (Value.int .i64) okI bg B, Mp (Value.int .i64) Value.bool okI cg C, Ob g (.cells #[.slice gp gs.length gc, .string seed, .slice pp ps.length pc, .slice sp sn sc, .slice tp tn tc, .slice vp vn vc, .slice bp bn bc] 52 (0, 0)), Rw 29 1 gp gs.length gc (fl rowL gs), Rw 33 2 pp ps.length pc (fl plL ps), (Pool pl)])] := by have h := H0.absorbI [4] H4; exact h
 have hol := othV_len ps.length me
 refine b_ret rfl rfl ?_
 refine w_v (v := .int .i64 (((othV ps.length me).length : Int))) (x_lenl rfl rfl Tryz.underlying34) ?_
 refine w_m ?_
 refine w_e ?_
 refine g_block ?_
 refine g_loop (ι := Nat × (Int → Option Int) × (Int → Option Int)) (fun (i, P1, B1) => [(0, .pointer (some ⟨b, 0, none⟩)), (1, .pointer (some ⟨g, 0, none⟩)), (2, .int .i64 me), (11, .slice po1 ((othV ps.length me).length) co2), (12, .int .i64 (((othV ps.length me).length : Int))), (13, .int .i64 ((i : Int)))]) (fun (i, P1, B1) wx => (i ≤ (othV ps.length me).length) ∧ ((P1, B1) = behF C (fun i => lastV (gs.map Rd.v) i me) rt ((othV ps.length me).take i) (P, B)) ∧ (∀ j v, P1 j = some v → 0 ≤ v ∧ v ≤ 1000000) ∧ (∀ j v, B1 j = some v → 0 ≤ v ∧ v ≤ Kb + i) ∧ S wx [Rw 3 1 po1 ((othV ps.length me).length) co2 (fl intL (othV ps.length me)), Ob b (.cells #[.map (some pg), .map (some bg), .map (some cg)] 79 (0, 0)), Mp (Value.int .i64) (Value.int .i64) okI pg P1, Mp (Value.int .i64) (Value.int .i64) okI bg B1, Mp (Value.int .i64) Value.bool okI cg C, Ob g (.cells #[.slice gp gs.length gc, .string seed, .slice pp ps.length pc, .slice sp sn sc, .slice tp tn tc, .slice vp vn vc, .slice bp bn bc] 52 (0, 0)), Rw 29 1 gp gs.length gc (fl rowL gs), Rw 33 2 pp ps.length pc (fl plL ps), (Pool pl), Old w (fps [Ob b (.cells #[.map (some pg), .map (some bg), .map (some cg)] 79 (0, 0)), Mp (Value.int .i64) (Value.int .i64) okI pg P, Mp (Value.int .i64) (Value.int .i64) okI bg B, Mp (Value.int .i64) Value.bool okI cg C, Ob g (.cells #[.slice gp gs.length gc, .string seed, .slice pp ps.length pc, .slice sp sn sc, .slice tp tn tc, .slice vp vn vc, .slice bp bn bc] 52 (0, 0)), Rw 29 1 gp gs.length gc (fl rowL gs), Rw 33 2 pp ps.length pc (fl plL ps), (Pool pl)])]) (fun (i, P1, B1) => ((othV ps.length me).length) - i) (0, P, B) ⟨rfl, rfl, rfl, rfl, rfl, rfl, trivial⟩ ⟨Nat.zero_le _, rfl, hP, (by simpa using hB), (H4.takes [0, 2, 3, 4, 5, 1, 6, 7, 8, 9] (by decide))⟩ ?_
 rintro ⟨i, P1, B1⟩ wq5 ⟨hi, hPB, hPb, hBb, H6⟩
 refine g_weak [(0, .pointer (some ⟨b, 0, none⟩)), (1, .pointer (some ⟨g, 0, none⟩)), (2, .int .i64 me), (11, .slice po1 ((othV ps.length me).length) co2), (12, .int .i64 (((othV ps.length me).length : Int))), (13, .int .i64 ((i : Int)))] ⟨rfl, rfl, rfl, rfl, rfl, rfl, trivial⟩ ?_
 refine w_s ?_
 refine w_b ?_
 refine w_e ?_
 refine g_seq ?_
 by_cases hb7 : ((i : Int) : Int) < ((othV ps.length me).length : Int)
 ·
  refine g_cond_t rfl (decide_eq_true hb7) ?_
  refine g_skip ?_
  refine g_then ?_
  refine g_seq ?_
  refine g_block ?_
  refine w_s ?_
  refine w_v (v := .pointer ((po1).map fun q => q.add (i * 1))) (x_idxR i (H6.rwReads (k := 0) rfl) rfl rfl rfl Tryz.underlying34 sz3 (by omega)) ?_
  have hlq := (H6.rwReads (k := 0) rfl).lenL intE
  obtain ⟨x8, hx8⟩ := ex_at (l := (othV ps.length me)) (j := i) (by omega)
  clear hlq
  have hx9 := othV_at hx8
  have hbx := getD_bd hBb (by omega) x8
  refine w_v (v := .int .i64 x8) (x_loadR1 i (H6.rwReads (k := 0) rfl) (by omega) rfl rfl Tryz.underlying3 rfl (intE.flAt1 hx8 rfl)) ?_
  refine w_a ?_
  refine w_e ?_
  refine w_s ?_
  refine w_r4 ?_
  refine l_of (s_call (wt0 rfl) (x_call' rfl rfl cl168) (must_s b pg bg (some cg) P1 hPb g gp gc gs.length seed pp pc ps sp sc sn tp tc tn vp vc vn bp bc bn me h0m pm hm rt hrt hr0 x8 ⟨by omega, by omega⟩ _ (H6.takes [1, 2, 5, 7] (by decide))) ?_)
  rintro _ wq10 ⟨rfl, H11⟩
  replace H11 : S wq10 [Ob b (.cells #[.map (some pg), .map (some bg), .map (some cg)] 79 (0, 0)), Mp (Value.int .i64) (Value.int .i64) okI pg P1, Ob g (.cells #[.slice gp gs.length gc, .string seed, .slice pp ps.length pc, .slice sp sn sc, .slice tp tn tc, .slice vp vn vc, .slice bp bn bc] 52 (0, 0)), Rw 33 2 pp ps.length pc (fl plL ps), Rw 3 1 po1 ((othV ps.length me).length) co2 (fl intL (othV ps.length me)), Mp (Value.int .i64) (Value.int .i64) okI bg B1, Mp (Value.int .i64) Value.bool okI cg C, Rw 29 1 gp gs.length gc (fl rowL gs), (Pool pl), Old w (fps [Ob b (.cells #[.map (some pg), .map (some bg), .map (some cg)] 79 (0, 0)), Mp (Value.int .i64) (Value.int .i64) okI pg P, Mp (Value.int .i64) (Value.int .i64) okI bg B, Mp (Value.int .i64) Value.bool okI cg C, Ob g (.cells #[.slice gp gs.length gc, .string seed, .slice pp ps.length pc, .slice sp sn sc, .slice tp tn tc, .slice vp vn vc, .slice bp bn bc] 52 (0, 0)), Rw 29 1 gp gs.length gc (fl rowL gs), Rw 33 2 pp ps.length pc (fl plL ps), (Pool pl)])] := by have h := H6.absorbI [1, 2, 5, 7] H11; exact h
  have hmbq9 := must_bd hPb hr0 x8
  refine b_ret rfl rfl ?_
  refine w_a ?_
  refine w_e ?_
  refine g_seq ?_
  refine g_block ?_
  refine w_s ?_
  refine w_r3 ?_
  refine w_1 H11 0 ?_
  refine w_m ?_
  refine w_v (v := .bool (((C x8).getD false))) (ex_cast (x_lookup1 (x := x8) (intTy Tryz.underlying77 Tryz.underlying3) H11 6 rfl rfl rfl rfl (⟨by omega, by omega⟩) ze4) (look_B _)) ?_
  refine w_v (v := .bool (!(((C x8).getD false)))) (x_not (b := ((C x8).getD false)) rfl rfl) ?_
  refine w_a ?_
  refine w_e ?_
  refine g_weak [(0, .pointer (some ⟨b, 0, none⟩)), (1, .pointer (some ⟨g, 0, none⟩)), (2, .int .i64 me), (7, .int .i64 x8), (8, .int .i64 ((mustV P1 rt x8))), (11, .slice po1 ((othV ps.length me).length) co2), (12, .int .i64 (((othV ps.length me).length : Int))), (13, .int .i64 ((i : Int))), (41, .bool (!(((C x8).getD false))))] ⟨rfl, rfl, rfl, rfl, rfl, rfl, rfl, rfl, rfl, trivial⟩ ?_
  rcases Bool.eq_false_or_eq_true (((C x8).getD false)) with hb12 | hb12
  ·
   refine g_cond_f rfl (neg_of hb12) ?_
   refine w_s ?_
   refine w_r3 ?_
   refine w_v (v := .agg #[.slice gp gs.length gc]) (x_loadA H11 2 rfl rfl Tryz.underlying49 rfl sz49 rfl rfl rfl) ?_
   refine w_r2 ?_
   refine l_of (s_call (wt0 rfl) (x_call' rfl rfl cl45) (tlast_s ps.length pl gs gp gc hnp hG hgl x8 me hx9.1 ⟨h0m, by omega⟩ _ (H11.takes [7, 8] (by decide))) ?_)
   rintro _ wq14 ⟨rfl, H15⟩
   replace H15 : S wq14 [Rw 29 1 gp gs.length gc (fl rowL gs), (Pool pl), Ob b (.cells #[.map (some pg), .map (some bg), .map (some cg)] 79 (0, 0)), Mp (Value.int .i64) (Value.int .i64) okI pg P1, Ob g (.cells #[.slice gp gs.length gc, .string seed, .slice pp ps.length pc, .slice sp sn sc, .slice tp tn tc, .slice vp vn vc, .slice bp bn bc] 52 (0, 0)), Rw 33 2 pp ps.length pc (fl plL ps), Rw 3 1 po1 ((othV ps.length me).length) co2 (fl intL (othV ps.length me)), Mp (Value.int .i64) (Value.int .i64) okI bg B1, Mp (Value.int .i64) Value.bool okI cg C, Old w (fps [Ob b (.cells #[.map (some pg), .map (some bg), .map (some cg)] 79 (0, 0)), Mp (Value.int .i64) (Value.int .i64) okI pg P, Mp (Value.int .i64) (Value.int .i64) okI bg B, Mp (Value.int .i64) Value.bool okI cg C, Ob g (.cells #[.slice gp gs.length gc, .string seed, .slice pp ps.length pc, .slice sp sn sc, .slice tp tn tc, .slice vp vn vc, .slice bp bn bc] 52 (0, 0)), Rw 29 1 gp gs.length gc (fl rowL gs), Rw 33 2 pp ps.length pc (fl plL ps), (Pool pl)])] := by have h := H11.absorbI [7, 8] H15; exact h
   have hlbq13 := lastV_bd hG x8 me
   refine b_ret rfl rfl ?_
   refine w_b ?_
   refine w_a ?_
   refine w_e ?_
   by_cases hb16 : (0 : Int) < (lastV (gs.map Rd.v) x8 me)
   ·
    refine g_cond_t rfl (decide_eq_true hb16) ?_
    refine w_s ?_
    refine w_r3 ?_
    refine w_1 H15 2 ?_
    refine w_m ?_
    refine w_v (v := .int .i64 (((B1 x8).getD 0))) (ex_cast (x_lookup1 (x := x8) (intTy Tryz.underlying76 Tryz.underlying3) H15 7 rfl rfl rfl rfl (⟨by omega, by omega⟩) ze3) (look_I _)) ?_
    refine w_b (v := .int .i64 (((B1 x8).getD 0) + 1)) (hb := (b_add (w64 (by omega)))) ?_
    refine l_of (s_mapUpdate (x := x8) (a := ((B1 x8).getD 0) + 1) (intTy Tryz.underlying76 Tryz.underlying3) H15 7 (wt0 rfl) rfl rfl rfl rfl rfl rfl (⟨by omega, by omega⟩) ?_)
    intro wq17 H18
    refine w_e ?_
    refine g_weak [(0, .pointer (some ⟨b, 0, none⟩)), (1, .pointer (some ⟨g, 0, none⟩)), (2, .int .i64 me), (7, .int .i64 x8), (8, .int .i64 ((mustV P1 rt x8))), (11, .slice po1 ((othV ps.length me).length) co2), (12, .int .i64 (((othV ps.length me).length : Int))), (13, .int .i64 ((i : Int)))] ⟨rfl, rfl, rfl, rfl, rfl, rfl, rfl, rfl, trivial⟩ ?_
    refine w_s ?_
    refine w_r3 ?_
    refine w_1 H18 2 ?_
    refine w_m ?_
    refine w_v (v := .int .i64 (((B1 x8).getD 0 + 1))) (ex_cast (x_lookup1 (x := x8) (intTy Tryz.underlying76 Tryz.underlying3) H18 7 rfl rfl rfl rfl (⟨by omega, by omega⟩) ze3) (by rw [look_I, upM_self]; rfl)) ?_
    refine w_b ?_
    refine w_e ?_
    by_cases hb19 : (3 : Int) ≤ ((B1 x8).getD 0 + 1)
    ·
     refine g_cond_t rfl (decide_eq_true hb19) ?_
     refine g_region ?_
     refine w_r2 ?_
     refine w_b (v := .int .i64 ((mustV P1 rt x8) / 10)) (hb := (b_quo (by omega) (quo64 (by omega)))) ?_
     refine w_b (v := .int .i64 ((mustV P1 rt x8) - ((mustV P1 rt x8) / 10))) (hb := (b_sub (w64 (by omega)))) ?_
     refine w_a ?_
     refine g_nil ?_
     refine g_in ?_
     refine g_then ?_
     refine g_region ?_
     refine w_r3 ?_
     refine w_1 H18 2 ?_
     refine w_r2 ?_
     refine l_of (s_mapUpdate (x := x8) (a := (mustV P1 rt x8) - ((mustV P1 rt x8) / 10)) (intTy Tryz.underlying76 Tryz.underlying3) H18 3 (wt0 rfl) rfl rfl rfl rfl rfl rfl (⟨by omega, by omega⟩) ?_)
     intro wq20 H21
     refine g_nil ?_
     refine g_in ?_
     refine g_then ?_
     refine g_weak [(0, .pointer (some ⟨b, 0, none⟩)), (1, .pointer (some ⟨g, 0, none⟩)), (2, .int .i64 me), (11, .slice po1 ((othV ps.length me).length) co2), (12, .int .i64 (((othV ps.length me).length : Int))), (13, .int .i64 ((i : Int)))] ⟨rfl, rfl, rfl, rfl, rfl, rfl, trivial⟩ ?_
     refine g_region ?_
     refine w_b (v := .int .i64 (((i + 1 : Nat) : Int))) (hb := (b_add (by rw [w64 (by omega)]; omega))) ?_
     refine w_m ?_
     refine w_e ?_
     refine g_round (i := (i, P1, B1)) ((i + 1), (upM P1 x8 ((mustV P1 rt x8) - ((mustV P1 rt x8) / 10))), (upM B1 x8 (((B1 x8).getD 0) + 1))) ?_ ?_ ?_
     · exact ⟨rfl, rfl, rfl, rfl, rfl, rfl, trivial⟩
     · exact ⟨by omega, (by rw [take_snocT hx8, behF_snoc, ← hPB]; unfold behS; dsimp only; (first | rw [if_pos hb12] | rw [if_neg hb12] | rw [if_neg (by rw [hb12]; decide)]); (first | rw [if_pos hb16] | rw [if_neg hb16] | rw [if_neg (by rw [hb16]; decide)]); (first | rw [if_pos hb19] | rw [if_neg hb19] | rw [if_neg (by rw [hb19]; decide)])), (upM_bd hPb (by omega)), (upM_bd (bd_up hBb (by omega)) (by omega)), (H21.takes [6, 2, 3, 7, 8, 4, 0, 5, 1, 9] (by decide))⟩
     · (try dsimp only); omega
    ·
     refine g_cond_f rfl (decide_eq_false hb19) ?_
     refine g_skip ?_
     refine g_in ?_
     refine g_then ?_
     refine g_region ?_
     refine w_r3 ?_
     refine w_1 H18 2 ?_
     refine w_r2 ?_
     refine l_of (s_mapUpdate (x := x8) (a := (mustV P1 rt x8)) (intTy Tryz.underlying76 Tryz.underlying3) H18 3 (wt0 rfl) rfl rfl rfl rfl rfl rfl (⟨by omega, by omega⟩) ?_)
     intro wq22 H23
     refine g_nil ?_
     refine g_in ?_
     refine g_then ?_
     refine g_weak [(0, .pointer (some ⟨b, 0, none⟩)), (1, .pointer (some ⟨g, 0, none⟩)), (2, .int .i64 me), (11, .slice po1 ((othV ps.length me).length) co2), (12, .int .i64 (((othV ps.length me).length : Int))), (13, .int .i64 ((i : Int)))] ⟨rfl, rfl, rfl, rfl, rfl, rfl, trivial⟩ ?_
     refine g_region ?_
     refine w_b (v := .int .i64 (((i + 1 : Nat) : Int))) (hb := (b_add (by rw [w64 (by omega)]; omega))) ?_
     refine w_m ?_
     refine w_e ?_
     refine g_round (i := (i, P1, B1)) ((i + 1), (upM P1 x8 (mustV P1 rt x8)), (upM B1 x8 (((B1 x8).getD 0) + 1))) ?_ ?_ ?_
     · exact ⟨rfl, rfl, rfl, rfl, rfl, rfl, trivial⟩
     · exact ⟨by omega, (by rw [take_snocT hx8, behF_snoc, ← hPB]; unfold behS; dsimp only; (first | rw [if_pos hb12] | rw [if_neg hb12] | rw [if_neg (by rw [hb12]; decide)]); (first | rw [if_pos hb16] | rw [if_neg hb16] | rw [if_neg (by rw [hb16]; decide)]); (first | rw [if_pos hb19] | rw [if_neg hb19] | rw [if_neg (by rw [hb19]; decide)])), (upM_bd hPb (by omega)), (upM_bd (bd_up hBb (by omega)) (by omega)), (H23.takes [6, 2, 3, 7, 8, 4, 0, 5, 1, 9] (by decide))⟩
     · (try dsimp only); omega
   ·
    refine g_cond_f rfl (decide_eq_false hb16) ?_
    refine w_s ?_
    refine w_r3 ?_
    refine w_1 H15 2 ?_
    refine w_m ?_
    refine l_of (s_mapUpdate (x := x8) (a := 0) (intTy Tryz.underlying76 Tryz.underlying3) H15 7 (wt0 rfl) rfl rfl rfl rfl rfl rfl (⟨by omega, by omega⟩) ?_)
    intro wq24 H25
    refine w_e ?_
    refine g_weak [(0, .pointer (some ⟨b, 0, none⟩)), (1, .pointer (some ⟨g, 0, none⟩)), (2, .int .i64 me), (7, .int .i64 x8), (8, .int .i64 ((mustV P1 rt x8))), (11, .slice po1 ((othV ps.length me).length) co2), (12, .int .i64 (((othV ps.length me).length : Int))), (13, .int .i64 ((i : Int)))] ⟨rfl, rfl, rfl, rfl, rfl, rfl, rfl, rfl, trivial⟩ ?_
    refine g_region ?_
    refine w_r2 ?_
    refine w_b (v := .int .i64 ((mustV P1 rt x8) / 5)) (hb := (b_quo (by omega) (quo64 (by omega)))) ?_
    refine w_v (v := .int .i64 (max ((mustV P1 rt x8) / 5) 1)) (x_max rfl rfl rfl) ?_
    refine w_b (v := .int .i64 ((mustV P1 rt x8) + (max ((mustV P1 rt x8) / 5) 1))) (hb := (b_add (w64 (by omega)))) ?_
    refine w_r3 ?_
    refine w_1 H25 4 ?_
    refine w_m ?_
    refine w_v (v := .pointer ((pp).map fun q => q.add (((me).toNat) * 2))) (x_idxR ((me).toNat) (H25.rwReads (k := 5) rfl) rfl rfl rfl Tryz.underlying22 sz33 (by omega)) ?_
    refine w_v (v := .pointer ((pp).map fun q => q.add (((me).toNat) * 2 + 1))) (ex_cast (x_fieldAddrG (m := ((me).toNat) * 2) ((H25.rwReads (k := 5) rfl).some (by omega)) rfl rfl fo33_1) rfl) ?_
    have hlq := (H25.rwReads (k := 5) rfl).lenL plE
    obtain ⟨x26, hx26⟩ := ex_at (l := ps) (j := ((me).toNat)) (by omega)
    clear hlq
    have hrx : x26.rt = rt := by rw [show x26 = pm from Option.some.inj (hx26.symm.trans hm)]; exact hrt
    refine w_v (v := .int .i64 rt) (ex_cast (x_loadF1 (i := 1) (j := ((me).toNat)) plE (H25.rwReads (k := 5) rfl) hx26 rfl rfl Tryz.underlying3 rfl rfl) (by rw [hrx])) ?_
    refine w_v (v := .int .i64 (min ((mustV P1 rt x8) + (max ((mustV P1 rt x8) / 5) 1)) rt)) (x_min rfl rfl rfl) ?_
    refine w_a ?_
    refine g_nil ?_
    refine g_in ?_
    refine g_then ?_
    refine g_weak [(0, .pointer (some ⟨b, 0, none⟩)), (1, .pointer (some ⟨g, 0, none⟩)), (2, .int .i64 me), (7, .int .i64 x8), (8, .int .i64 (min ((mustV P1 rt x8) + (max ((mustV P1 rt x8) / 5) 1)) rt)), (11, .slice po1 ((othV ps.length me).length) co2), (12, .int .i64 (((othV ps.length me).length : Int))), (13, .int .i64 ((i : Int)))] ⟨rfl, rfl, rfl, rfl, rfl, rfl, rfl, rfl, trivial⟩ ?_
    refine g_region ?_
    refine w_r3 ?_
    refine w_1 H25 2 ?_
    refine w_r2 ?_
    refine l_of (s_mapUpdate (x := x8) (a := min ((mustV P1 rt x8) + (max ((mustV P1 rt x8) / 5) 1)) rt) (intTy Tryz.underlying76 Tryz.underlying3) H25 3 (wt0 rfl) rfl rfl rfl rfl rfl rfl (⟨by omega, by omega⟩) ?_)
    intro wq27 H28
    refine g_nil ?_
    refine g_in ?_
    refine g_then ?_
    refine g_region ?_
    refine w_b (v := .int .i64 (((i + 1 : Nat) : Int))) (hb := (b_add (by rw [w64 (by omega)]; omega))) ?_
    refine w_m ?_
    refine w_e ?_
    refine g_round (i := (i, P1, B1)) ((i + 1), (upM P1 x8 (min ((mustV P1 rt x8) + (max ((mustV P1 rt x8) / 5) 1)) rt)), (upM B1 x8 0)) ?_ ?_ ?_
    · exact ⟨rfl, rfl, rfl, rfl, rfl, rfl, trivial⟩
    · exact ⟨by omega, (by rw [take_snocT hx8, behF_snoc, ← hPB]; unfold behS; dsimp only; (first | rw [if_pos hb12] | rw [if_neg hb12] | rw [if_neg (by rw [hb12]; decide)]); (first | rw [if_pos hb16] | rw [if_neg hb16] | rw [if_neg (by rw [hb16]; decide)])), (upM_bd hPb (by omega)), (upM_bd (bd_up hBb (by omega)) (by omega)), (H28.takes [6, 2, 3, 7, 8, 4, 0, 5, 1, 9] (by decide))⟩
    · (try dsimp only); omega
  ·
   refine g_cond_t rfl (neg_of hb12) ?_
   refine g_region ?_
   refine w_r3 ?_
   refine w_1 H11 0 ?_
   refine w_m ?_
   refine l_of (s_mapUpdate (x := x8) (a := 0) (intTy Tryz.underlying76 Tryz.underlying3) H11 5 (wt0 rfl) rfl rfl rfl rfl rfl rfl (⟨by omega, by omega⟩) ?_)
   intro wq29 H30
   refine g_nil ?_
   refine g_in ?_
   refine g_then ?_
   refine g_region ?_
   refine w_r3 ?_
   refine w_1 H30 0 ?_
   refine w_r2 ?_
   refine l_of (s_mapUpdate (x := x8) (a := (mustV P1 rt x8)) (intTy Tryz.underlying76 Tryz.underlying3) H30 1 (wt0 rfl) rfl rfl rfl rfl rfl rfl (⟨by omega, by omega⟩) ?_)
   intro wq31 H32
   refine g_nil ?_
   refine g_in ?_
   refine g_then ?_
   refine g_weak [(0, .pointer (some ⟨b, 0, none⟩)), (1, .pointer (some ⟨g, 0, none⟩)), (2, .int .i64 me), (11, .slice po1 ((othV ps.length me).length) co2), (12, .int .i64 (((othV ps.length me).length : Int))), (13, .int .i64 ((i : Int)))] ⟨rfl, rfl, rfl, rfl, rfl, rfl, trivial⟩ ?_
   refine g_region ?_
   refine w_b (v := .int .i64 (((i + 1 : Nat) : Int))) (hb := (b_add (by rw [w64 (by omega)]; omega))) ?_
   refine w_m ?_
   refine w_e ?_
   refine g_round (i := (i, P1, B1)) ((i + 1), (upM P1 x8 (mustV P1 rt x8)), (upM B1 x8 0)) ?_ ?_ ?_
   · exact ⟨rfl, rfl, rfl, rfl, rfl, rfl, trivial⟩
   · exact ⟨by omega, (by rw [take_snocT hx8, behF_snoc, ← hPB]; unfold behS; dsimp only; (first | rw [if_pos hb12] | rw [if_neg hb12] | rw [if_neg (by rw [hb12]; decide)])), (upM_bd hPb (by omega)), (upM_bd (bd_up hBb (by omega)) (by omega)), (H32.takes [4, 0, 1, 5, 6, 2, 7, 3, 8, 9] (by decide))⟩
   · (try dsimp only); omega
 ·
  refine g_cond_f rfl (decide_eq_false hb7) ?_
  refine g_exit ?_
  refine g_then_exit ?_
  refine g_then_exit ?_
  refine g_in_hit ?_
  refine fin_end [] [] rfl trivial ?_
  rw [List.take_of_length_le (by omega)] at hPB
  rw [← hPB]
  exact ⟨rfl, H6.takes [1, 2, 3, 4, 5, 6, 7, 8, 9] (by decide)⟩
set_option maxRecDepth 20000 in
set_option maxHeartbeats 4000000 in
theorem mclone_i (mg : Nat) (M : Int → Option Int)  (w : World) (HS : S w [Mp (Value.int .i64) (Value.int .i64) okI mg M]) : Calls Tryz.prog 169 #[.map (some mg)] w fun e w' => ∃ g2, e = .returned (.map (some g2)) ∧ S w' ([Mp (Value.int .i64) (Value.int .i64) okI g2 M, Mp (Value.int .i64) (Value.int .i64) okI mg M] ++ [Old w (fps [Mp (Value.int .i64) (Value.int .i64) okI mg M])]) := by
 have H0 := HS.beginI
 refine enter 9 Tryz.func169 rfl rfl rfl ?_
 refine g_weak [(0, .map (some mg))] ⟨rfl, trivial⟩ ?_
 refine w_s ?_
 refine w_a ?_
 refine w_e ?_
 refine g_seq ?_
 refine w_s ?_
 refine w_m ?_
 refine w_b (v := .bool false) (hb := (b_eqlMap Tryz.underlying76)) ?_
 refine w_e ?_
 refine g_cond_f rfl rfl ?_
 refine g_skip ?_
 refine g_then ?_
 refine w_s ?_
 refine w_m ?_
 refine w_v (v := .iface 76 (.map (some mg))) (x_makeInterface rfl rfl Tryz.underlying76 rfl) ?_
 refine l_of (s_mapsClone H0 0 (wt0 rfl) rfl rfl rfl rfl rfl rfl Tryz.func173 (by kernel_rfl) (by kernel_rfl) (by kernel_rfl) (by kernel_rfl) ?_)
 intro mg1 wq2 H3
 refine w_v (v := .map (some mg1)) (x_assert1 rfl rfl Tryz.underlying76 rfl) ?_
 refine w_a ?_
 refine w_e ?_
 refine g_ret ?_
 refine fin_ret [.tmp 2] [.map (some mg1)] rfl ⟨rfl, trivial⟩ ?_
 exact ⟨mg1, rfl, H3.takes [0, 1, 2] (by decide)⟩
set_option maxRecDepth 20000 in
set_option maxHeartbeats 4000000 in
theorem mclone_b (mg : Nat) (M : Int → Option Bool)  (w : World) (HS : S w [Mp (Value.int .i64) Value.bool okI mg M]) : Calls Tryz.prog 170 #[.map (some mg)] w fun e w' => ∃ g2, e = .returned (.map (some g2)) ∧ S w' ([Mp (Value.int .i64) Value.bool okI g2 M, Mp (Value.int .i64) Value.bool okI mg M] ++ [Old w (fps [Mp (Value.int .i64) Value.bool okI mg M])]) := by
 have H0 := HS.beginI
 refine enter 9 Tryz.func170 rfl rfl rfl ?_
 refine g_weak [(0, .map (some mg))] ⟨rfl, trivial⟩ ?_
 refine w_s ?_
 refine w_a ?_
 refine w_e ?_
 refine g_seq ?_
 refine w_s ?_
 refine w_m ?_
 refine w_b (v := .bool false) (hb := (b_eqlMap Tryz.underlying77)) ?_
 refine w_e ?_
 refine g_cond_f rfl rfl ?_
 refine g_skip ?_
 refine g_then ?_
 refine w_s ?_
 refine w_m ?_
 refine w_v (v := .iface 77 (.map (some mg))) (x_makeInterface rfl rfl Tryz.underlying77 rfl) ?_
 refine l_of (s_mapsClone H0 0 (wt0 rfl) rfl rfl rfl rfl rfl rfl Tryz.func173 (by kernel_rfl) (by kernel_rfl) (by kernel_rfl) (by kernel_rfl) ?_)
 intro mg1 wq2 H3
 refine w_v (v := .map (some mg1)) (x_assert1 rfl rfl Tryz.underlying77 rfl) ?_
 refine w_a ?_
 refine w_e ?_
 refine g_ret ?_
 refine fin_ret [.tmp 2] [.map (some mg1)] rfl ⟨rfl, trivial⟩ ?_
 exact ⟨mg1, rfl, H3.takes [0, 1, 2] (by decide)⟩
end Go.Proofs.YtpbjekdjebjbkaaGreat
