import Derived.Test.YtlikhpfdncidkaaFk
import Derived.Test.YtlikhpfdncidkaaBu
set_option linter.unusedSimpArgs false
set_option linter.unusedVariables false
namespace Go.Proofs.Ytlikhpfdncidkaa
open Go.RowKit

theorem cl98 : callable Try.prog 98 = true := by kernel_rfl
theorem fo77_1 : foO Try.prog 77 1 = some 1 := by kernel_rfl
theorem sz29 : szO Try.prog 29 = some 1 := by kernel_rfl
theorem sz74 : szO Try.prog 74 = some 2 := by kernel_rfl
theorem ze24 : zeO Try.prog 24 = some (.slice none 0 0) := by kernel_rfl
theorem ze29 : zeO Try.prog 29 = some (.map none) := by kernel_rfl
theorem ze74 : zeO Try.prog 74 = some (.agg #[.int .i64 0, .int .i64 0]) := by kernel_rfl
def snZ : Value := .agg #[.int .i64 0, .string ⟨#[]⟩]
def difB (right : Tr) (s : Sp) (v : Sn) : Bool := match right s with | some y => !decide (y.2 = v.2) | none => false
section
variable {P : Program} {N : Nat} {f : Fr} {ds : List Deferred} {w : World} {o : Oper} {L : List Item} {ms : List Nat} {ct : Nat → Tr} {mo : Option Nat}
theorem x_lookTry {t k e : TypeId} {m y : Operand} {s : Sp} (T : MapTy P t k e spK okP) (H : S w L) (k0 : Nat) (hk : L[k0]? = some (FamM spK snV okP ms ct)) (hm : ∀ m, mo = some m → m ∈ ms) (ho : o.op = .lookup t m y true) (hmv : evo f m = some (.map mo)) (hy : evo f y = some (spK s)) (hs : okP s) (hz : zeO P e = some snZ) :
    Ex P N f ds o w (.tuple #[((tryOf ct mo s).map snV).getD snZ, .bool (tryOf ct mo s).isSome]) w := by
  cases mo with
  | none =>
    obtain ⟨l, hl⟩ := T.key s hs
    exact x_lookupNil T.ht ho hmv hy hz (T.K.check w _ hl) (by
      have hkv : KV spK snV okP noT #[] 0 [] := ⟨rfl, List.nodup_nil, fun p hp => absurd hp (List.not_mem_nil), List.nodup_nil, fun e he => absurd he (List.not_mem_nil), fun p => ⟨fun h => absurd h (List.not_mem_nil), fun h => absurd h.2 (by simp [noT])⟩⟩
      rcases hkv.find T w hs with ⟨_, h2⟩ | ⟨j, a, _, h2, _⟩
      · exact h2
      · simp at h2)
  | some m => exact x_lookup (L := [_]) T (H.famMget hk (hm m rfl)) 0 rfl ho hmv hy hs hz
end
theorem BI.apart {nw : Int → Option Nat} {od : Int → Option (Ro Nat)} {rs : List (Ro Nat)} {ms : List Nat} {ct : Nat → Tr} (h : BI nw od rs ms ct) {i j : Int} {m x : Nat} (hn : nw i = some m) (hx : x ∈ odR od j) : m ≠ x := fun e => by
  subst e
  unfold odR at hx
  cases ho : od j with
  | none => rw [ho] at hx; cases hx
  | some r => rw [ho] at hx; exact h.nwo _ _ hn r (h.odr _ r ho) hx
theorem dif_step {right : Tr} {rem0 rem rem2 : List (Sp × Sn)} {G : Int → Option Bool} {q : Sp × Sn} (hq0 : q ∈ rem0) (hm : ∀ z, z ∈ rem2 ↔ z ∈ rem ∧ z ≠ q) (hd : difB right q.1 q.2 = true) (h : ∀ x, (G x).getD false = true ↔ ∃ z ∈ rem0, z ∉ rem ∧ z.2.1 = x ∧ difB right z.1 z.2 = true) : ∀ x, (upM G q.2.1 true x).getD false = true ↔ ∃ z ∈ rem0, z ∉ rem2 ∧ z.2.1 = x ∧ difB right z.1 z.2 = true := fun x => by
  unfold upM
  by_cases e : x = q.2.1
  · rw [if_pos e]
    exact ⟨fun _ => ⟨q, hq0, fun h2 => ((hm q).1 h2).2 rfl, e.symm, hd⟩, fun _ => rfl⟩
  · rw [if_neg e, h]
    constructor
    · rintro ⟨z, h1, h2, h3, h4⟩
      exact ⟨z, h1, fun h5 => h2 ((hm z).1 h5).1, h3, h4⟩
    · rintro ⟨z, h1, h2, h3, h4⟩
      exact ⟨z, h1, fun h5 => h2 ((hm z).2 ⟨h5, fun e2 => e (by rw [← h3, e2])⟩), h3, h4⟩
theorem dif_skip {right : Tr} {rem0 rem rem2 : List (Sp × Sn)} {G : Int → Option Bool} {q : Sp × Sn} (hm : ∀ z, z ∈ rem2 ↔ z ∈ rem ∧ z ≠ q) (hd : difB right q.1 q.2 = false) (h : ∀ x, (G x).getD false = true ↔ ∃ z ∈ rem0, z ∉ rem ∧ z.2.1 = x ∧ difB right z.1 z.2 = true) : ∀ x, (G x).getD false = true ↔ ∃ z ∈ rem0, z ∉ rem2 ∧ z.2.1 = x ∧ difB right z.1 z.2 = true := fun x => by
  rw [h]
  constructor
  · rintro ⟨z, h1, h2, h3, h4⟩
    exact ⟨z, h1, fun h5 => h2 ((hm z).1 h5).1, h3, h4⟩
  · rintro ⟨z, h1, h2, h3, h4⟩
    exact ⟨z, h1, fun h5 => h2 ((hm z).2 ⟨h5, fun e2 => by rw [e2, hd] at h4; cases h4⟩), h3, h4⟩
theorem dif_all {right t : Tr} {rem0 : List (Sp × Sn)} {G : Int → Option Bool} (hr : ∀ p, p ∈ rem0 ↔ okP p.1 ∧ t p.1 = some p.2) (h : ∀ x, (G x).getD false = true ↔ ∃ z ∈ rem0, z ∉ ([] : List (Sp × Sn)) ∧ z.2.1 = x ∧ difB right z.1 z.2 = true) : ∀ x, (G x).getD false = true ↔ differ right t x := fun x => by
  rw [h]
  unfold difB differ
  constructor
  · rintro ⟨z, h1, _, h3, h4⟩
    obtain ⟨a, b⟩ := (hr z).1 h1
    cases hq : right z.1 with
    | none => rw [hq] at h4; cases h4
    | some y =>
      rw [hq] at h4
      refine ⟨z.1, z.2.2, y.1, y.2, a, by rw [b, ← h3], hq, fun e => ?_⟩
      simp [e] at h4
  · rintro ⟨s, d, y, d2, a, b, hq, hne⟩
    refine ⟨(s, (x, d)), (hr (s, (x, d))).2 ⟨a, b⟩, by simp, rfl, ?_⟩
    simp only [hq]
    simp [hne]
theorem mid_new {l pre post : List Int} {x : Int} (hl : l.Pairwise (· < ·)) (h : l = pre ++ x :: post) : ¬ x ∈ pre := fun hx => by
  rw [h] at hl
  have := (List.pairwise_append.1 hl).2.2 x hx x (List.mem_cons_self ..)
  omega
theorem down_yes {M M3 : Int → Option Int} {g : Int → Bool} {pre : List Int} {x : Int} (hg : g x = true) (h : ∀ y, (M3 y).getD 0 = if y ∈ pre ∧ g y = false then IntKind.i64.wrap ((M y).getD 0 - 1) else (M y).getD 0) : ∀ y, (M3 y).getD 0 = if y ∈ pre ++ [x] ∧ g y = false then IntKind.i64.wrap ((M y).getD 0 - 1) else (M y).getD 0 := fun y => by
  rw [h]
  by_cases e : y = x
  · subst e; rw [if_neg (by rw [hg]; simp), if_neg (by rw [hg]; simp)]
  · simp [e]
theorem down_no {M M3 : Int → Option Int} {g : Int → Bool} {pre : List Int} {x : Int} (hx : ¬ x ∈ pre) (hg : g x = false) (h : ∀ y, (M3 y).getD 0 = if y ∈ pre ∧ g y = false then IntKind.i64.wrap ((M y).getD 0 - 1) else (M y).getD 0) : ∀ y, (upM M3 x (IntKind.i64.wrap ((M3 x).getD 0 - 1)) y).getD 0 = if y ∈ pre ++ [x] ∧ g y = false then IntKind.i64.wrap ((M y).getD 0 - 1) else (M y).getD 0 := fun y => by
  unfold upM
  by_cases e : y = x
  · subst e
    rw [if_pos rfl, Option.getD_some, h, if_neg (fun q => hx q.1), if_pos ⟨by simp, hg⟩]
  · rw [if_neg e, h]; simp [e]
theorem filt_yes {g : Int → Bool} {pre : List Int} {x : Int} (hg : g x = true) : (pre ++ [x]).filter g = pre.filter g ++ [x] := by rw [List.filter_append]; simp [hg]
theorem filt_no {g : Int → Bool} {pre : List Int} {x : Int} (hg : g x = false) : (pre ++ [x]).filter g = pre.filter g := by rw [List.filter_append]; simp [hg]
set_option maxRecDepth 20000 in
set_option maxHeartbeats 4000000 in
set_option maxRecDepth 20000 in
set_option maxHeartbeats 4000000 in
theorem differs_s {gr : Nat} {mo : Option Nat} {ms : List Nat} {ct : Nat → Tr} {s : Sp} {x : Sn} (hm : ∀ m, mo = some m → m ∈ ms) (hs : okP s)  (w : World) (HS : S w [Ob gr (.cells #[.map mo] 70 (0, 0)), FamM spK snV okP ms ct]) : Calls Try.prog 98 #[.agg #[.int .i64 (s.1), .int .i64 (s.2)], .agg #[.int .i64 (x.1), .string (x.2)], .pointer (some ⟨gr, 0, none⟩)] w fun e w' => e = .returned (.bool (difB (tryOf ct mo) s x)) ∧ S w' ([Ob gr (.cells #[.map mo] 70 (0, 0)), FamM spK snV okP ms ct] ++ [Old w (fps [Ob gr (.cells #[.map mo] 70 (0, 0)), FamM spK snV okP ms ct])]) := by
 have H0 := HS.beginI
 refine enter 22 Try.func98 rfl rfl rfl ?_
 refine g_weak [(0, .agg #[.int .i64 (s.1), .int .i64 (s.2)]), (1, .agg #[.int .i64 (x.1), .string (x.2)]), (2, .pointer (some ⟨gr, 0, none⟩))] ⟨rfl, rfl, rfl, trivial⟩ ?_
 refine g_seq ?_
 refine g_region ?_
 refine l_of (s_box H0 (wt0 rfl) rfl rfl rfl rfl ?_)
 intro g1 wq2 H3
 refine l_of (s_box H3 (wt0 rfl) rfl rfl rfl rfl ?_)
 intro g4 wq5 H6
 refine l_of (s_val (v := .bool false) (wt0 rfl) rfl rfl (x_assign rfl rfl) ?_)
 refine g_nil ?_
 refine g_then ?_
 refine g_seq ?_
 refine g_region ?_
 refine l_of (s_val (v := .map mo) (wt0 rfl) rfl rfl (x_load1 H6 2 rfl rfl Try.underlying70 rfl rfl rfl) ?_)
 refine l_of (s_val (v := .agg #[.int .i64 (s.1), .int .i64 (s.2)]) (wt0 rfl) rfl rfl (x_loadA H6 1 rfl rfl Try.underlying74 rfl sz74 rfl rfl rfl) ?_)
 rcases hq : tryOf ct mo s with _ | v
 ·
  refine l_of (s_val (v := .tuple #[.agg #[.int .i64 0, .string (⟨#[]⟩)], .bool false]) (wt0 rfl) rfl rfl (ex_cast (x_lookTry (s := s) tryT H6 3 rfl hm rfl rfl rfl hs ze77) (by rw [hq]; rfl)) ?_)
  refine l_of (s_val (v := .tuple #[.agg #[.int .i64 0, .string (⟨#[]⟩)], .bool false]) (wt0 rfl) rfl rfl (x_move rfl rfl) ?_)
  refine l_of (s_val (v := .agg #[.int .i64 0, .string (⟨#[]⟩)]) (wt0 rfl) rfl rfl (x_extract rfl rfl rfl) ?_)
  refine l_of (s_val (v := .bool false) (wt0 rfl) rfl rfl (x_extract rfl rfl rfl) ?_)
  refine l_of (s_alloc H6 (wt0 rfl) rfl rfl rfl ze77 ?_)
  intro g7 wq8 H9
  refine l_of (s_store H9 0 (wt0 rfl) rfl rfl rfl rfl rfl sz77 rfl rfl (cs' := #[.int .i64 0, .string (⟨#[]⟩)]) rfl ?_)
  intro wq10 H11
  refine l_of (s_val (v := .bool false) (wt0 rfl) rfl rfl (x_assign rfl rfl) ?_)
  refine g_nil ?_
  refine g_then ?_
  refine g_seq ?_
  refine g_region ?_
  refine l_of (s_val (v := .bool false) (wt0 rfl) rfl rfl (x_move rfl rfl) ?_)
  refine l_of (s_val (v := .bool false) (wt0 rfl) rfl rfl (x_move rfl rfl) ?_)
  refine l_of (s_not (wn1 rfl rfl rfl rfl rfl) rfl rfl ?_)
  refine l_of (s_not (wn1 rfl rfl rfl rfl rfl) rfl rfl ?_)
  refine l_of (s_not (wn1 rfl rfl rfl rfl rfl) rfl rfl ?_)
  refine l_of (s_not (wn1 rfl rfl rfl rfl rfl) rfl rfl ?_)
  refine l_of (s_not (wn1 rfl rfl rfl rfl rfl) rfl rfl ?_)
  refine l_of (s_val (v := .bool false) (wt0 rfl) rfl rfl (x_pick_f rfl rfl rfl rfl) ?_)
  refine l_of (s_val (v := .bool false) (wt0 rfl) rfl rfl (x_assign rfl rfl) ?_)
  refine g_nil ?_
  refine g_then ?_
  refine g_weak [(5, .bool false)] ⟨rfl, trivial⟩ ?_
  refine g_ret ?_
  refine fin_ret [.tmp 5] [.bool false] rfl ⟨rfl, trivial⟩ ?_
  exact ⟨by unfold difB; rw [hq]; rfl, H11.takes [3, 4, 5] (by decide)⟩
 ·
  refine l_of (s_val (v := .tuple #[.agg #[.int .i64 (v.1), .string (v.2)], .bool true]) (wt0 rfl) rfl rfl (ex_cast (x_lookTry (s := s) tryT H6 3 rfl hm rfl rfl rfl hs ze77) (by rw [hq]; rfl)) ?_)
  refine l_of (s_val (v := .tuple #[.agg #[.int .i64 (v.1), .string (v.2)], .bool true]) (wt0 rfl) rfl rfl (x_move rfl rfl) ?_)
  refine l_of (s_val (v := .agg #[.int .i64 (v.1), .string (v.2)]) (wt0 rfl) rfl rfl (x_extract rfl rfl rfl) ?_)
  refine l_of (s_val (v := .bool true) (wt0 rfl) rfl rfl (x_extract rfl rfl rfl) ?_)
  refine l_of (s_alloc H6 (wt0 rfl) rfl rfl rfl ze77 ?_)
  intro g12 wq13 H14
  refine l_of (s_store H14 0 (wt0 rfl) rfl rfl rfl rfl rfl sz77 rfl rfl (cs' := #[.int .i64 (v.1), .string (v.2)]) rfl ?_)
  intro wq15 H16
  refine l_of (s_val (v := .bool true) (wt0 rfl) rfl rfl (x_assign rfl rfl) ?_)
  refine g_nil ?_
  refine g_then ?_
  refine g_seq ?_
  refine g_region ?_
  refine l_of (s_val (v := .bool true) (wt0 rfl) rfl rfl (x_move rfl rfl) ?_)
  refine l_of (s_val (v := .bool true) (wt0 rfl) rfl rfl (x_move rfl rfl) ?_)
  refine l_of (s_val (v := .pointer (some ⟨g12, 1, none⟩)) (wt1 rfl rfl rfl rfl rfl) rfl rfl (x_fieldAddr rfl rfl fo77_1 rfl) ?_)
  refine l_of (s_val (v := .string (v.2)) (wt1 rfl rfl rfl rfl rfl) rfl rfl (x_load1 H16 0 rfl rfl Try.underlying9 rfl rfl rfl) ?_)
  refine l_of (s_val (v := .pointer (some ⟨g4, 1, none⟩)) (wt1 rfl rfl rfl rfl rfl) rfl rfl (x_fieldAddr rfl rfl fo77_1 rfl) ?_)
  refine l_of (s_val (v := .string (x.2)) (wt1 rfl rfl rfl rfl rfl) rfl rfl (x_load1 H16 1 rfl rfl Try.underlying9 rfl rfl rfl) ?_)
  refine l_of (s_val (v := .bool (!decide (v.2 = x.2))) (wt1 rfl rfl rfl rfl rfl) rfl rfl (x_bin rfl rfl rfl b_nes) ?_)
  refine l_of (s_val (v := .bool (!decide (v.2 = x.2))) (wt0 rfl) rfl rfl (x_pick_t rfl rfl rfl rfl) ?_)
  refine l_of (s_val (v := .bool (!decide (v.2 = x.2))) (wt0 rfl) rfl rfl (x_assign rfl rfl) ?_)
  refine g_nil ?_
  refine g_then ?_
  refine g_weak [(5, .bool (!decide (v.2 = x.2)))] ⟨rfl, trivial⟩ ?_
  refine g_ret ?_
  refine fin_ret [.tmp 5] [.bool (!decide (v.2 = x.2))] rfl ⟨rfl, trivial⟩ ?_
  exact ⟨by unfold difB; rw [hq]; rfl, H16.takes [3, 4, 5] (by decide)⟩
set_option maxRecDepth 20000 in
set_option maxHeartbeats 4000000 in
set_option maxRecDepth 20000 in
set_option maxHeartbeats 4000000 in
theorem judged_s {b m1 m2 m3 m4 : Nat} {sc : Int → Option Int} {nw : Int → Option Nat} {od : Int → Option (Ro Nat)} {rs : List (Ro Nat)} {ms : List Nat} {ct : Nat → Tr} (hB : BI nw od rs ms ct) {i0 : Int} {m : Nat} (hok_i0 : okI i0) (hn : nw i0 = some m)  (w : World) (HS : S w [Ob b (.cells #[.map (some m1), .map (some m2), .map (some m3), .map (some m4)] 66 (0, 0)), Mp (Value.int .i64) (Value.int .i64) okI m1 sc, Mp (Value.int .i64) mpV okI m3 nw, Mp (Value.int .i64) roV okI m4 od, FamM spK snV okP ms ct, RowsI 70 1 mpL rs]) : Calls Try.prog 81 #[.pointer (some ⟨b, 0, none⟩), .int .i64 i0] w fun e w' => ∃ sc' pz cz, (∀ y, (sc' y).getD 0 = scJ (ct m) (odA od ct i0) ((sc y).getD 0) y) ∧ e = .returned (.slice pz (outL (ct m) (odA od ct i0)).length cz) ∧ S w' ([Rw 3 1 pz (outL (ct m) (odA od ct i0)).length cz (zV (outL (ct m) (odA od ct i0))), Ob b (.cells #[.map (some m1), .map (some m2), .map (some m3), .map (some m4)] 66 (0, 0)), Mp (Value.int .i64) (Value.int .i64) okI m1 sc', Mp (Value.int .i64) mpV okI m3 nw, Mp (Value.int .i64) roV okI m4 (delM od i0), FamM spK snV okP ms ct, RowsI 70 1 mpL rs] ++ [Old w (fps [Ob b (.cells #[.map (some m1), .map (some m2), .map (some m3), .map (some m4)] 66 (0, 0)), Mp (Value.int .i64) (Value.int .i64) okI m1 sc, Mp (Value.int .i64) mpV okI m3 nw, Mp (Value.int .i64) roV okI m4 od, FamM spK snV okP ms ct, RowsI 70 1 mpL rs])]) := by
 have H0 := HS.beginI
 have hol : (roO (od i0)).l.length ≤ 10 := by have := hB.odLen i0; rwa [odR_eq] at this
 replace H0 := H0.nilMarks
 refine enter_m 81 Try.func81 rfl rfl rfl ?_
 have hL : ¬ LetsOut (bodyPostM (WF none) 9 Try.prog Try.f81 fun e w' => ∃ sc' pz cz, (∀ y, (sc' y).getD 0 = scJ (ct m) (odA od ct i0) ((sc y).getD 0) y) ∧ e = .returned (.slice pz (outL (ct m) (odA od ct i0)).length cz) ∧ S w' ([Rw 3 1 pz (outL (ct m) (odA od ct i0)).length cz (zV (outL (ct m) (odA od ct i0))), Ob b (.cells #[.map (some m1), .map (some m2), .map (some m3), .map (some m4)] 66 (0, 0)), Mp (Value.int .i64) (Value.int .i64) okI m1 sc', Mp (Value.int .i64) mpV okI m3 nw, Mp (Value.int .i64) roV okI m4 (delM od i0), FamM spK snV okP ms ct, RowsI 70 1 mpL rs] ++ [Old w (fps [Ob b (.cells #[.map (some m1), .map (some m2), .map (some m3), .map (some m4)] 66 (0, 0)), Mp (Value.int .i64) (Value.int .i64) okI m1 sc, Mp (Value.int .i64) mpV okI m3 nw, Mp (Value.int .i64) roV okI m4 od, FamM spK snV okP ms ct, RowsI 70 1 mpL rs])])) := by
  rintro ⟨_, _, h⟩
  simp only [bodyPostM, reduceCtorEq, false_and, and_false, exists_false, or_false, or_self, exists_const] at h
 refine g_weak [(0, .pointer (some ⟨b, 0, none⟩)), (1, .int .i64 i0)] ⟨rfl, rfl, trivial⟩ ?_
 refine R.g_seq ?_
 refine R.g_region ?_
 refine R.l_of rfl (fun h => hL h) (s_box H0 (wt0 rfl) rfl rfl rfl rfl ?_)
 intro g1 wq2 H3
 refine R.l_of rfl (fun h => hL h) (s_val (v := .slice none 0 0) (wt0 rfl) rfl rfl (x_assign rfl rfl) ?_)
 refine R.g_nil ?_
 refine g_then ?_
 refine R.g_seq ?_
 refine R.g_region ?_
 refine R.l_of rfl (fun h => hL h) (s_val (v := .pointer (some ⟨b, 0, none⟩)) (wt0 rfl) rfl rfl (x_load1 H3 0 rfl rfl Try.underlying28 rfl rfl rfl) ?_)
 refine R.l_of rfl (fun h => hL h) (s_val (v := .pointer (some ⟨b, 0, none⟩)) (wt0 rfl) rfl rfl (x_nilCheck rfl rfl) ?_)
 refine R.l_of rfl (fun h => hL h) (s_val (v := .pointer (some ⟨b, 2, none⟩)) (wt0 rfl) rfl rfl (x_fieldAddr rfl rfl fo66_1 rfl) ?_)
 refine R.l_of rfl (fun h => hL h) (s_val (v := .map (some m3)) (wt0 rfl) rfl rfl (x_load1 H3 2 rfl rfl Try.underlying63 rfl rfl rfl) ?_)
 refine R.l_of rfl (fun h => hL h) (s_val (v := .int .i64 i0) (wt0 rfl) rfl rfl (x_move rfl rfl) ?_)
 refine R.l_of rfl (fun h => hL h) (s_val (v := .map (some m)) (wt0 rfl) rfl rfl (ex_cast (x_lookup1 (x := i0) (intTy Try.underlying63 Try.underlying3) H3 4 rfl rfl rfl rfl (hok_i0) ze70) ((look_M _).trans (by rw [hn]))) ?_)
 refine R.l_of rfl (fun h => hL h) (s_alloc H3 (wt0 rfl) rfl rfl rfl ze70 ?_)
 intro g4 wq5 H6
 refine R.l_of rfl (fun h => hL h) (s_store H6 0 (wt0 rfl) rfl rfl rfl rfl rfl sz70 rfl rfl (cs' := #[.map (some m)]) rfl ?_)
 intro wq7 H8
 refine R.g_nil ?_
 refine g_then ?_
 refine R.g_seq ?_
 refine R.g_region ?_
 refine R.l_of rfl (fun h => hL h) (s_val (v := .func (.func 98) #[] #[.pointer (some ⟨g4, 0, none⟩)]) (wt0 rfl) rfl rfl (x_makeFunc rfl rfl rfl) ?_)
 refine R.l_of rfl (fun h => hL h) (s_val (v := .func (.func 98) #[] #[.pointer (some ⟨g4, 0, none⟩)]) (wt0 rfl) rfl rfl (x_assign rfl rfl) ?_)
 refine R.g_nil ?_
 refine g_then ?_
 refine R.g_seq ?_
 refine R.g_region ?_
 refine R.l_of rfl (fun h => hL h) (s_alloc H8 (wt0 rfl) rfl rfl rfl ze24 ?_)
 intro g9 wq10 H11
 have H12 : S wq10 [Rw 3 1 none 0 0 (zV []), Ob g9 (.cells #[.slice none 0 0] 24 (0, 0)), Ob g4 (.cells #[.map (some m)] 70 (0, 0)), Ob g1 (.cells #[.pointer (some ⟨b, 0, none⟩)] 28 (0, 0)), Marks [], Ob b (.cells #[.map (some m1), .map (some m2), .map (some m3), .map (some m4)] 66 (0, 0)), Mp (Value.int .i64) (Value.int .i64) okI m1 sc, Mp (Value.int .i64) mpV okI m3 nw, Mp (Value.int .i64) roV okI m4 od, FamM spK snV okP ms ct, RowsI 70 1 mpL rs, Old w (fps [Ob b (.cells #[.map (some m1), .map (some m2), .map (some m3), .map (some m4)] 66 (0, 0)), Mp (Value.int .i64) (Value.int .i64) okI m1 sc, Mp (Value.int .i64) mpV okI m3 nw, Mp (Value.int .i64) roV okI m4 od, FamM spK snV okP ms ct, RowsI 70 1 mpL rs])] := H11.nilRw 3 1
 refine R.g_nil ?_
 refine g_then ?_
 refine R.g_seq ?_
 refine R.g_seq ?_
 refine R.g_region ?_
 refine R.l_of rfl (fun h => hL h) (s_val (v := .pointer (some ⟨b, 0, none⟩)) (wt0 rfl) rfl rfl (x_load1 H12 3 rfl rfl Try.underlying28 rfl rfl rfl) ?_)
 refine R.l_of rfl (fun h => hL h) (s_val (v := .pointer (some ⟨b, 0, none⟩)) (wt0 rfl) rfl rfl (x_nilCheck rfl rfl) ?_)
 refine R.l_of rfl (fun h => hL h) (s_val (v := .pointer (some ⟨b, 3, none⟩)) (wt0 rfl) rfl rfl (x_fieldAddr rfl rfl fo66_2 rfl) ?_)
 refine R.l_of rfl (fun h => hL h) (s_val (v := .map (some m4)) (wt0 rfl) rfl rfl (x_load1 H12 5 rfl rfl Try.underlying64 rfl rfl rfl) ?_)
 refine R.l_of rfl (fun h => hL h) (s_val (v := .int .i64 i0) (wt0 rfl) rfl rfl (x_move rfl rfl) ?_)
 refine R.l_of rfl (fun h => hL h) (s_val (v := .slice (roO (od i0)).p (roO (od i0)).l.length (roO (od i0)).c) (wt0 rfl) rfl rfl (ex_cast (x_lookup1 (x := i0) (intTy Try.underlying64 Try.underlying3) H12 8 rfl rfl rfl rfl (hok_i0) ze67) (look_R _)) ?_)
 refine R.l_of rfl (fun h => hL h) (s_val (v := .int .i64 (((roO (od i0)).l.length : Int))) (wt0 rfl) rfl rfl (x_lenl rfl rfl Try.underlying67) ?_)
 refine R.l_of rfl (fun h => hL h) (s_val (v := .int .i64 0) (wt0 rfl) rfl rfl (x_move rfl rfl) ?_)
 refine R.g_nil ?_
 refine g_then ?_
 refine g_weak [(1, .int .i64 i0), (2, .pointer (some ⟨g1, 0, none⟩)), (4, .slice none 0 0), (6, .func (.func 98) #[] #[.pointer (some ⟨g4, 0, none⟩)]), (7, .pointer (some ⟨g9, 0, none⟩)), (27, .slice (roO (od i0)).p (roO (od i0)).l.length (roO (od i0)).c), (28, .int .i64 (((roO (od i0)).l.length : Int))), (29, .int .i64 0)] ⟨rfl, rfl, rfl, rfl, rfl, rfl, rfl, rfl, trivial⟩ ?_
 refine R.g_block ?_
 refine g_loopD (ι := Nat × (Int → Option Int) × List Int × Option Addr × Nat × Nat × List Nat) (fun (j, M, out, p2, n2, c2, Ds) => [(1, .int .i64 i0), (2, .pointer (some ⟨g1, 0, none⟩)), (4, .slice none 0 0), (6, .func (.func 98) #[] #[.pointer (some ⟨g4, 0, none⟩)]), (7, .pointer (some ⟨g9, 0, none⟩)), (27, .slice (roO (od i0)).p (roO (od i0)).l.length (roO (od i0)).c), (28, .int .i64 (((roO (od i0)).l.length : Int))), (29, .int .i64 ((j : Int)))]) (fun (j, M, out, p2, n2, c2, Ds) => Ds.map mark) (fun (j, M, out, p2, n2, c2, Ds) wx => (j ≤ (roO (od i0)).l.length) ∧ (n2 = out.length) ∧ (out = outL (ct m) (((roO (od i0)).l.take j).map ct)) ∧ (∀ y, (M y).getD 0 = scJ (ct m) (((roO (od i0)).l.take j).map ct) ((sc y).getD 0) y) ∧ (out.length ≤ 1001 * j) ∧ S wx [Rw 3 1 p2 n2 c2 (zV out), Ob g9 (.cells #[.slice p2 n2 c2] 24 (0, 0)), Ob g4 (.cells #[.map (some m)] 70 (0, 0)), Ob g1 (.cells #[.pointer (some ⟨b, 0, none⟩)] 28 (0, 0)), Marks Ds, Ob b (.cells #[.map (some m1), .map (some m2), .map (some m3), .map (some m4)] 66 (0, 0)), Mp (Value.int .i64) (Value.int .i64) okI m1 M, Mp (Value.int .i64) mpV okI m3 nw, Mp (Value.int .i64) roV okI m4 od, FamM spK snV okP ms ct, RowsI 70 1 mpL rs, Old w (fps [Ob b (.cells #[.map (some m1), .map (some m2), .map (some m3), .map (some m4)] 66 (0, 0)), Mp (Value.int .i64) (Value.int .i64) okI m1 sc, Mp (Value.int .i64) mpV okI m3 nw, Mp (Value.int .i64) roV okI m4 od, FamM spK snV okP ms ct, RowsI 70 1 mpL rs])]) (fun (j, M, out, p2, n2, c2, Ds) => (roO (od i0)).l.length - j) (0, sc, [], none, 0, 0, []) ⟨rfl, rfl, rfl, rfl, rfl, rfl, rfl, rfl, trivial⟩ rfl ⟨Nat.zero_le _, rfl, rfl, (fun y => rfl), Nat.le_refl _, (H12.takes [0, 1, 2, 3, 4, 5, 6, 7, 8, 9, 10, 11] (by decide))⟩ ?_
 rintro ⟨j, M, out, p2, n2, c2, Ds⟩ wq13 ⟨hj, hn2, hout, hM, hlen, H14⟩
 refine g_weak [(1, .int .i64 i0), (2, .pointer (some ⟨g1, 0, none⟩)), (4, .slice none 0 0), (6, .func (.func 98) #[] #[.pointer (some ⟨g4, 0, none⟩)]), (7, .pointer (some ⟨g9, 0, none⟩)), (27, .slice (roO (od i0)).p (roO (od i0)).l.length (roO (od i0)).c), (28, .int .i64 (((roO (od i0)).l.length : Int))), (29, .int .i64 ((j : Int)))] ⟨rfl, rfl, rfl, rfl, rfl, rfl, rfl, rfl, trivial⟩ ?_
 refine R.g_seq ?_
 refine R.g_region ?_
 refine R.l_of rfl (fun h => hL h) (s_val (v := .bool (decide (((j : Int) : Int) < ((roO (od i0)).l.length : Int)))) (wt0 rfl) rfl rfl (x_bin rfl rfl rfl b_lss) ?_)
 refine R.g_nil ?_
 refine g_then ?_
 refine R.g_seq ?_
 by_cases hb15 : ((j : Int) : Int) < ((roO (od i0)).l.length : Int)
 ·
  obtain ⟨mj, hmj⟩ : ∃ mj, (roO (od i0)).l[j]? = some mj := ⟨_, List.getElem?_eq_getElem (by omega)⟩
  have hmjo : mj ∈ odR od i0 := by rw [odR_eq]; exact List.mem_of_getElem? hmj
  have hmjs := hB.odIn hmjo
  have hne : m ≠ mj := hB.apart hn hmjo
  refine R.g_cond_t rfl (decide_eq_true hb15) ?_
  refine R.g_skip ?_
  refine g_then ?_
  refine R.g_seq ?_
  refine R.g_block ?_
  refine R.g_seq ?_
  refine R.g_region ?_
  refine R.l_of rfl (fun h => hL h) (s_val (v := .pointer (((roO (od i0)).p).map fun q => q.add (j * 1))) (wt0 rfl) rfl rfl (x_idxR j ((ro_reads (H14.at (k := 10) rfl) (hB.roO i0))) rfl rfl rfl Try.underlying67 sz70 (by omega)) ?_)
  refine R.l_of rfl (fun h => hL h) (s_val (v := .map (some mj)) (wt0 rfl) rfl rfl (x_loadR1 j ((ro_reads (H14.at (k := 10) rfl) (hB.roO i0))) (by omega) rfl rfl Try.underlying70 rfl (mpL_at hmj)) ?_)
  refine R.l_of rfl (fun h => hL h) (s_val (v := .map (some mj)) (wt0 rfl) rfl rfl (x_assign rfl rfl) ?_)
  refine R.g_nil ?_
  refine g_then ?_
  refine R.g_seq ?_
  refine R.g_region ?_
  refine R.l_of rfl (fun h => hL h) (s_makeMap (α := Bool) (Value.int .i64) Value.bool okI H14 (wt0 rfl) rfl rfl rfl ?_)
  intro mg16 wq17 H18
  refine R.l_of rfl (fun h => hL h) (s_alloc H18 (wt0 rfl) rfl rfl rfl ze29 ?_)
  intro g19 wq20 H21
  refine R.l_of rfl (fun h => hL h) (s_store H21 0 (wt0 rfl) rfl rfl rfl rfl rfl sz29 rfl rfl (cs' := #[.map (some mg16)]) rfl ?_)
  intro wq22 H23
  refine R.g_nil ?_
  refine g_then ?_
  refine R.g_seq ?_
  refine R.g_seq ?_
  refine R.g_region ?_
  refine R.l_of rfl (fun h => hL h) (s_val (v := .map (some mj)) (wt0 rfl) rfl rfl (x_move rfl rfl) ?_)
  have hmn := H23.famMnodup (k := 11) rfl
  have H24 : S wq22 [Mp spK snV okP mj (ct mj), FamM spK snV okP (ms.erase mj) ct, Ob g19 (.cells #[.map (some mg16)] 29 (0, 0)), Mp (Value.int .i64) Value.bool okI mg16 (fun _ => none), Rw 3 1 p2 n2 c2 (zV out), Ob g9 (.cells #[.slice p2 n2 c2] 24 (0, 0)), Ob g4 (.cells #[.map (some m)] 70 (0, 0)), Ob g1 (.cells #[.pointer (some ⟨b, 0, none⟩)] 28 (0, 0)), Marks Ds, Ob b (.cells #[.map (some m1), .map (some m2), .map (some m3), .map (some m4)] 66 (0, 0)), Mp (Value.int .i64) (Value.int .i64) okI m1 M, Mp (Value.int .i64) mpV okI m3 nw, Mp (Value.int .i64) roV okI m4 od, RowsI 70 1 mpL rs, Old w (fps [Ob b (.cells #[.map (some m1), .map (some m2), .map (some m3), .map (some m4)] 66 (0, 0)), Mp (Value.int .i64) (Value.int .i64) okI m1 sc, Mp (Value.int .i64) mpV okI m3 nw, Mp (Value.int .i64) roV okI m4 od, FamM spK snV okP ms ct, RowsI 70 1 mpL rs])] := S.famMout (H23.takes [11, 0, 1, 2, 3, 4, 5, 6, 7, 8, 9, 10, 12, 13] (by decide)) hmjs
  have hmE : m ∈ ms.erase mj := (List.mem_erase_of_ne hne).2 (hB.nwm i0 m hn)
  refine R.l_of rfl (fun h => hL h) (s_rangeN tryT H24 0 (wt0 rfl) rfl rfl rfl rfl rfl ?_)
  intro rr25 rem26 wq27 hnrem26 hrem26 H28
  refine R.g_nil ?_
  refine g_then ?_
  refine R.g_block ?_
  refine R.g_loop (ι := List (Sp × Sn) × Option (Sp × Sn) × (Int → Option Bool)) (fun (rem, cur, G) => [(1, .int .i64 i0), (2, .pointer (some ⟨g1, 0, none⟩)), (4, .slice none 0 0), (6, .func (.func 98) #[] #[.pointer (some ⟨g4, 0, none⟩)]), (7, .pointer (some ⟨g9, 0, none⟩)), (9, .map (some mj)), (10, .pointer (some ⟨g19, 0, none⟩)), (27, .slice (roO (od i0)).p (roO (od i0)).l.length (roO (od i0)).c), (28, .int .i64 (((roO (od i0)).l.length : Int))), (29, .int .i64 ((j : Int))), (35, .pointer (some ⟨rr25, 0, none⟩))]) (fun (rem, cur, G) wx => (∀ z ∈ rem, z ∈ rem26) ∧ (∀ x, (G x).getD false = true ↔ ∃ z ∈ rem26, z ∉ rem ∧ z.2.1 = x ∧ difB (ct m) z.1 z.2 = true) ∧ S wx [MpR spK snV okP mj rr25 (ct mj) rem cur, FamM spK snV okP (ms.erase mj) ct, Ob g19 (.cells #[.map (some mg16)] 29 (0, 0)), Mp (Value.int .i64) Value.bool okI mg16 G, Rw 3 1 p2 n2 c2 (zV out), Ob g9 (.cells #[.slice p2 n2 c2] 24 (0, 0)), Ob g4 (.cells #[.map (some m)] 70 (0, 0)), Ob g1 (.cells #[.pointer (some ⟨b, 0, none⟩)] 28 (0, 0)), Marks Ds, Ob b (.cells #[.map (some m1), .map (some m2), .map (some m3), .map (some m4)] 66 (0, 0)), Mp (Value.int .i64) (Value.int .i64) okI m1 M, Mp (Value.int .i64) mpV okI m3 nw, Mp (Value.int .i64) roV okI m4 od, RowsI 70 1 mpL rs, Old w (fps [Ob b (.cells #[.map (some m1), .map (some m2), .map (some m3), .map (some m4)] 66 (0, 0)), Mp (Value.int .i64) (Value.int .i64) okI m1 sc, Mp (Value.int .i64) mpV okI m3 nw, Mp (Value.int .i64) roV okI m4 od, FamM spK snV okP ms ct, RowsI 70 1 mpL rs])]) (fun (rem, cur, G) => rem.length) (rem26, none, (fun _ => none)) ⟨rfl, rfl, rfl, rfl, rfl, rfl, rfl, rfl, rfl, rfl, rfl, trivial⟩ ⟨(fun z hz => hz), (fun x => ⟨fun h => (by cases h), fun ⟨z, h1, h2, _⟩ => absurd h1 h2⟩), (H28.takes [0, 1, 2, 3, 4, 5, 6, 7, 8, 9, 10, 11, 12, 13, 14] (by decide))⟩ ?_
  rintro ⟨rem, cur, G⟩ wq29 ⟨hrr, hG, H30⟩
  refine g_weak [(1, .int .i64 i0), (2, .pointer (some ⟨g1, 0, none⟩)), (4, .slice none 0 0), (6, .func (.func 98) #[] #[.pointer (some ⟨g4, 0, none⟩)]), (7, .pointer (some ⟨g9, 0, none⟩)), (9, .map (some mj)), (10, .pointer (some ⟨g19, 0, none⟩)), (27, .slice (roO (od i0)).p (roO (od i0)).l.length (roO (od i0)).c), (28, .int .i64 (((roO (od i0)).l.length : Int))), (29, .int .i64 ((j : Int))), (35, .pointer (some ⟨rr25, 0, none⟩))] ⟨rfl, rfl, rfl, rfl, rfl, rfl, rfl, rfl, rfl, rfl, rfl, trivial⟩ ?_
  refine R.g_seq ?_
  refine R.g_region ?_
  refine R.l_of rfl (fun h => hL h) (s_next H30 0 (wt0 rfl) rfl rfl rfl rfl rfl (fun hnil40 => ?_) (fun q31 rem32 wx33 hp34 hok35 hN36 hm37 hl38 Hx39 => ?_))
  ·
   subst hnil40
   have H41 : S wq29 [Mp spK snV okP mj (ct mj), FamM spK snV okP (ms.erase mj) ct, Ob g19 (.cells #[.map (some mg16)] 29 (0, 0)), Mp (Value.int .i64) Value.bool okI mg16 G, Rw 3 1 p2 n2 c2 (zV out), Ob g9 (.cells #[.slice p2 n2 c2] 24 (0, 0)), Ob g4 (.cells #[.map (some m)] 70 (0, 0)), Ob g1 (.cells #[.pointer (some ⟨b, 0, none⟩)] 28 (0, 0)), Marks Ds, Ob b (.cells #[.map (some m1), .map (some m2), .map (some m3), .map (some m4)] 66 (0, 0)), Mp (Value.int .i64) (Value.int .i64) okI m1 M, Mp (Value.int .i64) mpV okI m3 nw, Mp (Value.int .i64) roV okI m4 od, RowsI 70 1 mpL rs, Old w (fps [Ob b (.cells #[.map (some m1), .map (some m2), .map (some m3), .map (some m4)] 66 (0, 0)), Mp (Value.int .i64) (Value.int .i64) okI m1 sc, Mp (Value.int .i64) mpV okI m3 nw, Mp (Value.int .i64) roV okI m4 od, FamM spK snV okP ms ct, RowsI 70 1 mpL rs])] := H30.unR (k0 := 0) rfl
   refine R.l_of rfl (fun h => hL h) (s_val (v := .bool false) (wt0 rfl) rfl rfl (x_extract rfl rfl rfl) ?_)
   refine R.g_nil ?_
   refine g_then ?_
   refine R.g_seq ?_
   refine R.g_cond_f rfl rfl ?_
   refine R.g_exit ?_
   refine g_then_exit ?_
   refine g_then_exit ?_
   refine g_in_hit ?_
   refine g_then ?_
   refine R.g_seq ?_
   refine R.g_region ?_
   have hGd := dif_all hrem26 hG
   have H42 := S.famMin (H41.takes [0, 1, 2, 3, 4, 5, 6, 7, 8, 9, 10, 11, 12, 13, 14] (by decide)) hmjs hmn
   rw [upd_self] at H42
   replace H42 : S wq29 [FamM spK snV okP ms ct, Ob g19 (.cells #[.map (some mg16)] 29 (0, 0)), Mp (Value.int .i64) Value.bool okI mg16 G, Rw 3 1 p2 n2 c2 (zV out), Ob g9 (.cells #[.slice p2 n2 c2] 24 (0, 0)), Ob g4 (.cells #[.map (some m)] 70 (0, 0)), Ob g1 (.cells #[.pointer (some ⟨b, 0, none⟩)] 28 (0, 0)), Marks Ds, Ob b (.cells #[.map (some m1), .map (some m2), .map (some m3), .map (some m4)] 66 (0, 0)), Mp (Value.int .i64) (Value.int .i64) okI m1 M, Mp (Value.int .i64) mpV okI m3 nw, Mp (Value.int .i64) roV okI m4 od, RowsI 70 1 mpL rs, Old w (fps [Ob b (.cells #[.map (some m1), .map (some m2), .map (some m3), .map (some m4)] 66 (0, 0)), Mp (Value.int .i64) (Value.int .i64) okI m1 sc, Mp (Value.int .i64) mpV okI m3 nw, Mp (Value.int .i64) roV okI m4 od, FamM spK snV okP ms ct, RowsI 70 1 mpL rs])] := H42
   refine R.l_of rfl (fun h => hL h) (s_val (v := .map (some mj)) (wt0 rfl) rfl rfl (x_move rfl rfl) ?_)
   refine R.l_of rfl (fun h => hL h) (s_call (wt0 rfl) (x_call' rfl rfl cl37) (all_s _ _) ?_)
   rintro _ wq44 ⟨b43, rfl, H45⟩
   replace H45 : S wq44 [Ob b43 (.cells #[.map (some mj)] 70 (0, 0)), FamM spK snV okP ms ct, Ob g19 (.cells #[.map (some mg16)] 29 (0, 0)), Mp (Value.int .i64) Value.bool okI mg16 G, Rw 3 1 p2 n2 c2 (zV out), Ob g9 (.cells #[.slice p2 n2 c2] 24 (0, 0)), Ob g4 (.cells #[.map (some m)] 70 (0, 0)), Ob g1 (.cells #[.pointer (some ⟨b, 0, none⟩)] 28 (0, 0)), Marks Ds, Ob b (.cells #[.map (some m1), .map (some m2), .map (some m3), .map (some m4)] 66 (0, 0)), Mp (Value.int .i64) (Value.int .i64) okI m1 M, Mp (Value.int .i64) mpV okI m3 nw, Mp (Value.int .i64) roV okI m4 od, RowsI 70 1 mpL rs, Old w (fps [Ob b (.cells #[.map (some m1), .map (some m2), .map (some m3), .map (some m4)] 66 (0, 0)), Mp (Value.int .i64) (Value.int .i64) okI m1 sc, Mp (Value.int .i64) mpV okI m3 nw, Mp (Value.int .i64) roV okI m4 od, FamM spK snV okP ms ct, RowsI 70 1 mpL rs])] := H42.absorb (new := [Ob b43 (.cells #[.map (some mj)] 70 (0, 0))]) H45
   refine b_ret rfl rfl ?_
   refine R.l_of rfl (fun h => hL h) (s_call (wt0 rfl) (x_call' rfl rfl cl36) (collect_t (mo := (some mj)) (fun m2 h2 => by cases h2; exact hmjs) hB.tok _ (H45.takes [0, 1] (by decide))) ?_)
   rintro _ wq48 ⟨p46, c47, rfl, H49⟩
   replace H49 : S wq48 [Rw 3 1 p46 (whoL (ct mj)).length c47 (zV (whoL (ct mj))), FamM spK snV okP ms ct, Ob g19 (.cells #[.map (some mg16)] 29 (0, 0)), Mp (Value.int .i64) Value.bool okI mg16 G, Rw 3 1 p2 n2 c2 (zV out), Ob g9 (.cells #[.slice p2 n2 c2] 24 (0, 0)), Ob g4 (.cells #[.map (some m)] 70 (0, 0)), Ob g1 (.cells #[.pointer (some ⟨b, 0, none⟩)] 28 (0, 0)), Marks Ds, Ob b (.cells #[.map (some m1), .map (some m2), .map (some m3), .map (some m4)] 66 (0, 0)), Mp (Value.int .i64) (Value.int .i64) okI m1 M, Mp (Value.int .i64) mpV okI m3 nw, Mp (Value.int .i64) roV okI m4 od, RowsI 70 1 mpL rs, Old w (fps [Ob b (.cells #[.map (some m1), .map (some m2), .map (some m3), .map (some m4)] 66 (0, 0)), Mp (Value.int .i64) (Value.int .i64) okI m1 sc, Mp (Value.int .i64) mpV okI m3 nw, Mp (Value.int .i64) roV okI m4 od, FamM spK snV okP ms ct, RowsI 70 1 mpL rs])] := H45.absorbI (new := [Rw 3 1 p46 (whoL (ct mj)).length c47 (zV (whoL (ct mj))), FamM spK snV okP ms ct]) [0, 1] H49
   refine b_ret rfl rfl ?_
   refine R.l_of rfl (fun h => hL h) (s_val (v := .int .i64 (((whoL (ct mj)).length : Int))) (wt0 rfl) rfl rfl (x_lenl rfl rfl Try.underlying24) ?_)
   refine R.l_of rfl (fun h => hL h) (s_val (v := .bool (decide ((((whoL (ct mj)).length : Int) : Int) = 1))) (wt0 rfl) rfl rfl (x_bin rfl rfl rfl b_eql) ?_)
   refine R.l_of rfl (fun h => hL h) (s_alloc H49 (wt0 rfl) rfl rfl rfl ze4 ?_)
   intro g50 wq51 H52
   refine R.l_of rfl (fun h => hL h) (s_store H52 0 (wt0 rfl) rfl rfl rfl rfl rfl sz4 rfl rfl (cs' := #[.bool (decide ((((whoL (ct mj)).length : Int) : Int) = 1))]) rfl ?_)
   intro wq53 H54
   refine R.g_nil ?_
   refine g_then ?_
   refine R.g_seq ?_
   refine R.g_region ?_
   refine R.l_of rfl (fun h => hL h) (s_val (v := .map (some mj)) (wt0 rfl) rfl rfl (x_move rfl rfl) ?_)
   refine R.l_of rfl (fun h => hL h) (s_call (wt0 rfl) (x_call' rfl rfl cl37) (all_s _ _) ?_)
   rintro _ wq56 ⟨b55, rfl, H57⟩
   replace H57 : S wq56 [Ob b55 (.cells #[.map (some mj)] 70 (0, 0)), Ob g50 (.cells #[.bool (decide ((((whoL (ct mj)).length : Int) : Int) = 1))] 4 (0, 0)), Rw 3 1 p46 (whoL (ct mj)).length c47 (zV (whoL (ct mj))), FamM spK snV okP ms ct, Ob g19 (.cells #[.map (some mg16)] 29 (0, 0)), Mp (Value.int .i64) Value.bool okI mg16 G, Rw 3 1 p2 n2 c2 (zV out), Ob g9 (.cells #[.slice p2 n2 c2] 24 (0, 0)), Ob g4 (.cells #[.map (some m)] 70 (0, 0)), Ob g1 (.cells #[.pointer (some ⟨b, 0, none⟩)] 28 (0, 0)), Marks Ds, Ob b (.cells #[.map (some m1), .map (some m2), .map (some m3), .map (some m4)] 66 (0, 0)), Mp (Value.int .i64) (Value.int .i64) okI m1 M, Mp (Value.int .i64) mpV okI m3 nw, Mp (Value.int .i64) roV okI m4 od, RowsI 70 1 mpL rs, Old w (fps [Ob b (.cells #[.map (some m1), .map (some m2), .map (some m3), .map (some m4)] 66 (0, 0)), Mp (Value.int .i64) (Value.int .i64) okI m1 sc, Mp (Value.int .i64) mpV okI m3 nw, Mp (Value.int .i64) roV okI m4 od, FamM spK snV okP ms ct, RowsI 70 1 mpL rs])] := H54.absorb (new := [Ob b55 (.cells #[.map (some mj)] 70 (0, 0))]) H57
   refine b_ret rfl rfl ?_
   refine R.g_nil ?_
   refine g_then ?_
   refine R.g_block ?_
   have H58 := S.big (L := [_, _]) (H57.takes [0, 3, 1, 2, 4, 5, 6, 7, 8, 9, 10, 11, 12, 13, 14, 15, 16] (by decide))
   have H59 := S.noI (H58.takes [0, 1, 2, 3, 4, 5, 6, 7, 8, 9, 10, 11, 12, 13, 14, 15] (by decide))
   refine g_rangeW (α := Int) (ι := Unit) (encs := encI) (base := Big [Ob b55 (.cells #[.map (some mj)] 70 (0, 0)), FamM spK snV okP ms ct]) (by omega) rfl cl65 (all_it (mo := some mj) (fun m2 h2 => by cases h2; exact hmjs) hB.tok) (fun _ => rfl) rfl (fun pre Lx => ∃ (p3 : Option Addr), ∃ (n3 : Nat), ∃ (c3 : Nat), ∃ (out3 : List Int), ∃ (M3 : (Int → Option Int)), (n3 = out3.length ∧ out3 = out ++ (pre).filter (gB (ct m) (ct mj)) ∧ (∀ y, (M3 y).getD 0 = if y ∈ pre ∧ (gB (ct m) (ct mj)) y = false then IntKind.i64.wrap ((M y).getD 0 - 1) else (M y).getD 0) ∧ out3.length ≤ out.length + (pre).length) ∧ Lx = [Ob g50 (.cells #[.bool (decide ((((whoL (ct mj)).length : Int) : Int) = 1))] 4 (0, 0)), Rw 3 1 p46 (whoL (ct mj)).length c47 (zV (whoL (ct mj))), Ob g19 (.cells #[.map (some mg16)] 29 (0, 0)), Mp (Value.int .i64) Value.bool okI mg16 G, Rw 3 1 p3 n3 c3 (zV out3), Ob g9 (.cells #[.slice p3 n3 c3] 24 (0, 0)), Ob g4 (.cells #[.map (some m)] 70 (0, 0)), Ob g1 (.cells #[.pointer (some ⟨b, 0, none⟩)] 28 (0, 0)), Marks Ds, Ob b (.cells #[.map (some m1), .map (some m2), .map (some m3), .map (some m4)] 66 (0, 0)), Mp (Value.int .i64) (Value.int .i64) okI m1 M3, Mp (Value.int .i64) mpV okI m3 nw, Mp (Value.int .i64) roV okI m4 od, RowsI 70 1 mpL rs, Old w (fps [Ob b (.cells #[.map (some m1), .map (some m2), .map (some m3), .map (some m4)] 66 (0, 0)), Mp (Value.int .i64) (Value.int .i64) okI m1 sc, Mp (Value.int .i64) mpV okI m3 nw, Mp (Value.int .i64) roV okI m4 od, FamM spK snV okP ms ct, RowsI 70 1 mpL rs])]) (fun pre Lx => False) (fun p ia => [(2, .pointer (some ⟨g1, 0, none⟩)), (7, .pointer (some ⟨g9, 0, none⟩)), (10, .pointer (some ⟨g19, 0, none⟩)), (13, .pointer (some ⟨g50, 0, none⟩)), (14, .int .i64 p)]) (fun p ia => []) (fun _ _ _ _ _ => trivial) ⟨p2, n2, c2, out, M, ⟨hn2, by simp, fun y => by simp, by simp⟩, rfl⟩ H59 ?_ ?_ ?_ ?_
   ·
    rintro l1 p Ly W60 H61
    have hL : ¬ LetsOut (fun (_ : Exit) (_ : Act) (_ : World) => False) := fun ⟨_, _, h⟩ => h
    refine g_weak [(2, .pointer (some ⟨g1, 0, none⟩)), (7, .pointer (some ⟨g9, 0, none⟩)), (10, .pointer (some ⟨g19, 0, none⟩)), (13, .pointer (some ⟨g50, 0, none⟩)), (55, .int .i64 p)] ⟨rfl, rfl, rfl, rfl, rfl, trivial⟩ ?_
    refine R.g_region ?_
    refine R.l_of rfl (fun h => hL h) (s_val (v := .int .i64 p) (wt0 rfl) rfl rfl (x_assign rfl rfl) ?_)
    refine R.g_nil ?_
    refine g_then ?_
    exact rw_assign () ⟨rfl, rfl, rfl, rfl, rfl, trivial⟩ H61
   ·
    rintro l1 pr x ia II Kx _ W62 ⟨p3, n3, c3, out3, M3, hJ, rfl⟩ hphi H63
    have H64 := S.unbig (H63.takes [3, 0, 1, 2, 4, 5, 6, 7, 8, 9, 10, 11, 12, 13, 14, 15, 16, 17, 18] (by decide))
    refine g_weak [(2, .pointer (some ⟨g1, 0, none⟩)), (7, .pointer (some ⟨g9, 0, none⟩)), (10, .pointer (some ⟨g19, 0, none⟩)), (13, .pointer (some ⟨g50, 0, none⟩)), (14, .int .i64 x)] ⟨rfl, rfl, rfl, rfl, rfl, trivial⟩ ?_
    obtain ⟨post, hpost⟩ := hphi
    have hok_x : okI x := okI_in ((hB.tok mj hmjs).whoIn (by show x ∈ whoL (tryOf ct (some mj)); rw [hpost]; simp))
    have hpl := pre_lt hpost
    have hwj : (whoL (tryOf ct (some mj))).length ≤ 1001 := (hB.tok mj hmjs).whoLen
    have hJ4 := hJ.2.2.2
    have hJ1 := hJ.1
    refine R.g_block ?_
    refine R.g_seq ?_
    refine R.g_region ?_
    refine R.l_of rfl (fun ⟨_, _, h⟩ => h) (s_val (v := .map (some mg16)) (wt0 rfl) rfl rfl (x_load1 H64 5 rfl rfl Try.underlying29 rfl rfl rfl) ?_)
    refine R.l_of rfl (fun ⟨_, _, h⟩ => h) (s_val (v := .int .i64 x) (wt0 rfl) rfl rfl (x_move rfl rfl) ?_)
    refine R.l_of rfl (fun ⟨_, _, h⟩ => h) (s_val (v := .bool (((G x).getD false))) (wt0 rfl) rfl rfl (ex_cast (x_lookup1 (x := x) (intTy Try.underlying29 Try.underlying3) H64 6 rfl rfl rfl rfl (hok_x) ze4) (look_B _)) ?_)
    refine R.l_of rfl (fun ⟨_, _, h⟩ => h) (s_val (v := .bool (((G x).getD false))) (wt0 rfl) rfl rfl (x_move rfl rfl) ?_)
    rcases Bool.eq_false_or_eq_true (((G x).getD false)) with hb65 | hb65
    ·
     refine R.l_of rfl (fun ⟨_, _, h⟩ => h) (s_not (wn1 rfl rfl rfl rfl hb65) rfl rfl ?_)
     refine R.l_of rfl (fun ⟨_, _, h⟩ => h) (s_val (v := .bool true) (wt0 rfl) rfl rfl (x_pick_t rfl rfl hb65 rfl) ?_)
     refine R.g_nil ?_
     refine g_then ?_
     refine R.g_cond_t rfl rfl ?_
     refine R.g_region ?_
     refine R.l_of rfl (fun ⟨_, _, h⟩ => h) (s_val (v := .slice p3 n3 c3) (wt0 rfl) rfl rfl (x_load1 H64 8 rfl rfl Try.underlying24 rfl rfl rfl) ?_)
     refine R.l_of rfl (fun ⟨_, _, h⟩ => h) (s_val (v := .int .i64 x) (wt0 rfl) rfl rfl (x_move rfl rfl) ?_)
     refine R.l_of rfl (fun ⟨_, _, h⟩ => h) (s_buildSlice H64 (wt0 rfl) rfl rfl rfl (vs := [.int .i64 x]) rfl Try.underlying24 sz3 ze3 rfl rfl (cells := #[.int .i64 x]) (by kernel_rfl) ?_)
     intro g66 wq67 H68
     refine R.l_of rfl (fun ⟨_, _, h⟩ => h) (s_appendR (n := n3) (m := 1) (sc := c3) (xs := (zV out3)) (news := [.int .i64 x]) (p := p3) (ad := ⟨g66, 0, none⟩) H68 8 (wt0 rfl) rfl rfl rfl rfl rfl rfl Try.underlying24 inf3 rfl (by decide) (by decide) rfl (by decide) (news_ob H68 (j0 := 0) rfl) rfl (by omega) ?_)
     intro p69 c70 wq71 (H72 : S wq71 [Ob g66 (.cells #[.int .i64 x] 3 (0, 0)), Big [Ob b55 (.cells #[.map (some mj)] 70 (0, 0)), FamM spK snV okP ms ct], II, Kx, Ob g50 (.cells #[.bool (decide ((((whoL (ct mj)).length : Int) : Int) = 1))] 4 (0, 0)), Rw 3 1 p46 (whoL (ct mj)).length c47 (zV (whoL (ct mj))), Ob g19 (.cells #[.map (some mg16)] 29 (0, 0)), Mp (Value.int .i64) Value.bool okI mg16 G, Rw 3 1 p69 (n3 + 1) c70 ((zV out3) ++ [.int .i64 x]), Ob g9 (.cells #[.slice p3 n3 c3] 24 (0, 0)), Ob g4 (.cells #[.map (some m)] 70 (0, 0)), Ob g1 (.cells #[.pointer (some ⟨b, 0, none⟩)] 28 (0, 0)), Marks Ds, Ob b (.cells #[.map (some m1), .map (some m2), .map (some m3), .map (some m4)] 66 (0, 0)), Mp (Value.int .i64) (Value.int .i64) okI m1 M3, Mp (Value.int .i64) mpV okI m3 nw, Mp (Value.int .i64) roV okI m4 od, RowsI 70 1 mpL rs, Old w (fps [Ob b (.cells #[.map (some m1), .map (some m2), .map (some m3), .map (some m4)] 66 (0, 0)), Mp (Value.int .i64) (Value.int .i64) okI m1 sc, Mp (Value.int .i64) mpV okI m3 nw, Mp (Value.int .i64) roV okI m4 od, FamM spK snV okP ms ct, RowsI 70 1 mpL rs])])
     refine R.l_of rfl (fun ⟨_, _, h⟩ => h) (s_store H72 9 (wt0 rfl) rfl rfl rfl rfl rfl sz24 rfl rfl (cs' := #[.slice p69 (n3 + 1) c70]) rfl ?_)
     intro wq73 H74
     refine R.g_nil ?_
     refine g_in ?_
     have hgo : (gB (ct m) (ct mj)) x = true := by rw [← gB_of (hGd x)]; first | (simp [hb65]; done) | (simp [hb65]; omega)
     rw [← zV_snoc] at H74
     exact rs_next ⟨p69, (n3 + 1), c70, (out3 ++ [x]), M3, ⟨by rw [List.length_append, List.length_singleton, hJ.1], by rw [filt_yes hgo, ← List.append_assoc, ← hJ.2.1], down_yes hgo hJ.2.2.1, by have h1 := hJ.2.2.2; simp only [List.length_append, List.length_singleton]; omega⟩, rfl⟩ (H74.takes [1, 2, 3, 4, 5, 6, 7, 8, 9, 10, 11, 12, 13, 14, 15, 16, 17, 18] (by decide))
    ·
     refine R.l_of rfl (fun ⟨_, _, h⟩ => h) (s_val (v := .bool (decide ((((whoL (ct mj)).length : Int) : Int) = 1))) (wt1 rfl rfl rfl rfl hb65) rfl rfl (x_load1 H64 3 rfl rfl Try.underlying4 rfl rfl rfl) ?_)
     refine R.l_of rfl (fun ⟨_, _, h⟩ => h) (s_val (v := .bool (decide ((((whoL (ct mj)).length : Int) : Int) = 1))) (wt0 rfl) rfl rfl (x_pick_f rfl rfl hb65 rfl) ?_)
     refine R.g_nil ?_
     refine g_then ?_
     by_cases hb75 : (((whoL (ct mj)).length : Int) : Int) = 1
     ·
      refine R.g_cond_t rfl (decide_eq_true hb75) ?_
      refine R.g_region ?_
      refine R.l_of rfl (fun ⟨_, _, h⟩ => h) (s_val (v := .slice p3 n3 c3) (wt0 rfl) rfl rfl (x_load1 H64 8 rfl rfl Try.underlying24 rfl rfl rfl) ?_)
      refine R.l_of rfl (fun ⟨_, _, h⟩ => h) (s_val (v := .int .i64 x) (wt0 rfl) rfl rfl (x_move rfl rfl) ?_)
      refine R.l_of rfl (fun ⟨_, _, h⟩ => h) (s_buildSlice H64 (wt0 rfl) rfl rfl rfl (vs := [.int .i64 x]) rfl Try.underlying24 sz3 ze3 rfl rfl (cells := #[.int .i64 x]) (by kernel_rfl) ?_)
      intro g76 wq77 H78
      refine R.l_of rfl (fun ⟨_, _, h⟩ => h) (s_appendR (n := n3) (m := 1) (sc := c3) (xs := (zV out3)) (news := [.int .i64 x]) (p := p3) (ad := ⟨g76, 0, none⟩) H78 8 (wt0 rfl) rfl rfl rfl rfl rfl rfl Try.underlying24 inf3 rfl (by decide) (by decide) rfl (by decide) (news_ob H78 (j0 := 0) rfl) rfl (by omega) ?_)
      intro p79 c80 wq81 (H82 : S wq81 [Ob g76 (.cells #[.int .i64 x] 3 (0, 0)), Big [Ob b55 (.cells #[.map (some mj)] 70 (0, 0)), FamM spK snV okP ms ct], II, Kx, Ob g50 (.cells #[.bool (decide ((((whoL (ct mj)).length : Int) : Int) = 1))] 4 (0, 0)), Rw 3 1 p46 (whoL (ct mj)).length c47 (zV (whoL (ct mj))), Ob g19 (.cells #[.map (some mg16)] 29 (0, 0)), Mp (Value.int .i64) Value.bool okI mg16 G, Rw 3 1 p79 (n3 + 1) c80 ((zV out3) ++ [.int .i64 x]), Ob g9 (.cells #[.slice p3 n3 c3] 24 (0, 0)), Ob g4 (.cells #[.map (some m)] 70 (0, 0)), Ob g1 (.cells #[.pointer (some ⟨b, 0, none⟩)] 28 (0, 0)), Marks Ds, Ob b (.cells #[.map (some m1), .map (some m2), .map (some m3), .map (some m4)] 66 (0, 0)), Mp (Value.int .i64) (Value.int .i64) okI m1 M3, Mp (Value.int .i64) mpV okI m3 nw, Mp (Value.int .i64) roV okI m4 od, RowsI 70 1 mpL rs, Old w (fps [Ob b (.cells #[.map (some m1), .map (some m2), .map (some m3), .map (some m4)] 66 (0, 0)), Mp (Value.int .i64) (Value.int .i64) okI m1 sc, Mp (Value.int .i64) mpV okI m3 nw, Mp (Value.int .i64) roV okI m4 od, FamM spK snV okP ms ct, RowsI 70 1 mpL rs])])
      refine R.l_of rfl (fun ⟨_, _, h⟩ => h) (s_store H82 9 (wt0 rfl) rfl rfl rfl rfl rfl sz24 rfl rfl (cs' := #[.slice p79 (n3 + 1) c80]) rfl ?_)
      intro wq83 H84
      refine R.g_nil ?_
      refine g_in ?_
      have hgo : (gB (ct m) (ct mj)) x = true := by rw [← gB_of (hGd x)]; first | (simp [hb65, hb75]; done) | (simp [hb65, hb75]; omega)
      rw [← zV_snoc] at H84
      exact rs_next ⟨p79, (n3 + 1), c80, (out3 ++ [x]), M3, ⟨by rw [List.length_append, List.length_singleton, hJ.1], by rw [filt_yes hgo, ← List.append_assoc, ← hJ.2.1], down_yes hgo hJ.2.2.1, by have h1 := hJ.2.2.2; simp only [List.length_append, List.length_singleton]; omega⟩, rfl⟩ (H84.takes [1, 2, 3, 4, 5, 6, 7, 8, 9, 10, 11, 12, 13, 14, 15, 16, 17, 18] (by decide))
     ·
      refine R.g_cond_f rfl (decide_eq_false hb75) ?_
      refine R.g_region ?_
      refine R.l_of rfl (fun ⟨_, _, h⟩ => h) (s_val (v := .pointer (some ⟨b, 0, none⟩)) (wt0 rfl) rfl rfl (x_load1 H64 10 rfl rfl Try.underlying28 rfl rfl rfl) ?_)
      refine R.l_of rfl (fun ⟨_, _, h⟩ => h) (s_val (v := .pointer (some ⟨b, 0, none⟩)) (wt0 rfl) rfl rfl (x_nilCheck rfl rfl) ?_)
      refine R.l_of rfl (fun ⟨_, _, h⟩ => h) (s_val (v := .pointer (some ⟨b, 0, none⟩)) (wt0 rfl) rfl rfl (x_fieldAddr rfl rfl fo66_0 rfl) ?_)
      refine R.l_of rfl (fun ⟨_, _, h⟩ => h) (s_val (v := .pointer (some ⟨b, 0, none⟩)) (wt0 rfl) rfl rfl (x_fieldAddr rfl rfl fo62_0 rfl) ?_)
      refine R.l_of rfl (fun ⟨_, _, h⟩ => h) (s_val (v := .map (some m1)) (wt0 rfl) rfl rfl (x_load1 H64 12 rfl rfl Try.underlying60 rfl rfl rfl) ?_)
      refine R.l_of rfl (fun ⟨_, _, h⟩ => h) (s_val (v := .int .i64 x) (wt0 rfl) rfl rfl (x_move rfl rfl) ?_)
      refine R.l_of rfl (fun ⟨_, _, h⟩ => h) (s_val (v := .int .i64 (((M3 x).getD 0))) (wt0 rfl) rfl rfl (ex_cast (x_lookup1 (x := x) (intTy Try.underlying60 Try.underlying3) H64 13 rfl rfl rfl rfl (hok_x) ze3) (look_I _)) ?_)
      refine R.l_of rfl (fun ⟨_, _, h⟩ => h) (s_val (v := .int .i64 (IntKind.i64.wrap (((M3 x).getD 0) - 1))) (wt0 rfl) rfl rfl (x_bin rfl rfl rfl (b_sub rfl)) ?_)
      refine R.l_of rfl (fun ⟨_, _, h⟩ => h) (s_mapUpdate (x := x) (a := IntKind.i64.wrap (((M3 x).getD 0) - 1)) (intTy Try.underlying60 Try.underlying3) H64 13 (wt0 rfl) rfl rfl rfl rfl rfl rfl (hok_x) ?_)
      intro wq85 H86
      refine R.g_nil ?_
      refine g_in ?_
      have hgo : (gB (ct m) (ct mj)) x = false := by rw [← gB_of (hGd x)]; first | (simp [hb65, hb75]; done) | (simp [hb65, hb75]; omega)
      exact rs_next ⟨p3, n3, c3, out3, (upM M3 x (IntKind.i64.wrap (((M3 x).getD 0) - 1))), ⟨hJ.1, by rw [filt_no hgo]; exact hJ.2.1, down_no (mid_new (hB.tok mj hmjs).who.1 hpost) hgo hJ.2.2.1, by have h1 := hJ.2.2.2; simp only [List.length_append, List.length_singleton]; omega⟩, rfl⟩ (H86.takes [0, 1, 2, 3, 4, 5, 6, 7, 8, 9, 10, 11, 12, 13, 14, 15, 16, 17] (by decide))
   ·
    rintro D xs _ W87 rfl ⟨p3, n3, c3, out3, M3, hJ, rfl⟩ H88
    have H89 : S W87 [Ob b55 (.cells #[.map (some mj)] 70 (0, 0)), FamM spK snV okP ms ct, Ob D (.deferred (some [])), Ob g50 (.cells #[.bool (decide ((((whoL (ct mj)).length : Int) : Int) = 1))] 4 (0, 0)), Rw 3 1 p46 (whoL (ct mj)).length c47 (zV (whoL (ct mj))), Ob g19 (.cells #[.map (some mg16)] 29 (0, 0)), Mp (Value.int .i64) Value.bool okI mg16 G, Rw 3 1 p3 n3 c3 (zV out3), Ob g9 (.cells #[.slice p3 n3 c3] 24 (0, 0)), Ob g4 (.cells #[.map (some m)] 70 (0, 0)), Ob g1 (.cells #[.pointer (some ⟨b, 0, none⟩)] 28 (0, 0)), Marks Ds, Ob b (.cells #[.map (some m1), .map (some m2), .map (some m3), .map (some m4)] 66 (0, 0)), Mp (Value.int .i64) (Value.int .i64) okI m1 M3, Mp (Value.int .i64) mpV okI m3 nw, Mp (Value.int .i64) roV okI m4 od, RowsI 70 1 mpL rs, Old w (fps [Ob b (.cells #[.map (some m1), .map (some m2), .map (some m3), .map (some m4)] 66 (0, 0)), Mp (Value.int .i64) (Value.int .i64) okI m1 sc, Mp (Value.int .i64) mpV okI m3 nw, Mp (Value.int .i64) roV okI m4 od, FamM spK snV okP ms ct, RowsI 70 1 mpL rs])] := S.unbig (H88.takes [1, 0, 2, 3, 4, 5, 6, 7, 8, 9, 10, 11, 12, 13, 14, 15, 16] (by decide))
    have H90 : S W87 [Ob b55 (.cells #[.map (some mj)] 70 (0, 0)), FamM spK snV okP ms ct, Ob g50 (.cells #[.bool (decide ((((whoL (ct mj)).length : Int) : Int) = 1))] 4 (0, 0)), Rw 3 1 p46 (whoL (ct mj)).length c47 (zV (whoL (ct mj))), Ob g19 (.cells #[.map (some mg16)] 29 (0, 0)), Mp (Value.int .i64) Value.bool okI mg16 G, Rw 3 1 p3 n3 c3 (zV out3), Ob g9 (.cells #[.slice p3 n3 c3] 24 (0, 0)), Ob g4 (.cells #[.map (some m)] 70 (0, 0)), Ob g1 (.cells #[.pointer (some ⟨b, 0, none⟩)] 28 (0, 0)), Marks (D :: Ds), Ob b (.cells #[.map (some m1), .map (some m2), .map (some m3), .map (some m4)] 66 (0, 0)), Mp (Value.int .i64) (Value.int .i64) okI m1 M3, Mp (Value.int .i64) mpV okI m3 nw, Mp (Value.int .i64) roV okI m4 od, RowsI 70 1 mpL rs, Old w (fps [Ob b (.cells #[.map (some m1), .map (some m2), .map (some m3), .map (some m4)] 66 (0, 0)), Mp (Value.int .i64) (Value.int .i64) okI m1 sc, Mp (Value.int .i64) mpV okI m3 nw, Mp (Value.int .i64) roV okI m4 od, FamM spK snV okP ms ct, RowsI 70 1 mpL rs])] := S.consMark (H89.takes [2, 0, 1, 3, 4, 5, 6, 7, 8, 9, 10, 11, 12, 13, 14, 15, 16, 17] (by decide)) (k := 10) rfl
    refine g_in ?_
    refine g_in ?_
    refine g_then ?_
    refine g_weak [(1, .int .i64 i0), (2, .pointer (some ⟨g1, 0, none⟩)), (4, .slice none 0 0), (6, .func (.func 98) #[] #[.pointer (some ⟨g4, 0, none⟩)]), (7, .pointer (some ⟨g9, 0, none⟩)), (27, .slice (roO (od i0)).p (roO (od i0)).l.length (roO (od i0)).c), (28, .int .i64 (((roO (od i0)).l.length : Int))), (29, .int .i64 ((j : Int)))] ⟨rfl, rfl, rfl, rfl, rfl, rfl, rfl, rfl, trivial⟩ ?_
    refine R.g_region ?_
    refine R.l_of rfl (fun h => hL h) (s_val (v := .int .i64 (((j + 1 : Nat) : Int))) (wt0 rfl) rfl rfl (x_bin rfl rfl rfl (b_add (by rw [w64 (by omega)]; omega))) ?_)
    refine R.l_of rfl (fun h => hL h) (s_val (v := .int .i64 (((j + 1 : Nat) : Int))) (wt0 rfl) rfl rfl (x_move rfl rfl) ?_)
    refine R.g_nil ?_
    refine g_then ?_
    refine g_roundD (i := (j, M, out, p2, n2, c2, Ds)) ((j + 1), M3, out3, p3, n3, c3, (D :: Ds)) ?_ rfl ?_ ?_
    · exact ⟨rfl, rfl, rfl, rfl, rfl, rfl, rfl, rfl, trivial⟩
    · exact ⟨by omega, hJ.1, (by rw [take_snoc hmj, List.map_append, List.map_singleton, outL_snoc, ← hout]; exact hJ.2.1), (fun y => by rw [take_snoc hmj, List.map_append, List.map_singleton, scJ_snoc, ← hM]; exact hJ.2.2.1 y), (by have h1 := hJ.2.2.2; have h2 : (whoL (tryOf ct (some mj))).length ≤ 1001 := (hB.tok mj hmjs).whoLen; omega), (H90.takes [6, 7, 8, 9, 10, 11, 12, 13, 14, 1, 15, 16] (by decide))⟩
    · (try dsimp only); omega
   · rintro D pr _ W _ h; exact h.elim
  ·
   have H91 : S wx33 [MpR spK snV okP mj rr25 (ct mj) rem32 (some q31), FamM spK snV okP (ms.erase mj) ct, Ob g19 (.cells #[.map (some mg16)] 29 (0, 0)), Mp (Value.int .i64) Value.bool okI mg16 G, Rw 3 1 p2 n2 c2 (zV out), Ob g9 (.cells #[.slice p2 n2 c2] 24 (0, 0)), Ob g4 (.cells #[.map (some m)] 70 (0, 0)), Ob g1 (.cells #[.pointer (some ⟨b, 0, none⟩)] 28 (0, 0)), Marks Ds, Ob b (.cells #[.map (some m1), .map (some m2), .map (some m3), .map (some m4)] 66 (0, 0)), Mp (Value.int .i64) (Value.int .i64) okI m1 M, Mp (Value.int .i64) mpV okI m3 nw, Mp (Value.int .i64) roV okI m4 od, RowsI 70 1 mpL rs, Old w (fps [Ob b (.cells #[.map (some m1), .map (some m2), .map (some m3), .map (some m4)] 66 (0, 0)), Mp (Value.int .i64) (Value.int .i64) okI m1 sc, Mp (Value.int .i64) mpV okI m3 nw, Mp (Value.int .i64) roV okI m4 od, FamM spK snV okP ms ct, RowsI 70 1 mpL rs])] := Hx39
   refine R.l_of rfl (fun h => hL h) (s_val (v := .bool true) (wt0 rfl) rfl rfl (x_extract rfl rfl rfl) ?_)
   refine R.g_nil ?_
   refine g_then ?_
   refine R.g_seq ?_
   refine R.g_cond_t rfl rfl ?_
   refine R.g_skip ?_
   refine g_then ?_
   refine R.g_block ?_
   refine R.g_seq ?_
   refine R.g_region ?_
   refine R.l_of rfl (fun h => hL h) (s_val (v := .tuple #[.agg #[.int .i64 (q31.1.1), .int .i64 (q31.1.2)], .agg #[.int .i64 (q31.2.1), .string (q31.2.2)]]) (wt0 rfl) rfl rfl (x_entry (k := 0) (t := 0) (e0 := 0) H91 0 rfl rfl rfl) ?_)
   refine R.l_of rfl (fun h => hL h) (s_val (v := .agg #[.int .i64 (q31.1.1), .int .i64 (q31.1.2)]) (wt0 rfl) rfl rfl (x_extract rfl rfl rfl) ?_)
   refine R.l_of rfl (fun h => hL h) (s_val (v := .agg #[.int .i64 (q31.2.1), .string (q31.2.2)]) (wt0 rfl) rfl rfl (x_extract rfl rfl rfl) ?_)
   refine R.l_of rfl (fun h => hL h) (s_alloc H91 (wt0 rfl) rfl rfl rfl ze74 ?_)
   intro g92 wq93 H94
   refine R.l_of rfl (fun h => hL h) (s_alloc H94 (wt0 rfl) rfl rfl rfl ze77 ?_)
   intro g95 wq96 H97
   refine R.l_of rfl (fun h => hL h) (s_store H97 1 (wt0 rfl) rfl rfl rfl rfl rfl sz74 rfl rfl (cs' := #[.int .i64 (q31.1.1), .int .i64 (q31.1.2)]) rfl ?_)
   intro wq98 H99
   refine R.l_of rfl (fun h => hL h) (s_store H99 0 (wt0 rfl) rfl rfl rfl rfl rfl sz77 rfl rfl (cs' := #[.int .i64 (q31.2.1), .string (q31.2.2)]) rfl ?_)
   intro wq100 H101
   refine R.g_nil ?_
   refine g_then ?_
   refine R.g_seq ?_
   refine R.g_region ?_
   refine R.l_of rfl (fun h => hL h) (s_val (v := .func (.func 98) #[] #[.pointer (some ⟨g4, 0, none⟩)]) (wt0 rfl) rfl rfl (x_move rfl rfl) ?_)
   refine R.l_of rfl (fun h => hL h) (s_val (v := .agg #[.int .i64 (q31.1.1), .int .i64 (q31.1.2)]) (wt0 rfl) rfl rfl (x_loadA H101 1 rfl rfl Try.underlying74 rfl sz74 rfl rfl rfl) ?_)
   refine R.l_of rfl (fun h => hL h) (s_val (v := .agg #[.int .i64 (q31.2.1), .string (q31.2.2)]) (wt0 rfl) rfl rfl (x_loadA H101 0 rfl rfl Try.underlying77 rfl sz77 rfl rfl rfl) ?_)
   refine R.l_of rfl (fun h => hL h) (s_call (wt0 rfl) (x_call rfl rfl rfl cl98) (differs_s (mo := some m) (s := q31.1) (x := q31.2) (fun m2 h2 => by cases h2; exact hmE) hok35 _ (H101.takes [8, 3] (by decide))) ?_)
   rintro _ wq102 ⟨rfl, H103⟩
   replace H103 : S wq102 [Ob g4 (.cells #[.map (some m)] 70 (0, 0)), FamM spK snV okP (ms.erase mj) ct, Ob g95 (.cells #[.int .i64 (q31.2.1), .string (q31.2.2)] 77 (0, 0)), Ob g92 (.cells #[.int .i64 (q31.1.1), .int .i64 (q31.1.2)] 74 (0, 0)), MpR spK snV okP mj rr25 (ct mj) rem32 (some q31), Ob g19 (.cells #[.map (some mg16)] 29 (0, 0)), Mp (Value.int .i64) Value.bool okI mg16 G, Rw 3 1 p2 n2 c2 (zV out), Ob g9 (.cells #[.slice p2 n2 c2] 24 (0, 0)), Ob g1 (.cells #[.pointer (some ⟨b, 0, none⟩)] 28 (0, 0)), Marks Ds, Ob b (.cells #[.map (some m1), .map (some m2), .map (some m3), .map (some m4)] 66 (0, 0)), Mp (Value.int .i64) (Value.int .i64) okI m1 M, Mp (Value.int .i64) mpV okI m3 nw, Mp (Value.int .i64) roV okI m4 od, RowsI 70 1 mpL rs, Old w (fps [Ob b (.cells #[.map (some m1), .map (some m2), .map (some m3), .map (some m4)] 66 (0, 0)), Mp (Value.int .i64) (Value.int .i64) okI m1 sc, Mp (Value.int .i64) mpV okI m3 nw, Mp (Value.int .i64) roV okI m4 od, FamM spK snV okP ms ct, RowsI 70 1 mpL rs])] := H101.absorbI (new := [Ob g4 (.cells #[.map (some m)] 70 (0, 0)), FamM spK snV okP (ms.erase mj) ct]) [8, 3] H103
   refine b_ret rfl rfl ?_
   refine R.g_nil ?_
   refine g_then ?_
   rcases Bool.eq_false_or_eq_true ((difB (ct m) q31.1 q31.2)) with hb104 | hb104
   ·
    refine R.g_cond_t rfl hb104 ?_
    refine R.g_region ?_
    refine R.l_of rfl (fun h => hL h) (s_val (v := .map (some mg16)) (wt0 rfl) rfl rfl (x_load1 H103 5 rfl rfl Try.underlying29 rfl rfl rfl) ?_)
    refine R.l_of rfl (fun h => hL h) (s_val (v := .pointer (some ⟨g95, 0, none⟩)) (wt0 rfl) rfl rfl (x_fieldAddr rfl rfl fo77_0 rfl) ?_)
    refine R.l_of rfl (fun h => hL h) (s_val (v := .int .i64 (q31.2.1)) (wt0 rfl) rfl rfl (x_load1 H103 2 rfl rfl Try.underlying3 rfl rfl rfl) ?_)
    refine R.l_of rfl (fun h => hL h) (s_mapUpdate (x := q31.2.1) (a := true) (intTy Try.underlying29 Try.underlying3) H103 6 (wt0 rfl) rfl rfl rfl rfl rfl rfl (okI_in ((hB.tok mj hmjs).inn _ _ hN36).2) ?_)
    intro wq105 H106
    refine R.g_nil ?_
    refine g_in ?_
    refine g_then ?_
    refine g_round (i := (rem, cur, G)) (rem32, (some q31), (upM G q31.2.1 true)) ?_ ?_ ?_
    · exact ⟨rfl, rfl, rfl, rfl, rfl, rfl, rfl, rfl, rfl, rfl, rfl, trivial⟩
    · exact ⟨(fun z hz => hrr z ((hm37 z).1 hz).1), (dif_step (hrr _ hp34) hm37 hb104 hG), (H106.takes [4, 1, 5, 6, 7, 8, 0, 9, 10, 11, 12, 13, 14, 15, 16] (by decide))⟩
    · exact hl38
   ·
    refine R.g_cond_f rfl hb104 ?_
    refine R.g_skip ?_
    refine g_in ?_
    refine g_then ?_
    refine g_round (i := (rem, cur, G)) (rem32, (some q31), G) ?_ ?_ ?_
    · exact ⟨rfl, rfl, rfl, rfl, rfl, rfl, rfl, rfl, rfl, rfl, rfl, trivial⟩
    · exact ⟨(fun z hz => hrr z ((hm37 z).1 hz).1), (dif_skip hm37 hb104 hG), (H103.takes [4, 1, 5, 6, 7, 8, 0, 9, 10, 11, 12, 13, 14, 15, 16] (by decide))⟩
    · exact hl38
 ·
  refine R.g_cond_f rfl (decide_eq_false hb15) ?_
  refine R.g_exit ?_
  refine g_then_exit ?_
  refine g_then_exit ?_
  refine g_in_hit ?_
  refine g_then ?_
  refine R.g_seq ?_
  refine R.g_region ?_
  refine R.l_of rfl (fun h => hL h) (s_val (v := .pointer (some ⟨b, 0, none⟩)) (wt0 rfl) rfl rfl (x_load1 H14 3 rfl rfl Try.underlying28 rfl rfl rfl) ?_)
  refine R.l_of rfl (fun h => hL h) (s_val (v := .pointer (some ⟨b, 0, none⟩)) (wt0 rfl) rfl rfl (x_nilCheck rfl rfl) ?_)
  refine R.l_of rfl (fun h => hL h) (s_val (v := .pointer (some ⟨b, 3, none⟩)) (wt0 rfl) rfl rfl (x_fieldAddr rfl rfl fo66_2 rfl) ?_)
  refine R.l_of rfl (fun h => hL h) (s_val (v := .map (some m4)) (wt0 rfl) rfl rfl (x_load1 H14 5 rfl rfl Try.underlying64 rfl rfl rfl) ?_)
  refine R.l_of rfl (fun h => hL h) (s_val (v := .int .i64 i0) (wt0 rfl) rfl rfl (x_move rfl rfl) ?_)
  refine R.l_of rfl (fun h => hL h) (s_delete (x := i0) (intTy Try.underlying64 Try.underlying3) H14 8 (wt0 rfl) rfl rfl rfl rfl rfl (hok_i0) ?_)
  intro wq107 H108
  refine R.g_nil ?_
  refine g_then ?_
  refine g_weak [(7, .pointer (some ⟨g9, 0, none⟩))] ⟨rfl, trivial⟩ ?_
  refine R.g_seq ?_
  refine R.g_region ?_
  refine R.l_of rfl (fun h => hL h) (s_val (v := .slice p2 n2 c2) (wt0 rfl) rfl rfl (x_load1 H108 1 rfl rfl Try.underlying24 rfl rfl rfl) ?_)
  refine R.l_of rfl (fun h => hL h) (s_val (v := .slice p2 n2 c2) (wt0 rfl) rfl rfl (x_assign rfl rfl) ?_)
  refine R.g_nil ?_
  refine g_then ?_
  refine R.g_ret ?_
  refine fin_marks (H108.takes [4, 0, 1, 2, 3, 5, 6, 7, 8, 9, 10, 11] (by decide)) [.tmp 4] [.slice p2 n2 c2] rfl (fun W' hW => ⟨⟨rfl, trivial⟩, ?_⟩)
  replace hW : S W' [Rw 3 1 p2 n2 c2 (zV out), Ob g9 (.cells #[.slice p2 n2 c2] 24 (0, 0)), Ob g4 (.cells #[.map (some m)] 70 (0, 0)), Ob g1 (.cells #[.pointer (some ⟨b, 0, none⟩)] 28 (0, 0)), Ob b (.cells #[.map (some m1), .map (some m2), .map (some m3), .map (some m4)] 66 (0, 0)), Mp (Value.int .i64) (Value.int .i64) okI m1 M, Mp (Value.int .i64) mpV okI m3 nw, Mp (Value.int .i64) roV okI m4 (delM od i0), FamM spK snV okP ms ct, RowsI 70 1 mpL rs, Old w (fps [Ob b (.cells #[.map (some m1), .map (some m2), .map (some m3), .map (some m4)] 66 (0, 0)), Mp (Value.int .i64) (Value.int .i64) okI m1 sc, Mp (Value.int .i64) mpV okI m3 nw, Mp (Value.int .i64) roV okI m4 od, FamM spK snV okP ms ct, RowsI 70 1 mpL rs])] := hW
  have hin : j = (roO (od i0)).l.length := by omega
  subst hin
  rw [List.take_length] at hout hM
  have hoa : odA od ct i0 = (roO (od i0)).l.map ct := by unfold odA; rw [odR_eq]
  rw [← hoa] at hout hM
  subst hout
  subst hn2
  exact ⟨M, p2, c2, hM, rfl, hW.takes [0, 4, 5, 6, 7, 8, 9, 10] (by decide)⟩
end Go.Proofs.Ytlikhpfdncidkaa
