import Derived.Test.YtcjmdkklbbollaaBQ
import Derived.Test.YtcjmdkklbbollaaEu
import Derived.Test.YtcjmdkklbbollaaBRA
set_option linter.unusedSimpArgs false
set_option linter.unusedVariables false
namespace Go.Proofs.Ytcjmdkklbbollaa
open Go.RowKit

/-- What was found wrong stays so. -/
theorem readAll_stays : ∀ (k : Nat) (fed s : ByteArray) (a : Nat) (l : List M) (es : List Int), a ≤ fed.size → fed.size - a < k → (0 : Int) ≤ (readAll k fed a l es).2.2 →
    readAll ((fed ++ s).size + 1) (fed ++ s) a l es = readAll k fed a l es
  | 0, _, _, _, _, _, _, h, _ => by omega
  | k + 1, fed, s, a, l, es, ha, hk, hw => by
    have hz : (fed ++ s).size = fed.size + s.size := ByteArray.size_append
    have hp : (pieceA fed a).size ≤ 4204 := by rw [ByteArray.size_extract]; omega
    have e : ¬ (decS (pieceA fed a)).2.2.2 = 8 → decS (pieceA (fed ++ s) a) = decS (pieceA fed a) := fun h8 => by
      obtain ⟨y, hy, e⟩ := piece_app fed s a ha
      rw [e]
      exact decS_app _ _ (by omega) h8
    by_cases h12 : (decS (pieceA fed a)).2.2.2 = 12
    · have e := e (by omega)
      rw [readAll_bad (n := (fed ++ s).size + 1) (by omega) (by rw [e]; exact h12), e, readAll, if_pos h12]
    by_cases h0 : (decS (pieceA fed a)).2.2.2 = 0
    · have hu := piece_used fed a ha h0
      have e := e (by omega)
      have er : readAll (k + 1) fed a l es = readAll k fed (a + (decS (pieceA fed a)).2.1.toNat) (l ++ [(decS (pieceA fed a)).1]) (es ++ [(a : Int) + (decS (pieceA fed a)).2.1]) := by rw [readAll, if_neg h12, if_pos h0]
      rw [er] at hw ⊢
      rw [← readAll_stays k fed s (a + (decS (pieceA fed a)).2.1.toNat) _ _ (by omega) (by omega) hw]
      rw [readAll_next (n := (fed ++ s).size + 1) (by omega) (by rw [e]; exact h12) (by rw [e]; exact h0), e]
      exact readAll_fuel _ _ _ _ _ _ (by omega) (by omega) (by omega)
    · rw [readAll, if_neg h12, if_neg h0] at hw
      have hw : (0 : Int) ≤ -1 := hw
      omega
theorem whole_stays (g : Bool) (fed s : ByteArray) (h : (0 : Int) ≤ (wholeR g fed).wrong) : wholeR g (fed ++ s) = wholeR g fed := by
  have hl := hello_lens fed
  obtain ⟨v0, v1, v2⟩ := read_used (helloA fed) (by omega)
  have key : ∀ (hh : g = true → (readR (helloA fed)).2.2.2 = 0), wholeR g (fed ++ s) = wholeR g fed := fun hh => by
    have hs : g = true → readR (helloA (fed ++ s)) = readR (helloA fed) := fun hg => hello_stays fed s (by rw [hh hg]; omega)
    obtain ⟨k1, k2⟩ := whole_reads g fed hh
    obtain ⟨_, k3⟩ := whole_reads g (fed ++ s) (fun hg => by rw [hs hg]; exact hh hg)
    have hst := readAll_stays (fed.size + 1) fed s (stA g) [] [] k1 (by omega)
    rw [k2] at h
    have h : (0 : Int) ≤ (readAll (fed.size + 1) fed (stA g) [] []).2.2 := h
    rw [hst h] at k3
    rw [k2, k3]
    cases g with
    | false => rfl
    | true => rw [hs rfl]
  cases g with
  | false => exact key (fun h => by cases h)
  | true =>
    rcases v0 with v | v | v
    · exact key (fun _ => v)
    · rw [whole_none fed v] at h
      have h : (0 : Int) ≤ -1 := h
      omega
    · rw [whole_bad fed v, whole_bad (fed ++ s) (by rw [hello_stays fed s (by omega)]; exact v), hello_stays fed s (by omega)]
/-- How the pieces stand against the whole. -/
def CutI (g : Bool) (s rest fb : ByteArray) : Prop := ∃ c, s = c ++ rest ∧ fb.size ≤ c.size ∧ (fb = c ∨ ((0 : Int) ≤ (wholeR g fb).wrong ∧ wholeR g c = wholeR g fb))
def errW (g : Bool) (fed : ByteArray) : Int := if (0 : Int) ≤ (wholeR g fed).wrong then 12 else 0
theorem feedS_small (g : Bool) (fed p : ByteArray) (h : fed.size + p.size ≤ 65536) : feedS g fed 0 p = if (0 : Int) ≤ (wholeR g fed).wrong then (fed, 12) else (fed ++ p, errW g (fed ++ p)) := by
  have hwe := (whole_ends g fed).2.1
  have hf : fromS g fed 0 = (wholeR g fed).start := by unfold fromS; rw [if_neg (by omega)]
  unfold feedS
  rw [if_neg (by omega), hf]
  by_cases hw : (0 : Int) ≤ (wholeR g fed).wrong
  · rw [if_pos hw, if_pos hw]
  · rw [if_neg hw, if_neg hw, if_neg (by omega)]; rfl
theorem whole_new (g : Bool) : (wholeR g ⟨#[]⟩).wrong = -1 := by
  have := (agree_new g).wrong
  exact this.symm
theorem nil_app (s : ByteArray) : (⟨#[]⟩ : ByteArray) ++ s = s := eq_of_bl (by simp)
theorem feed_first (g : Bool) (s : ByteArray) (h : s.size ≤ 65536) : feedS g ⟨#[]⟩ 0 s = (s, errW g s) := by
  rw [feedS_small g _ s (by show 0 + s.size ≤ _; omega), whole_new g, if_neg (by omega), nil_app]
theorem ext_split (r : ByteArray) (k : Nat) (hk : k ≤ r.size) : r = r.extract 0 k ++ r.extract k r.size := by
  apply eq_of_bl
  have e1 : r.data.toList.length = r.size := by simp
  rw [bl_append, extract_list, extract_list, List.drop_zero, List.take_of_length_le (l := r.data.toList) (i := r.size) (by omega), List.take_append_drop]
theorem cut_new (g : Bool) (s : ByteArray) : CutI g s s ⟨#[]⟩ := ⟨⟨#[]⟩, (nil_app s).symm, Nat.le_refl _, .inl rfl⟩
theorem cut_next {g : Bool} {s rest fb : ByteArray} (h : CutI g s rest fb) (hs : s.size ≤ 65536) (k : Nat) (hk : k ≤ rest.size) :
    CutI g s (rest.extract k rest.size) (feedS g fb 0 (rest.extract 0 k)).1 ∧ (feedS g fb 0 (rest.extract 0 k)).2 = errW g (feedS g fb 0 (rest.extract 0 k)).1 ∧
    (∀ f : Int, f = errW g fb → (if f = 0 then (feedS g fb 0 (rest.extract 0 k)).2 else f) = errW g (feedS g fb 0 (rest.extract 0 k)).1) := by
  obtain ⟨c, hc, hfc, hor⟩ := h
  have hsp := ext_split rest k hk
  have hz : s.size = c.size + rest.size := by rw [hc]; exact ByteArray.size_append
  have hp : (rest.extract 0 k).size = k := by rw [ByteArray.size_extract]; omega
  have hcp : (c ++ rest.extract 0 k).size = c.size + (rest.extract 0 k).size := ByteArray.size_append
  have hc' : s = (c ++ rest.extract 0 k) ++ rest.extract k rest.size := by rw [app_assoc, ← hsp]; exact hc
  rw [feedS_small g fb _ (by omega)]
  by_cases hw : (0 : Int) ≤ (wholeR g fb).wrong
  · rw [if_pos hw]
    have he : errW g fb = 12 := by unfold errW; rw [if_pos hw]
    refine ⟨⟨c ++ rest.extract 0 k, hc', by show fb.size ≤ _; omega, .inr ⟨hw, ?_⟩⟩, he.symm, fun f hf => ?_⟩
    · show wholeR g (c ++ _) = wholeR g fb
      rcases hor with rfl | ⟨_, h2⟩
      · exact whole_stays g fb _ hw
      · rw [whole_stays g c _ (by rw [h2]; exact hw), h2]
    · rw [hf, he, if_neg (by omega)]
  · rw [if_neg hw]
    have hfb : fb = c := by rcases hor with h | ⟨h, _⟩; exact h; exact absurd h hw
    subst hfb
    have he : errW g fb = 0 := by unfold errW; rw [if_neg hw]
    refine ⟨⟨fb ++ rest.extract 0 k, hc', Nat.le_refl _, .inl rfl⟩, rfl, fun f hf => ?_⟩
    rw [hf, he, if_pos rfl]
/-- At the end both readers stand alike. -/
theorem cut_end {g : Bool} {s rest fb : ByteArray} {ra rb : Rdr} (h : CutI g s rest fb) (hr : rest.size = 0) (ha : Agree ra g s 0) (hb : Agree rb g fb 0) :
    errW g s = errW g fb ∧ (if ra.told = true then ra.hello else Hs.zero) = (if rb.told = true then rb.hello else Hs.zero) ∧ ra.told = rb.told ∧ ra.wrong = rb.wrong ∧ ra.left.size = rb.left.size ∧ ra.ms = rb.ms := by
  obtain ⟨c, hc, hfc, hor⟩ := h
  have hr0 : rest = ⟨#[]⟩ := eq_of_bl (by
    have : rest.data.toList.length = rest.size := by simp
    rw [hr] at this
    simp [List.eq_nil_of_length_eq_zero this])
  have hcs : s = c := by rw [hc, hr0, app_nil]
  subst hcs
  have hW : wholeR g s = wholeR g fb := by
    rcases hor with rfl | ⟨_, h2⟩
    · rfl
    · exact h2
  have hl : leftS g s = leftS g fb := by
    rcases hor with rfl | ⟨h1, h2⟩
    · rfl
    · unfold leftS
      rw [h2, if_pos h1, if_pos h1]
  refine ⟨by unfold errW; rw [hW], by rw [ha.hi, hb.hi, hW], by rw [ha.told, hb.told, hW], by rw [ha.wrong, hb.wrong, hW], ?_, by rw [ha.ms, hb.ms, hW]⟩
  have h1 := ha.left
  have h2 := hb.left
  omega
theorem cut_le {g : Bool} {s rest fb : ByteArray} (h : CutI g s rest fb) : rest.size ≤ s.size := by
  obtain ⟨c, hc, _⟩ := h
  have : s.size = c.size + rest.size := by rw [hc]; exact ByteArray.size_append
  omega
theorem next_both {ra rb : Rdr} {A B : Nat} (ha : ra.Ok A) (hb : rb.Ok B) (h : ra.ms = rb.ms) (hl : 0 < ra.ms.length) :
    (nextR ra).2.1 = (nextR rb).2.1 ∧ (nextR ra).2.2 = true ∧ (nextR rb).2.2 = true ∧ (nextR ra).1.ms = (nextR rb).1.ms ∧ (nextR ra).1.ms.length + 1 = ra.ms.length := by
  obtain ⟨m, hm⟩ : ∃ m, ra.ms[0]? = some m := ⟨_, List.getElem?_eq_getElem hl⟩
  rw [nextR_at ha hm, nextR_at hb (by rw [← h]; exact hm)]
  refine ⟨rfl, rfl, rfl, by show ra.ms.drop 1 = rb.ms.drop 1; rw [h], ?_⟩
  show (ra.ms.drop 1).length + 1 = _
  rw [List.length_drop]; omega
theorem zsV_one (l : List Int) : (zsV l).all (·.oneCell') = true := by
  unfold zsV
  rw [List.all_eq_true]
  intro v hv
  obtain ⟨z, _, hz⟩ := List.mem_flatMap.1 hv
  rw [List.mem_singleton.1 hz]; rfl
/-- The numbers where the text is cut, and its end. -/
theorem cuts_at {zs : List Int} {n i : Nat} {x : Int} (hn : n = zs.length) (hi : i < 0 + n + 1) : ∃ y : Int, ([] ++ zsV zs ++ [Value.int .i64 x])[i * 1]? = some (.int .i64 y) ∧ (i = n → y = x) := by
  have e : ([] ++ zsV zs ++ [Value.int .i64 x]) = zsV (zs ++ [x]) := by rw [List.nil_append, ← zsV_snoc]
  rw [e]
  obtain ⟨y, hy⟩ : ∃ y, (zs ++ [x])[i]? = some y := ⟨_, List.getElem?_eq_getElem (by simp; omega)⟩
  refine ⟨y, zsV_at hy, fun h => ?_⟩
  rw [h, hn, List.getElem?_append_right (Nat.le_refl _), Nat.sub_self] at hy
  simpa using hy.symm
end Go.Proofs.Ytcjmdkklbbollaa
namespace Go.Proofs.Ytcjmdkklbbollaa
open Go.RowKit

theorem cl10 : callable Try.prog 10 = true := by kernel_rfl
theorem cl32 : callable Try.prog 32 = true := by kernel_rfl
theorem cl33 : callable Try.prog 33 = true := by kernel_rfl
theorem cl34 : callable Try.prog 34 = true := by kernel_rfl
theorem cl35 : callable Try.prog 35 = true := by kernel_rfl
theorem cl39 : callable Try.prog 39 = true := by kernel_rfl
theorem cl40 : callable Try.prog 40 = true := by kernel_rfl
theorem cl42 : callable Try.prog 42 = true := by kernel_rfl
theorem bqe {a b : Bool} (h : a = b) : (a == b) = true := by rw [h]; exact beq_self_eq_true b
theorem bqn {a b : Bool} (h : a = b) : (!(a == b)) = false := by rw [h]; simp
theorem bnt {a : Bool} (h : a = true) : (!a) = false := by rw [h]; rfl
set_option maxRecDepth 20000 in
set_option maxHeartbeats 4000000 in
set_option maxRecDepth 20000 in
set_option maxHeartbeats 8000000 in
theorem pieces_law (g : Bool) (s : ByteArray) (p : Option Addr) (n c : Nat) (zs : List Int) (hn : n = zs.length) (w : World) (hr : Reads w p n c 1 (zsV zs)) : Calls Try.prog 9 #[.bool g, .string s, .slice p n c] w fun e w' => e = .returned (.bool true) ∧ Sub w w' := by
  have H0 := S.old w
  refine enter 141 Try.func9 rfl rfl rfl ?_
  refine g_weak [(0, .bool g), (1, .string s), (2, .slice p n c)] ⟨rfl, rfl, rfl, trivial⟩ ?_
  refine g_seq ?_
  refine g_region ?_
  refine l_of (s_val (v := .bool false) (wt0 rfl) rfl rfl (x_assign rfl rfl) ?_)
  refine g_nil ?_
  refine g_then ?_
  refine g_seq ?_
  refine g_seq ?_
  refine g_region ?_
  refine l_of (s_val (v := .string s) (wt0 rfl) rfl rfl (x_move rfl rfl) ?_)
  refine l_of (s_val (v := .int .i64 ((s.size : Int))) (wt0 rfl) rfl rfl (x_lens rfl rfl Try.underlying9) ?_)
  refine l_of (s_val (v := .bool (decide ((3000 : Int) < (s.size : Int)))) (wt0 rfl) rfl rfl (x_bin rfl rfl rfl b_gtr) ?_)
  refine l_of (s_val (v := .bool (decide ((3000 : Int) < (s.size : Int)))) (wt0 rfl) rfl rfl (x_move rfl rfl) ?_)
  by_cases hb1 : (3000 : Int) < (s.size : Int)
  · skip
    refine l_of (s_not (wn1 rfl rfl rfl rfl (decide_eq_true hb1)) rfl rfl ?_)
    refine l_of (s_not (wn1 rfl rfl rfl rfl (decide_eq_true hb1)) rfl rfl ?_)
    refine l_of (s_not (wn1 rfl rfl rfl rfl (decide_eq_true hb1)) rfl rfl ?_)
    refine l_of (s_val (v := .bool true) (wt0 rfl) rfl rfl (x_pick_t rfl rfl (decide_eq_true hb1) rfl) ?_)
    refine g_nil ?_
    refine g_then ?_
    refine g_cond_t rfl rfl ?_
    refine g_seq ?_
    refine g_region ?_
    refine l_of (s_call (wt0 rfl) (x_call' rfl rfl cl10) (awake_p _) ?_)
    rintro _ wq2 ⟨rfl, H3⟩
    replace H3 : S wq2 [Old w no] := H0.absorb (new := []) (S.of_below H3)
    refine b_ret rfl rfl ?_
    refine l_of (s_val (v := .bool true) (wt0 rfl) rfl rfl (x_assign rfl rfl) ?_)
    refine g_nil ?_
    refine g_then ?_
    refine g_weak [(6, .bool true)] ⟨rfl, trivial⟩ ?_
    refine g_ret ?_
    refine g_then_ret ?_
    refine fin_ret [.tmp 6] [.bool true] rfl ⟨rfl, trivial⟩ ?_
    exact ⟨rfl, (H3.mask [true]).below (new := [])⟩
  · skip
    refine l_of (s_val (v := .slice p n c) (wt1 rfl rfl rfl rfl (decide_eq_false hb1)) rfl rfl (x_move rfl rfl) ?_)
    refine l_of (s_val (v := .int .i64 ((n : Int))) (wt1 rfl rfl rfl rfl (decide_eq_false hb1)) rfl rfl (x_lenl rfl rfl Try.underlying60) ?_)
    refine l_of (s_val (v := .bool (decide ((100 : Int) < (n : Int)))) (wt1 rfl rfl rfl rfl (decide_eq_false hb1)) rfl rfl (x_bin rfl rfl rfl b_gtr) ?_)
    refine l_of (s_val (v := .bool (decide ((100 : Int) < (n : Int)))) (wt0 rfl) rfl rfl (x_pick_f rfl rfl (decide_eq_false hb1) rfl) ?_)
    refine g_nil ?_
    refine g_then ?_
    by_cases hb4 : (100 : Int) < (n : Int)
    · skip
      refine g_cond_t rfl (decide_eq_true hb4) ?_
      refine g_seq ?_
      refine g_region ?_
      refine l_of (s_call (wt0 rfl) (x_call' rfl rfl cl10) (awake_p _) ?_)
      rintro _ wq5 ⟨rfl, H6⟩
      replace H6 : S wq5 [Old w no] := H0.absorb (new := []) (S.of_below H6)
      refine b_ret rfl rfl ?_
      refine l_of (s_val (v := .bool true) (wt0 rfl) rfl rfl (x_assign rfl rfl) ?_)
      refine g_nil ?_
      refine g_then ?_
      refine g_weak [(6, .bool true)] ⟨rfl, trivial⟩ ?_
      refine g_ret ?_
      refine g_then_ret ?_
      refine fin_ret [.tmp 6] [.bool true] rfl ⟨rfl, trivial⟩ ?_
      exact ⟨rfl, (H6.mask [true]).below (new := [])⟩
    · skip
      refine g_cond_f rfl (decide_eq_false hb4) ?_
      refine g_skip ?_
      refine g_then ?_
      refine g_seq ?_
      refine g_region ?_
      refine l_of (s_val (v := .bool g) (wt0 rfl) rfl rfl (x_move rfl rfl) ?_)
      refine l_of (s_call (wt0 rfl) (x_call' rfl rfl cl32) (new_p _ _) ?_)
      rintro _ wq7 ⟨ga, rfl, H8⟩
      replace H8 : S wq7 [Ob ga (.cells #[.slice none (newR g).ms.length 0, .slice none (newR g).ms.length 0, .int .i64 ((newR g).bytes), .bool ((newR g).greet), .bool ((newR g).hello.e), .bool ((newR g).hello.f), .bool ((newR g).hello.n), .string ((newR g).hello.name), .string ((newR g).hello.peer), .bool ((newR g).told), .string ((newR g).left), .int .i64 ((newR g).done), .int .i64 ((newR g).wrong)] 108 (0, 0)), Rw 33 8 none (newR g).ms.length 0 (msgsV (newR g).ms), Rw 3 1 none (newR g).ms.length 0 (zsV (newR g).zs), Old w no] := H0.absorb (new := [Ob ga (.cells #[.slice none (newR g).ms.length 0, .slice none (newR g).ms.length 0, .int .i64 ((newR g).bytes), .bool ((newR g).greet), .bool ((newR g).hello.e), .bool ((newR g).hello.f), .bool ((newR g).hello.n), .string ((newR g).hello.name), .string ((newR g).hello.peer), .bool ((newR g).told), .string ((newR g).left), .int .i64 ((newR g).done), .int .i64 ((newR g).wrong)] 108 (0, 0)), Rw 33 8 none (newR g).ms.length 0 (msgsV (newR g).ms), Rw 3 1 none (newR g).ms.length 0 (zsV (newR g).zs)]) H8
      refine b_ret rfl rfl ?_
      refine l_of (s_val (v := .bool g) (wt0 rfl) rfl rfl (x_move rfl rfl) ?_)
      refine l_of (s_call (wt0 rfl) (x_call' rfl rfl cl32) (new_p _ _) ?_)
      rintro _ wq9 ⟨gb, rfl, H10⟩
      replace H10 : S wq9 [Ob gb (.cells #[.slice none (newR g).ms.length 0, .slice none (newR g).ms.length 0, .int .i64 ((newR g).bytes), .bool ((newR g).greet), .bool ((newR g).hello.e), .bool ((newR g).hello.f), .bool ((newR g).hello.n), .string ((newR g).hello.name), .string ((newR g).hello.peer), .bool ((newR g).told), .string ((newR g).left), .int .i64 ((newR g).done), .int .i64 ((newR g).wrong)] 108 (0, 0)), Rw 33 8 none (newR g).ms.length 0 (msgsV (newR g).ms), Rw 3 1 none (newR g).ms.length 0 (zsV (newR g).zs), Ob ga (.cells #[.slice none (newR g).ms.length 0, .slice none (newR g).ms.length 0, .int .i64 ((newR g).bytes), .bool ((newR g).greet), .bool ((newR g).hello.e), .bool ((newR g).hello.f), .bool ((newR g).hello.n), .string ((newR g).hello.name), .string ((newR g).hello.peer), .bool ((newR g).told), .string ((newR g).left), .int .i64 ((newR g).done), .int .i64 ((newR g).wrong)] 108 (0, 0)), Rw 33 8 none (newR g).ms.length 0 (msgsV (newR g).ms), Rw 3 1 none (newR g).ms.length 0 (zsV (newR g).zs), Old w no] := H8.absorb (new := [Ob gb (.cells #[.slice none (newR g).ms.length 0, .slice none (newR g).ms.length 0, .int .i64 ((newR g).bytes), .bool ((newR g).greet), .bool ((newR g).hello.e), .bool ((newR g).hello.f), .bool ((newR g).hello.n), .string ((newR g).hello.name), .string ((newR g).hello.peer), .bool ((newR g).told), .string ((newR g).left), .int .i64 ((newR g).done), .int .i64 ((newR g).wrong)] 108 (0, 0)), Rw 33 8 none (newR g).ms.length 0 (msgsV (newR g).ms), Rw 3 1 none (newR g).ms.length 0 (zsV (newR g).zs)]) H10
      refine b_ret rfl rfl ?_
      refine l_of (s_val (v := .pointer (some ⟨ga, 0, none⟩)) (wt0 rfl) rfl rfl (x_assign rfl rfl) ?_)
      refine l_of (s_val (v := .pointer (some ⟨gb, 0, none⟩)) (wt0 rfl) rfl rfl (x_assign rfl rfl) ?_)
      refine g_nil ?_
      refine g_then ?_
      refine g_weak [(1, .string s), (2, .slice p n c), (7, .pointer (some ⟨ga, 0, none⟩)), (8, .pointer (some ⟨gb, 0, none⟩))] ⟨rfl, rfl, rfl, rfl, trivial⟩ ?_
      refine g_seq ?_
      refine g_region ?_
      refine l_of (s_val (v := .pointer (some ⟨ga, 0, none⟩)) (wt0 rfl) rfl rfl (x_move rfl rfl) ?_)
      refine l_of (s_val (v := .string s) (wt0 rfl) rfl rfl (x_move rfl rfl) ?_)
      obtain ⟨hae, haga⟩ := agree_feed (newR_ok g) (agree_new g) s
      rw [feed_first g s (by omega)] at hae haga
      have hoka := feed_ok' (newR_ok g) s (by omega)
      refine l_of (s_call (wt0 rfl) (x_call' rfl rfl cl33) (feed_pp ga (newR g) (newR_ok g) s (by omega) none none 0 0 _ (H10.takes [3, 1, 2] (by decide))) ?_)
      rintro _ wq15 ⟨rfl, p11, c12, p13, c14, H16⟩
      replace H16 : S wq15 [Ob ga (.cells #[.slice p11 (feedR (newR g) s).1.ms.length c12, .slice p13 (feedR (newR g) s).1.ms.length c14, .int .i64 ((feedR (newR g) s).1.bytes), .bool ((feedR (newR g) s).1.greet), .bool ((feedR (newR g) s).1.hello.e), .bool ((feedR (newR g) s).1.hello.f), .bool ((feedR (newR g) s).1.hello.n), .string ((feedR (newR g) s).1.hello.name), .string ((feedR (newR g) s).1.hello.peer), .bool ((feedR (newR g) s).1.told), .string ((feedR (newR g) s).1.left), .int .i64 ((feedR (newR g) s).1.done), .int .i64 ((feedR (newR g) s).1.wrong)] 108 (0, 0)), Rw 33 8 p11 (feedR (newR g) s).1.ms.length c12 (msgsV (feedR (newR g) s).1.ms), Rw 3 1 p13 (feedR (newR g) s).1.ms.length c14 (zsV (feedR (newR g) s).1.zs), Ob gb (.cells #[.slice none (newR g).ms.length 0, .slice none (newR g).ms.length 0, .int .i64 ((newR g).bytes), .bool ((newR g).greet), .bool ((newR g).hello.e), .bool ((newR g).hello.f), .bool ((newR g).hello.n), .string ((newR g).hello.name), .string ((newR g).hello.peer), .bool ((newR g).told), .string ((newR g).left), .int .i64 ((newR g).done), .int .i64 ((newR g).wrong)] 108 (0, 0)), Rw 33 8 none (newR g).ms.length 0 (msgsV (newR g).ms), Rw 3 1 none (newR g).ms.length 0 (zsV (newR g).zs), Old w no] := H10.absorbI (new := [Ob ga (.cells #[.slice p11 (feedR (newR g) s).1.ms.length c12, .slice p13 (feedR (newR g) s).1.ms.length c14, .int .i64 ((feedR (newR g) s).1.bytes), .bool ((feedR (newR g) s).1.greet), .bool ((feedR (newR g) s).1.hello.e), .bool ((feedR (newR g) s).1.hello.f), .bool ((feedR (newR g) s).1.hello.n), .string ((feedR (newR g) s).1.hello.name), .string ((feedR (newR g) s).1.hello.peer), .bool ((feedR (newR g) s).1.told), .string ((feedR (newR g) s).1.left), .int .i64 ((feedR (newR g) s).1.done), .int .i64 ((feedR (newR g) s).1.wrong)] 108 (0, 0)), Rw 33 8 p11 (feedR (newR g) s).1.ms.length c12 (msgsV (feedR (newR g) s).1.ms), Rw 3 1 p13 (feedR (newR g) s).1.ms.length c14 (zsV (feedR (newR g) s).1.zs)]) [3, 1, 2] H16
      refine b_ret rfl rfl ?_
      refine l_of (s_val (v := .int .i64 ((feedR (newR g) s).2)) (wt0 rfl) rfl rfl (x_assign rfl rfl) ?_)
      refine g_nil ?_
      refine g_then ?_
      refine g_seq ?_
      refine g_region ?_
      refine l_of (s_val (v := .int .i64 0) (wt0 rfl) rfl rfl (x_assign rfl rfl) ?_)
      refine g_nil ?_
      refine g_then ?_
      refine g_seq ?_
      refine g_region ?_
      refine l_of (s_val (v := .string s) (wt0 rfl) rfl rfl (x_move rfl rfl) ?_)
      refine l_of (s_val (v := .string s) (wt0 rfl) rfl rfl (x_assign rfl rfl) ?_)
      refine g_nil ?_
      refine g_then ?_
      refine g_seq ?_
      refine g_seq ?_
      refine g_region ?_
      refine l_of (s_buildSlice0 H16 (wt0 rfl) rfl rfl rfl Try.underlying60 sz3 ?_)
      intro g17 wq18 H19
      refine l_of (s_val (v := .slice p n c) (wt0 rfl) rfl rfl (x_move rfl rfl) ?_)
      have H20 : S wq18 [Rw 3 1 (some ⟨g17, 0, none⟩) 0 0 [], Ob ga (.cells #[.slice p11 (feedR (newR g) s).1.ms.length c12, .slice p13 (feedR (newR g) s).1.ms.length c14, .int .i64 ((feedR (newR g) s).1.bytes), .bool ((feedR (newR g) s).1.greet), .bool ((feedR (newR g) s).1.hello.e), .bool ((feedR (newR g) s).1.hello.f), .bool ((feedR (newR g) s).1.hello.n), .string ((feedR (newR g) s).1.hello.name), .string ((feedR (newR g) s).1.hello.peer), .bool ((feedR (newR g) s).1.told), .string ((feedR (newR g) s).1.left), .int .i64 ((feedR (newR g) s).1.done), .int .i64 ((feedR (newR g) s).1.wrong)] 108 (0, 0)), Rw 33 8 p11 (feedR (newR g) s).1.ms.length c12 (msgsV (feedR (newR g) s).1.ms), Rw 3 1 p13 (feedR (newR g) s).1.ms.length c14 (zsV (feedR (newR g) s).1.zs), Ob gb (.cells #[.slice none (newR g).ms.length 0, .slice none (newR g).ms.length 0, .int .i64 ((newR g).bytes), .bool ((newR g).greet), .bool ((newR g).hello.e), .bool ((newR g).hello.f), .bool ((newR g).hello.n), .string ((newR g).hello.name), .string ((newR g).hello.peer), .bool ((newR g).told), .string ((newR g).left), .int .i64 ((newR g).done), .int .i64 ((newR g).wrong)] 108 (0, 0)), Rw 33 8 none (newR g).ms.length 0 (msgsV (newR g).ms), Rw 3 1 none (newR g).ms.length 0 (zsV (newR g).zs), Old w no] := H19.obRw (k := 0) (n := 0) (size := 1) rfl rfl (by decide)
      refine l_of (s_appendW (n := 0) (m := n) (sc := 0) (xs := []) (news := zsV zs) (p := some ⟨g17, 0, none⟩) (q := p) H20 0 (wt0 rfl) rfl rfl rfl rfl rfl rfl Try.underlying60 inf3 rfl (by decide) (by decide) (H20.oldReads (k := 7) rfl hr) (zsV_one zs) (by omega) ?_)
      intro p21 c22 wq23 H24
      replace H24 : S wq23 [Rw 3 1 p21 ((0 + n) : Nat) c22 ([] ++ zsV zs), Ob ga (.cells #[.slice p11 (feedR (newR g) s).1.ms.length c12, .slice p13 (feedR (newR g) s).1.ms.length c14, .int .i64 ((feedR (newR g) s).1.bytes), .bool ((feedR (newR g) s).1.greet), .bool ((feedR (newR g) s).1.hello.e), .bool ((feedR (newR g) s).1.hello.f), .bool ((feedR (newR g) s).1.hello.n), .string ((feedR (newR g) s).1.hello.name), .string ((feedR (newR g) s).1.hello.peer), .bool ((feedR (newR g) s).1.told), .string ((feedR (newR g) s).1.left), .int .i64 ((feedR (newR g) s).1.done), .int .i64 ((feedR (newR g) s).1.wrong)] 108 (0, 0)), Rw 33 8 p11 (feedR (newR g) s).1.ms.length c12 (msgsV (feedR (newR g) s).1.ms), Rw 3 1 p13 (feedR (newR g) s).1.ms.length c14 (zsV (feedR (newR g) s).1.zs), Ob gb (.cells #[.slice none (newR g).ms.length 0, .slice none (newR g).ms.length 0, .int .i64 ((newR g).bytes), .bool ((newR g).greet), .bool ((newR g).hello.e), .bool ((newR g).hello.f), .bool ((newR g).hello.n), .string ((newR g).hello.name), .string ((newR g).hello.peer), .bool ((newR g).told), .string ((newR g).left), .int .i64 ((newR g).done), .int .i64 ((newR g).wrong)] 108 (0, 0)), Rw 33 8 none (newR g).ms.length 0 (msgsV (newR g).ms), Rw 3 1 none (newR g).ms.length 0 (zsV (newR g).zs), Old w no] := H24
      refine l_of (s_val (v := .string s) (wt0 rfl) rfl rfl (x_move rfl rfl) ?_)
      refine l_of (s_val (v := .int .i64 ((s.size : Int))) (wt0 rfl) rfl rfl (x_lens rfl rfl Try.underlying9) ?_)
      refine l_of (s_buildSlice H24 (wt0 rfl) rfl rfl rfl (vs := [.int .i64 ((s.size : Int))]) rfl Try.underlying60 sz3 ze3 rfl rfl (cells := #[.int .i64 ((s.size : Int))]) (by kernel_rfl) ?_)
      intro g25 wq26 H27
      refine l_of (s_appendR (n := ((0 + n) : Nat)) (m := 1) (sc := c22) (xs := [] ++ zsV zs) (news := [.int .i64 (s.size : Int)]) (p := p21) (ad := ⟨g25, 0, none⟩) H27 1 (wt0 rfl) rfl rfl rfl rfl rfl rfl Try.underlying60 inf3 rfl (by decide) (by decide) rfl (by decide) (news_ob H27 (j0 := 0) rfl) rfl (by omega) ?_)
      intro p28 c29 wq30 H31
      replace H31 : S wq30 [Ob g25 (.cells #[.int .i64 ((s.size : Int))] 3 (0, 0)), Rw 3 1 p28 ((0 + n + 1) : Nat) c29 ([] ++ zsV zs ++ [.int .i64 (s.size : Int)]), Ob ga (.cells #[.slice p11 (feedR (newR g) s).1.ms.length c12, .slice p13 (feedR (newR g) s).1.ms.length c14, .int .i64 ((feedR (newR g) s).1.bytes), .bool ((feedR (newR g) s).1.greet), .bool ((feedR (newR g) s).1.hello.e), .bool ((feedR (newR g) s).1.hello.f), .bool ((feedR (newR g) s).1.hello.n), .string ((feedR (newR g) s).1.hello.name), .string ((feedR (newR g) s).1.hello.peer), .bool ((feedR (newR g) s).1.told), .string ((feedR (newR g) s).1.left), .int .i64 ((feedR (newR g) s).1.done), .int .i64 ((feedR (newR g) s).1.wrong)] 108 (0, 0)), Rw 33 8 p11 (feedR (newR g) s).1.ms.length c12 (msgsV (feedR (newR g) s).1.ms), Rw 3 1 p13 (feedR (newR g) s).1.ms.length c14 (zsV (feedR (newR g) s).1.zs), Ob gb (.cells #[.slice none (newR g).ms.length 0, .slice none (newR g).ms.length 0, .int .i64 ((newR g).bytes), .bool ((newR g).greet), .bool ((newR g).hello.e), .bool ((newR g).hello.f), .bool ((newR g).hello.n), .string ((newR g).hello.name), .string ((newR g).hello.peer), .bool ((newR g).told), .string ((newR g).left), .int .i64 ((newR g).done), .int .i64 ((newR g).wrong)] 108 (0, 0)), Rw 33 8 none (newR g).ms.length 0 (msgsV (newR g).ms), Rw 3 1 none (newR g).ms.length 0 (zsV (newR g).zs), Old w no] := H31
      refine l_of (s_val (v := .int .i64 ((((0 + n + 1) : Nat) : Int))) (wt0 rfl) rfl rfl (x_lenl rfl rfl Try.underlying60) ?_)
      refine l_of (s_val (v := .int .i64 0) (wt0 rfl) rfl rfl (x_move rfl rfl) ?_)
      refine g_nil ?_
      refine g_then ?_
      refine g_weak [(7, .pointer (some ⟨ga, 0, none⟩)), (8, .pointer (some ⟨gb, 0, none⟩)), (9, .int .i64 ((feedR (newR g) s).2)), (10, .int .i64 0), (11, .string s), (47, .slice p28 ((0 + n + 1) : Nat) c29), (48, .int .i64 ((((0 + n + 1) : Nat) : Int))), (49, .int .i64 0)] ⟨rfl, rfl, rfl, rfl, rfl, rfl, rfl, rfl, trivial⟩ ?_
      refine g_block ?_
      refine g_loop (ι := Nat × Rdr × Option Addr × Nat × Option Addr × Nat × ByteArray × ByteArray × Int) (fun (i, rb, q1, d1, q2, d2, rest, fb, f) => [(7, .pointer (some ⟨ga, 0, none⟩)), (8, .pointer (some ⟨gb, 0, none⟩)), (9, .int .i64 ((feedR (newR g) s).2)), (10, .int .i64 f), (11, .string rest), (47, .slice p28 ((0 + n + 1) : Nat) c29), (48, .int .i64 ((((0 + n + 1) : Nat) : Int))), (49, .int .i64 ((i : Int)))]) (fun (i, rb, q1, d1, q2, d2, rest, fb, f) wx => (i ≤ n + 1) ∧ (rb.Ok (65536 * i)) ∧ (Agree rb g fb 0) ∧ (CutI g s rest fb) ∧ (f = errW g fb) ∧ (i = n + 1 → rest.size = 0) ∧ S wx [Ob ga (.cells #[.slice p11 ((feedR (newR g) s)).1.ms.length c12, .slice p13 ((feedR (newR g) s)).1.ms.length c14, .int .i64 (((feedR (newR g) s)).1.bytes), .bool (((feedR (newR g) s)).1.greet), .bool (((feedR (newR g) s)).1.hello.e), .bool (((feedR (newR g) s)).1.hello.f), .bool (((feedR (newR g) s)).1.hello.n), .string (((feedR (newR g) s)).1.hello.name), .string (((feedR (newR g) s)).1.hello.peer), .bool (((feedR (newR g) s)).1.told), .string (((feedR (newR g) s)).1.left), .int .i64 (((feedR (newR g) s)).1.done), .int .i64 (((feedR (newR g) s)).1.wrong)] 108 (0, 0)), Rw 33 8 p11 ((feedR (newR g) s)).1.ms.length c12 (msgsV ((feedR (newR g) s)).1.ms), Rw 3 1 p13 ((feedR (newR g) s)).1.ms.length c14 (zsV ((feedR (newR g) s)).1.zs), Ob gb (.cells #[.slice q1 rb.ms.length d1, .slice q2 rb.ms.length d2, .int .i64 (rb.bytes), .bool rb.greet, .bool rb.hello.e, .bool rb.hello.f, .bool rb.hello.n, .string (rb.hello.name), .string (rb.hello.peer), .bool rb.told, .string (rb.left), .int .i64 (rb.done), .int .i64 (rb.wrong)] 108 (0, 0)), Rw 33 8 q1 rb.ms.length d1 (msgsV rb.ms), Rw 3 1 q2 rb.ms.length d2 (zsV rb.zs), Rw 3 1 p28 ((0 + n + 1) : Nat) c29 ([] ++ zsV zs ++ [.int .i64 (s.size : Int)]), Old w no]) (fun (i, rb, q1, d1, q2, d2, rest, fb, f) => n + 1 - i) (0, newR g, none, 0, none, 0, s, ⟨#[]⟩, 0) ⟨rfl, rfl, rfl, rfl, rfl, rfl, rfl, rfl, trivial⟩ ⟨Nat.zero_le _, newR_ok g, agree_new g, cut_new g s, (by unfold errW; rw [whole_new g, if_neg (by omega)]), (fun h => by omega), (H31.takes [2, 3, 4, 5, 6, 7, 1, 8] (by decide))⟩ ?_
      rintro ⟨i, rb, q1, d1, q2, d2, rest, fb, f⟩ wq32 ⟨hi, hokb, hagb, hcut, hf, hend, H33⟩
      replace H33 : S wq32 [Ob ga (.cells #[.slice p11 ((feedR (newR g) s)).1.ms.length c12, .slice p13 ((feedR (newR g) s)).1.ms.length c14, .int .i64 (((feedR (newR g) s)).1.bytes), .bool (((feedR (newR g) s)).1.greet), .bool (((feedR (newR g) s)).1.hello.e), .bool (((feedR (newR g) s)).1.hello.f), .bool (((feedR (newR g) s)).1.hello.n), .string (((feedR (newR g) s)).1.hello.name), .string (((feedR (newR g) s)).1.hello.peer), .bool (((feedR (newR g) s)).1.told), .string (((feedR (newR g) s)).1.left), .int .i64 (((feedR (newR g) s)).1.done), .int .i64 (((feedR (newR g) s)).1.wrong)] 108 (0, 0)), Rw 33 8 p11 ((feedR (newR g) s)).1.ms.length c12 (msgsV ((feedR (newR g) s)).1.ms), Rw 3 1 p13 ((feedR (newR g) s)).1.ms.length c14 (zsV ((feedR (newR g) s)).1.zs), Ob gb (.cells #[.slice q1 rb.ms.length d1, .slice q2 rb.ms.length d2, .int .i64 (rb.bytes), .bool rb.greet, .bool rb.hello.e, .bool rb.hello.f, .bool rb.hello.n, .string (rb.hello.name), .string (rb.hello.peer), .bool rb.told, .string (rb.left), .int .i64 (rb.done), .int .i64 (rb.wrong)] 108 (0, 0)), Rw 33 8 q1 rb.ms.length d1 (msgsV rb.ms), Rw 3 1 q2 rb.ms.length d2 (zsV rb.zs), Rw 3 1 p28 ((0 + n + 1) : Nat) c29 ([] ++ zsV zs ++ [.int .i64 (s.size : Int)]), Old w no] := H33
      refine g_weak [(7, .pointer (some ⟨ga, 0, none⟩)), (8, .pointer (some ⟨gb, 0, none⟩)), (9, .int .i64 ((feedR (newR g) s).2)), (10, .int .i64 f), (11, .string rest), (47, .slice p28 ((0 + n + 1) : Nat) c29), (48, .int .i64 ((((0 + n + 1) : Nat) : Int))), (49, .int .i64 ((i : Int)))] ⟨rfl, rfl, rfl, rfl, rfl, rfl, rfl, rfl, trivial⟩ ?_
      have hrl := cut_le hcut
      refine g_seq ?_
      refine g_region ?_
      refine l_of (s_val (v := .bool (decide (((i : Int) : Int) < (((0 + n + 1) : Nat) : Int)))) (wt0 rfl) rfl rfl (x_bin rfl rfl rfl b_lss) ?_)
      refine g_nil ?_
      refine g_then ?_
      refine g_seq ?_
      by_cases hb34 : ((i : Int) : Int) < (((0 + n + 1) : Nat) : Int)
      · skip
        obtain ⟨y, hy, hyn⟩ := cuts_at (x := (s.size : Int)) hn (show i < 0 + n + 1 by omega)
        refine g_cond_t rfl (decide_eq_true hb34) ?_
        refine g_skip ?_
        refine g_then ?_
        refine g_seq ?_
        refine g_block ?_
        refine g_seq ?_
        refine g_region ?_
        refine l_of (s_val (v := .pointer ((p28).map fun q => q.add (i * 1))) (wt0 rfl) rfl rfl (x_idxR i (H33.rwReads (k := 6) rfl) rfl rfl rfl Try.underlying60 sz3 (by omega)) ?_)
        refine l_of (s_val (v := .int .i64 y) (wt0 rfl) rfl rfl (x_loadR1 i (H33.rwReads (k := 6) rfl) (by omega) rfl rfl Try.underlying3 rfl (hy)) ?_)
        refine l_of (s_val (v := .int .i64 y) (wt0 rfl) rfl rfl (x_assign rfl rfl) ?_)
        refine g_nil ?_
        refine g_then ?_
        refine g_seq ?_
        refine g_region ?_
        refine l_of (s_val (v := .int .i64 y) (wt0 rfl) rfl rfl (x_move rfl rfl) ?_)
        refine l_of (s_val (v := .int .i64 (max y 0)) (wt0 rfl) rfl rfl (x_max rfl rfl rfl) ?_)
        refine l_of (s_val (v := .string rest) (wt0 rfl) rfl rfl (x_move rfl rfl) ?_)
        refine l_of (s_val (v := .int .i64 ((rest.size : Int))) (wt0 rfl) rfl rfl (x_lens rfl rfl Try.underlying9) ?_)
        refine l_of (s_val (v := .int .i64 (min (max y 0) (rest.size : Int))) (wt0 rfl) rfl rfl (x_min rfl rfl rfl) ?_)
        refine l_of (s_val (v := .int .i64 (min (max y 0) (rest.size : Int))) (wt0 rfl) rfl rfl (x_assign rfl rfl) ?_)
        refine g_nil ?_
        refine g_then ?_
        refine g_seq ?_
        refine g_seq ?_
        refine g_region ?_
        refine l_of (s_val (v := .pointer (some ⟨gb, 0, none⟩)) (wt0 rfl) rfl rfl (x_move rfl rfl) ?_)
        refine l_of (s_val (v := .string rest) (wt0 rfl) rfl rfl (x_move rfl rfl) ?_)
        refine l_of (s_val (v := .int .i64 (min (max y 0) (rest.size : Int))) (wt0 rfl) rfl rfl (x_move rfl rfl) ?_)
        have hsz35 : (rest.extract 0 ((min (max y 0) (rest.size : Int)).toNat)).size = (min (max y 0) (rest.size : Int)).toNat - 0 := by rw [ByteArray.size_extract]; omega
        refine l_of (s_val (v := .string (rest.extract 0 ((min (max y 0) (rest.size : Int)).toNat))) (wt0 rfl) rfl rfl (x_slices 0 ((min (max y 0) (rest.size : Int)).toNat) rfl rfl Try.underlying9 (.inl ⟨rfl, rfl⟩) (.inr ⟨_, _, _, rfl, rfl, by omega⟩) (by omega)) ?_)
        obtain ⟨hfe, hag1⟩ := agree_feed hokb hagb (rest.extract 0 (min (max y 0) (rest.size : Int)).toNat)
        have hcx := cut_next hcut (by omega) (min (max y 0) (rest.size : Int)).toNat (by omega)
        have hok1 := feed_ok' hokb (rest.extract 0 (min (max y 0) (rest.size : Int)).toNat) (by omega)
        refine l_of (s_call (wt0 rfl) (x_call' rfl rfl cl33) (feed_pp gb rb hokb (rest.extract 0 ((min (max y 0) (rest.size : Int)).toNat)) (by omega) q1 q2 d1 d2 _ (H33.takes [3, 4, 5] (by decide))) ?_)
        rintro _ wq40 ⟨rfl, p36, c37, p38, c39, H41⟩
        replace H41 : S wq40 [Ob gb (.cells #[.slice p36 (feedR rb (rest.extract 0 ((min (max y 0) (rest.size : Int)).toNat))).1.ms.length c37, .slice p38 (feedR rb (rest.extract 0 ((min (max y 0) (rest.size : Int)).toNat))).1.ms.length c39, .int .i64 ((feedR rb (rest.extract 0 ((min (max y 0) (rest.size : Int)).toNat))).1.bytes), .bool ((feedR rb (rest.extract 0 ((min (max y 0) (rest.size : Int)).toNat))).1.greet), .bool ((feedR rb (rest.extract 0 ((min (max y 0) (rest.size : Int)).toNat))).1.hello.e), .bool ((feedR rb (rest.extract 0 ((min (max y 0) (rest.size : Int)).toNat))).1.hello.f), .bool ((feedR rb (rest.extract 0 ((min (max y 0) (rest.size : Int)).toNat))).1.hello.n), .string ((feedR rb (rest.extract 0 ((min (max y 0) (rest.size : Int)).toNat))).1.hello.name), .string ((feedR rb (rest.extract 0 ((min (max y 0) (rest.size : Int)).toNat))).1.hello.peer), .bool ((feedR rb (rest.extract 0 ((min (max y 0) (rest.size : Int)).toNat))).1.told), .string ((feedR rb (rest.extract 0 ((min (max y 0) (rest.size : Int)).toNat))).1.left), .int .i64 ((feedR rb (rest.extract 0 ((min (max y 0) (rest.size : Int)).toNat))).1.done), .int .i64 ((feedR rb (rest.extract 0 ((min (max y 0) (rest.size : Int)).toNat))).1.wrong)] 108 (0, 0)), Rw 33 8 p36 (feedR rb (rest.extract 0 ((min (max y 0) (rest.size : Int)).toNat))).1.ms.length c37 (msgsV (feedR rb (rest.extract 0 ((min (max y 0) (rest.size : Int)).toNat))).1.ms), Rw 3 1 p38 (feedR rb (rest.extract 0 ((min (max y 0) (rest.size : Int)).toNat))).1.ms.length c39 (zsV (feedR rb (rest.extract 0 ((min (max y 0) (rest.size : Int)).toNat))).1.zs), Ob ga (.cells #[.slice p11 ((feedR (newR g) s)).1.ms.length c12, .slice p13 ((feedR (newR g) s)).1.ms.length c14, .int .i64 (((feedR (newR g) s)).1.bytes), .bool (((feedR (newR g) s)).1.greet), .bool (((feedR (newR g) s)).1.hello.e), .bool (((feedR (newR g) s)).1.hello.f), .bool (((feedR (newR g) s)).1.hello.n), .string (((feedR (newR g) s)).1.hello.name), .string (((feedR (newR g) s)).1.hello.peer), .bool (((feedR (newR g) s)).1.told), .string (((feedR (newR g) s)).1.left), .int .i64 (((feedR (newR g) s)).1.done), .int .i64 (((feedR (newR g) s)).1.wrong)] 108 (0, 0)), Rw 33 8 p11 ((feedR (newR g) s)).1.ms.length c12 (msgsV ((feedR (newR g) s)).1.ms), Rw 3 1 p13 ((feedR (newR g) s)).1.ms.length c14 (zsV ((feedR (newR g) s)).1.zs), Rw 3 1 p28 ((0 + n + 1) : Nat) c29 ([] ++ zsV zs ++ [.int .i64 (s.size : Int)]), Old w no] := H33.absorbI (new := [Ob gb (.cells #[.slice p36 (feedR rb (rest.extract 0 ((min (max y 0) (rest.size : Int)).toNat))).1.ms.length c37, .slice p38 (feedR rb (rest.extract 0 ((min (max y 0) (rest.size : Int)).toNat))).1.ms.length c39, .int .i64 ((feedR rb (rest.extract 0 ((min (max y 0) (rest.size : Int)).toNat))).1.bytes), .bool ((feedR rb (rest.extract 0 ((min (max y 0) (rest.size : Int)).toNat))).1.greet), .bool ((feedR rb (rest.extract 0 ((min (max y 0) (rest.size : Int)).toNat))).1.hello.e), .bool ((feedR rb (rest.extract 0 ((min (max y 0) (rest.size : Int)).toNat))).1.hello.f), .bool ((feedR rb (rest.extract 0 ((min (max y 0) (rest.size : Int)).toNat))).1.hello.n), .string ((feedR rb (rest.extract 0 ((min (max y 0) (rest.size : Int)).toNat))).1.hello.name), .string ((feedR rb (rest.extract 0 ((min (max y 0) (rest.size : Int)).toNat))).1.hello.peer), .bool ((feedR rb (rest.extract 0 ((min (max y 0) (rest.size : Int)).toNat))).1.told), .string ((feedR rb (rest.extract 0 ((min (max y 0) (rest.size : Int)).toNat))).1.left), .int .i64 ((feedR rb (rest.extract 0 ((min (max y 0) (rest.size : Int)).toNat))).1.done), .int .i64 ((feedR rb (rest.extract 0 ((min (max y 0) (rest.size : Int)).toNat))).1.wrong)] 108 (0, 0)), Rw 33 8 p36 (feedR rb (rest.extract 0 ((min (max y 0) (rest.size : Int)).toNat))).1.ms.length c37 (msgsV (feedR rb (rest.extract 0 ((min (max y 0) (rest.size : Int)).toNat))).1.ms), Rw 3 1 p38 (feedR rb (rest.extract 0 ((min (max y 0) (rest.size : Int)).toNat))).1.ms.length c39 (zsV (feedR rb (rest.extract 0 ((min (max y 0) (rest.size : Int)).toNat))).1.zs)]) [3, 4, 5] H41
        refine b_ret rfl rfl ?_
        refine l_of (s_val (v := .int .i64 ((feedR rb (rest.extract 0 ((min (max y 0) (rest.size : Int)).toNat))).2)) (wt0 rfl) rfl rfl (x_assign rfl rfl) ?_)
        refine g_nil ?_
        refine g_then ?_
        refine g_weak [(7, .pointer (some ⟨ga, 0, none⟩)), (8, .pointer (some ⟨gb, 0, none⟩)), (9, .int .i64 ((feedR (newR g) s).2)), (10, .int .i64 f), (11, .string rest), (14, .int .i64 (min (max y 0) (rest.size : Int))), (15, .int .i64 ((feedR rb (rest.extract 0 ((min (max y 0) (rest.size : Int)).toNat))).2)), (47, .slice p28 ((0 + n + 1) : Nat) c29), (48, .int .i64 ((((0 + n + 1) : Nat) : Int))), (49, .int .i64 ((i : Int)))] ⟨rfl, rfl, rfl, rfl, rfl, rfl, rfl, rfl, rfl, rfl, trivial⟩ ?_
        refine g_seq ?_
        refine g_region ?_
        refine l_of (s_val (v := .int .i64 f) (wt0 rfl) rfl rfl (x_move rfl rfl) ?_)
        refine l_of (s_val (v := .bool (decide ((f : Int) = 0))) (wt0 rfl) rfl rfl (x_bin rfl rfl rfl b_eql) ?_)
        refine g_nil ?_
        refine g_then ?_
        by_cases hb42 : (f : Int) = 0
        · skip
          refine g_cond_t rfl (decide_eq_true hb42) ?_
          refine g_region ?_
          refine l_of (s_val (v := .int .i64 ((feedR rb (rest.extract 0 ((min (max y 0) (rest.size : Int)).toNat))).2)) (wt0 rfl) rfl rfl (x_move rfl rfl) ?_)
          refine l_of (s_val (v := .int .i64 ((feedR rb (rest.extract 0 ((min (max y 0) (rest.size : Int)).toNat))).2)) (wt0 rfl) rfl rfl (x_assign rfl rfl) ?_)
          refine g_nil ?_
          refine g_then ?_
          refine g_region ?_
          refine l_of (s_val (v := .string rest) (wt0 rfl) rfl rfl (x_move rfl rfl) ?_)
          refine l_of (s_val (v := .int .i64 (min (max y 0) (rest.size : Int))) (wt0 rfl) rfl rfl (x_move rfl rfl) ?_)
          have hsz43 : (rest.extract ((min (max y 0) (rest.size : Int)).toNat) rest.size).size = rest.size - ((min (max y 0) (rest.size : Int)).toNat) := by rw [ByteArray.size_extract]; omega
          refine l_of (s_val (v := .string (rest.extract ((min (max y 0) (rest.size : Int)).toNat) rest.size)) (wt0 rfl) rfl rfl (x_slices ((min (max y 0) (rest.size : Int)).toNat) rest.size rfl rfl Try.underlying9 (.inr ⟨_, _, _, rfl, rfl, by omega⟩) (.inl ⟨rfl, rfl⟩) (by omega)) ?_)
          refine l_of (s_val (v := .string (rest.extract ((min (max y 0) (rest.size : Int)).toNat) rest.size)) (wt0 rfl) rfl rfl (x_assign rfl rfl) ?_)
          refine g_nil ?_
          refine g_in ?_
          refine g_then ?_
          refine g_region ?_
          refine l_of (s_val (v := .int .i64 ((i : Int) + 1)) (wt0 rfl) rfl rfl (x_bin rfl rfl rfl (b_add (w64 (by omega)))) ?_)
          refine l_of (s_val (v := .int .i64 ((i : Int) + 1)) (wt0 rfl) rfl rfl (x_move rfl rfl) ?_)
          refine g_nil ?_
          refine g_then ?_
          refine g_round (i := (i, rb, q1, d1, q2, d2, rest, fb, f)) (i + 1, (feedR rb (rest.extract 0 (min (max y 0) (rest.size : Int)).toNat)).1, p36, c37, p38, c39, rest.extract (min (max y 0) (rest.size : Int)).toNat rest.size, (feedS g fb 0 (rest.extract 0 (min (max y 0) (rest.size : Int)).toNat)).1, (feedR rb (rest.extract 0 ((min (max y 0) (rest.size : Int)).toNat))).2) ?_ ?_ ?_
          · exact ⟨rfl, rfl, rfl, rfl, rfl, rfl, rfl, rfl, trivial⟩
          · exact ⟨by omega, hok1, hag1, hcx.1, (by have h2 := hcx.2.2 f hf; rw [if_pos hb42] at h2; rw [hfe]; exact h2), (fun h => by have h1 := hyn (by omega); have h2 := cut_le hcut; rw [ByteArray.size_extract]; omega), (H41.takes [3, 4, 5, 0, 1, 2, 6, 7] (by decide))⟩
          · (try dsimp only); omega
        · skip
          refine g_cond_f rfl (decide_eq_false hb42) ?_
          refine g_skip ?_
          refine g_then ?_
          refine g_region ?_
          refine l_of (s_val (v := .string rest) (wt0 rfl) rfl rfl (x_move rfl rfl) ?_)
          refine l_of (s_val (v := .int .i64 (min (max y 0) (rest.size : Int))) (wt0 rfl) rfl rfl (x_move rfl rfl) ?_)
          have hsz44 : (rest.extract ((min (max y 0) (rest.size : Int)).toNat) rest.size).size = rest.size - ((min (max y 0) (rest.size : Int)).toNat) := by rw [ByteArray.size_extract]; omega
          refine l_of (s_val (v := .string (rest.extract ((min (max y 0) (rest.size : Int)).toNat) rest.size)) (wt0 rfl) rfl rfl (x_slices ((min (max y 0) (rest.size : Int)).toNat) rest.size rfl rfl Try.underlying9 (.inr ⟨_, _, _, rfl, rfl, by omega⟩) (.inl ⟨rfl, rfl⟩) (by omega)) ?_)
          refine l_of (s_val (v := .string (rest.extract ((min (max y 0) (rest.size : Int)).toNat) rest.size)) (wt0 rfl) rfl rfl (x_assign rfl rfl) ?_)
          refine g_nil ?_
          refine g_in ?_
          refine g_then ?_
          refine g_region ?_
          refine l_of (s_val (v := .int .i64 ((i : Int) + 1)) (wt0 rfl) rfl rfl (x_bin rfl rfl rfl (b_add (w64 (by omega)))) ?_)
          refine l_of (s_val (v := .int .i64 ((i : Int) + 1)) (wt0 rfl) rfl rfl (x_move rfl rfl) ?_)
          refine g_nil ?_
          refine g_then ?_
          refine g_round (i := (i, rb, q1, d1, q2, d2, rest, fb, f)) (i + 1, (feedR rb (rest.extract 0 (min (max y 0) (rest.size : Int)).toNat)).1, p36, c37, p38, c39, rest.extract (min (max y 0) (rest.size : Int)).toNat rest.size, (feedS g fb 0 (rest.extract 0 (min (max y 0) (rest.size : Int)).toNat)).1, f) ?_ ?_ ?_
          · exact ⟨rfl, rfl, rfl, rfl, rfl, rfl, rfl, rfl, trivial⟩
          · exact ⟨by omega, hok1, hag1, hcx.1, (by have h2 := hcx.2.2 f hf; rw [if_neg hb42] at h2; exact h2), (fun h => by have h1 := hyn (by omega); have h2 := cut_le hcut; rw [ByteArray.size_extract]; omega), (H41.takes [3, 4, 5, 0, 1, 2, 6, 7] (by decide))⟩
          · (try dsimp only); omega
      · skip
        have hre := hend (by omega)
        obtain ⟨hce1, hce2, hce3, hce4, hce5, hce6⟩ := cut_end hcut hre haga hagb
        have hef : (feedR (newR g) s).2 = f := by rw [hae, hce1, ← hf]
        refine g_cond_f rfl (decide_eq_false hb34) ?_
        refine g_exit ?_
        refine g_then_exit ?_
        refine g_then_exit ?_
        refine g_in_hit ?_
        refine g_then ?_
        refine g_seq ?_
        refine g_region ?_
        refine l_of (s_val (v := .pointer (some ⟨ga, 0, none⟩)) (wt0 rfl) rfl rfl (x_move rfl rfl) ?_)
        refine l_of (s_call (wt0 rfl) (x_call' rfl rfl cl39) (hello_w ga ((feedR (newR g) s)).1 hoka p11 p13 c12 c14 _ (H33.takes [0, 1, 2] (by decide))) ?_)
        rintro _ wq49 ⟨rfl, p45, c46, p47, c48, H50⟩
        replace H50 : S wq49 [Ob ga (.cells #[.slice p45 (((feedR (newR g) s)).1, ()).1.ms.length c46, .slice p47 (((feedR (newR g) s)).1, ()).1.ms.length c48, .int .i64 ((((feedR (newR g) s)).1, ()).1.bytes), .bool ((((feedR (newR g) s)).1, ()).1.greet), .bool ((((feedR (newR g) s)).1, ()).1.hello.e), .bool ((((feedR (newR g) s)).1, ()).1.hello.f), .bool ((((feedR (newR g) s)).1, ()).1.hello.n), .string ((((feedR (newR g) s)).1, ()).1.hello.name), .string ((((feedR (newR g) s)).1, ()).1.hello.peer), .bool ((((feedR (newR g) s)).1, ()).1.told), .string ((((feedR (newR g) s)).1, ()).1.left), .int .i64 ((((feedR (newR g) s)).1, ()).1.done), .int .i64 ((((feedR (newR g) s)).1, ()).1.wrong)] 108 (0, 0)), Rw 33 8 p45 (((feedR (newR g) s)).1, ()).1.ms.length c46 (msgsV (((feedR (newR g) s)).1, ()).1.ms), Rw 3 1 p47 (((feedR (newR g) s)).1, ()).1.ms.length c48 (zsV (((feedR (newR g) s)).1, ()).1.zs), Ob gb (.cells #[.slice q1 rb.ms.length d1, .slice q2 rb.ms.length d2, .int .i64 (rb.bytes), .bool rb.greet, .bool rb.hello.e, .bool rb.hello.f, .bool rb.hello.n, .string (rb.hello.name), .string (rb.hello.peer), .bool rb.told, .string (rb.left), .int .i64 (rb.done), .int .i64 (rb.wrong)] 108 (0, 0)), Rw 33 8 q1 rb.ms.length d1 (msgsV rb.ms), Rw 3 1 q2 rb.ms.length d2 (zsV rb.zs), Rw 3 1 p28 ((0 + n + 1) : Nat) c29 ([] ++ zsV zs ++ [.int .i64 (s.size : Int)]), Old w no] := H33.absorbI (new := [Ob ga (.cells #[.slice p45 (((feedR (newR g) s)).1, ()).1.ms.length c46, .slice p47 (((feedR (newR g) s)).1, ()).1.ms.length c48, .int .i64 ((((feedR (newR g) s)).1, ()).1.bytes), .bool ((((feedR (newR g) s)).1, ()).1.greet), .bool ((((feedR (newR g) s)).1, ()).1.hello.e), .bool ((((feedR (newR g) s)).1, ()).1.hello.f), .bool ((((feedR (newR g) s)).1, ()).1.hello.n), .string ((((feedR (newR g) s)).1, ()).1.hello.name), .string ((((feedR (newR g) s)).1, ()).1.hello.peer), .bool ((((feedR (newR g) s)).1, ()).1.told), .string ((((feedR (newR g) s)).1, ()).1.left), .int .i64 ((((feedR (newR g) s)).1, ()).1.done), .int .i64 ((((feedR (newR g) s)).1, ()).1.wrong)] 108 (0, 0)), Rw 33 8 p45 (((feedR (newR g) s)).1, ()).1.ms.length c46 (msgsV (((feedR (newR g) s)).1, ()).1.ms), Rw 3 1 p47 (((feedR (newR g) s)).1, ()).1.ms.length c48 (zsV (((feedR (newR g) s)).1, ()).1.zs)]) [0, 1, 2] H50
        refine b_ret rfl rfl ?_
        refine l_of (s_val (v := .tuple #[.agg (if (((feedR (newR g) s)).1, ()).1.told = true then (((feedR (newR g) s)).1, ()).1.hello else Hs.zero).cells, .bool ((((feedR (newR g) s)).1, ()).1.told)]) (wt0 rfl) rfl rfl (x_move rfl rfl) ?_)
        refine l_of (s_val (v := .agg (if (((feedR (newR g) s)).1, ()).1.told = true then (((feedR (newR g) s)).1, ()).1.hello else Hs.zero).cells) (wt0 rfl) rfl rfl (x_extract rfl rfl rfl) ?_)
        refine l_of (s_val (v := .bool ((((feedR (newR g) s)).1, ()).1.told)) (wt0 rfl) rfl rfl (x_extract rfl rfl rfl) ?_)
        refine l_of (s_alloc H50 (wt0 rfl) rfl rfl rfl ze23 ?_)
        intro g51 wq52 H53
        refine l_of (s_store H53 0 (wt0 rfl) rfl rfl rfl rfl rfl sz23 rfl rfl (cs' := (if (((feedR (newR g) s)).1, ()).1.told = true then (((feedR (newR g) s)).1, ()).1.hello else Hs.zero).cells) rfl ?_)
        intro wq54 H55
        refine l_of (s_val (v := .bool ((((feedR (newR g) s)).1, ()).1.told)) (wt0 rfl) rfl rfl (x_assign rfl rfl) ?_)
        refine g_nil ?_
        refine g_then ?_
        refine g_seq ?_
        refine g_region ?_
        refine l_of (s_val (v := .pointer (some ⟨gb, 0, none⟩)) (wt0 rfl) rfl rfl (x_move rfl rfl) ?_)
        refine l_of (s_call (wt0 rfl) (x_call' rfl rfl cl39) (hello_w gb rb hokb q1 q2 d1 d2 _ (H55.takes [4, 5, 6] (by decide))) ?_)
        rintro _ wq60 ⟨rfl, p56, c57, p58, c59, H61⟩
        replace H61 : S wq60 [Ob gb (.cells #[.slice p56 (rb, ()).1.ms.length c57, .slice p58 (rb, ()).1.ms.length c59, .int .i64 ((rb, ()).1.bytes), .bool ((rb, ()).1.greet), .bool ((rb, ()).1.hello.e), .bool ((rb, ()).1.hello.f), .bool ((rb, ()).1.hello.n), .string ((rb, ()).1.hello.name), .string ((rb, ()).1.hello.peer), .bool ((rb, ()).1.told), .string ((rb, ()).1.left), .int .i64 ((rb, ()).1.done), .int .i64 ((rb, ()).1.wrong)] 108 (0, 0)), Rw 33 8 p56 (rb, ()).1.ms.length c57 (msgsV (rb, ()).1.ms), Rw 3 1 p58 (rb, ()).1.ms.length c59 (zsV (rb, ()).1.zs), Ob g51 (.cells (if (((feedR (newR g) s)).1, ()).1.told = true then (((feedR (newR g) s)).1, ()).1.hello else Hs.zero).cells 23 (0, 0)), Ob ga (.cells #[.slice p45 (((feedR (newR g) s)).1, ()).1.ms.length c46, .slice p47 (((feedR (newR g) s)).1, ()).1.ms.length c48, .int .i64 ((((feedR (newR g) s)).1, ()).1.bytes), .bool ((((feedR (newR g) s)).1, ()).1.greet), .bool ((((feedR (newR g) s)).1, ()).1.hello.e), .bool ((((feedR (newR g) s)).1, ()).1.hello.f), .bool ((((feedR (newR g) s)).1, ()).1.hello.n), .string ((((feedR (newR g) s)).1, ()).1.hello.name), .string ((((feedR (newR g) s)).1, ()).1.hello.peer), .bool ((((feedR (newR g) s)).1, ()).1.told), .string ((((feedR (newR g) s)).1, ()).1.left), .int .i64 ((((feedR (newR g) s)).1, ()).1.done), .int .i64 ((((feedR (newR g) s)).1, ()).1.wrong)] 108 (0, 0)), Rw 33 8 p45 (((feedR (newR g) s)).1, ()).1.ms.length c46 (msgsV (((feedR (newR g) s)).1, ()).1.ms), Rw 3 1 p47 (((feedR (newR g) s)).1, ()).1.ms.length c48 (zsV (((feedR (newR g) s)).1, ()).1.zs), Rw 3 1 p28 ((0 + n + 1) : Nat) c29 ([] ++ zsV zs ++ [.int .i64 (s.size : Int)]), Old w no] := H55.absorbI (new := [Ob gb (.cells #[.slice p56 (rb, ()).1.ms.length c57, .slice p58 (rb, ()).1.ms.length c59, .int .i64 ((rb, ()).1.bytes), .bool ((rb, ()).1.greet), .bool ((rb, ()).1.hello.e), .bool ((rb, ()).1.hello.f), .bool ((rb, ()).1.hello.n), .string ((rb, ()).1.hello.name), .string ((rb, ()).1.hello.peer), .bool ((rb, ()).1.told), .string ((rb, ()).1.left), .int .i64 ((rb, ()).1.done), .int .i64 ((rb, ()).1.wrong)] 108 (0, 0)), Rw 33 8 p56 (rb, ()).1.ms.length c57 (msgsV (rb, ()).1.ms), Rw 3 1 p58 (rb, ()).1.ms.length c59 (zsV (rb, ()).1.zs)]) [4, 5, 6] H61
        refine b_ret rfl rfl ?_
        refine l_of (s_val (v := .tuple #[.agg (if (rb, ()).1.told = true then (rb, ()).1.hello else Hs.zero).cells, .bool ((rb, ()).1.told)]) (wt0 rfl) rfl rfl (x_move rfl rfl) ?_)
        refine l_of (s_val (v := .agg (if (rb, ()).1.told = true then (rb, ()).1.hello else Hs.zero).cells) (wt0 rfl) rfl rfl (x_extract rfl rfl rfl) ?_)
        refine l_of (s_val (v := .bool ((rb, ()).1.told)) (wt0 rfl) rfl rfl (x_extract rfl rfl rfl) ?_)
        refine l_of (s_alloc H61 (wt0 rfl) rfl rfl rfl ze23 ?_)
        intro g62 wq63 H64
        refine l_of (s_store H64 0 (wt0 rfl) rfl rfl rfl rfl rfl sz23 rfl rfl (cs' := (if (rb, ()).1.told = true then (rb, ()).1.hello else Hs.zero).cells) rfl ?_)
        intro wq65 H66
        refine l_of (s_val (v := .bool ((rb, ()).1.told)) (wt0 rfl) rfl rfl (x_assign rfl rfl) ?_)
        refine g_nil ?_
        refine g_then ?_
        refine g_weak [(7, .pointer (some ⟨ga, 0, none⟩)), (8, .pointer (some ⟨gb, 0, none⟩)), (9, .int .i64 ((feedR (newR g) s).2)), (10, .int .i64 f), (16, .pointer (some ⟨g51, 0, none⟩)), (17, .bool ((((feedR (newR g) s)).1, ()).1.told)), (18, .pointer (some ⟨g62, 0, none⟩)), (19, .bool ((rb, ()).1.told))] ⟨rfl, rfl, rfl, rfl, rfl, rfl, rfl, rfl, trivial⟩ ?_
        refine g_seq ?_
        refine g_seq ?_
        refine g_region ?_
        refine l_of (s_val (v := .int .i64 ((feedR (newR g) s).2)) (wt0 rfl) rfl rfl (x_move rfl rfl) ?_)
        refine l_of (s_val (v := .int .i64 f) (wt0 rfl) rfl rfl (x_move rfl rfl) ?_)
        refine l_of (s_val (v := .bool (!decide (((feedR (newR g) s).2 : Int) = f))) (wt0 rfl) rfl rfl (x_bin rfl rfl rfl b_neq) ?_)
        refine l_of (s_val (v := .bool (!decide (((feedR (newR g) s).2 : Int) = f))) (wt0 rfl) rfl rfl (x_move rfl rfl) ?_)
        refine l_of (s_val (v := .agg (if (((feedR (newR g) s)).1, ()).1.told = true then (((feedR (newR g) s)).1, ()).1.hello else Hs.zero).cells) (wt1 rfl rfl rfl rfl (nf hef)) rfl rfl (x_loadA H66 4 rfl rfl Try.underlying23 rfl sz23 rfl rfl rfl) ?_)
        refine l_of (s_val (v := .agg (if (rb, ()).1.told = true then (rb, ()).1.hello else Hs.zero).cells) (wt1 rfl rfl rfl rfl (nf hef)) rfl rfl (x_loadA H66 0 rfl rfl Try.underlying23 rfl sz23 rfl rfl rfl) ?_)
        refine l_of (s_val (v := .bool (!decide ((if (((feedR (newR g) s)).1, ()).1.told = true then (((feedR (newR g) s)).1, ()).1.hello else Hs.zero) = (if (rb, ()).1.told = true then (rb, ()).1.hello else Hs.zero)))) (wt1 rfl rfl rfl rfl (nf hef)) rfl rfl (x_bin rfl rfl rfl (b_hsN (if (((feedR (newR g) s)).1, ()).1.told = true then (((feedR (newR g) s)).1, ()).1.hello else Hs.zero) (if (rb, ()).1.told = true then (rb, ()).1.hello else Hs.zero))) ?_)
        refine l_of (s_val (v := .bool (!decide ((if (((feedR (newR g) s)).1, ()).1.told = true then (((feedR (newR g) s)).1, ()).1.hello else Hs.zero) = (if (rb, ()).1.told = true then (rb, ()).1.hello else Hs.zero)))) (wt0 rfl) rfl rfl (x_pick_f rfl rfl (nf hef) rfl) ?_)
        refine l_of (s_val (v := .bool (!decide ((if (((feedR (newR g) s)).1, ()).1.told = true then (((feedR (newR g) s)).1, ()).1.hello else Hs.zero) = (if (rb, ()).1.told = true then (rb, ()).1.hello else Hs.zero)))) (wt0 rfl) rfl rfl (x_move rfl rfl) ?_)
        refine l_of (s_val (v := .bool ((((feedR (newR g) s)).1, ()).1.told)) (wt1 rfl rfl rfl rfl (nf hce2)) rfl rfl (x_move rfl rfl) ?_)
        refine l_of (s_val (v := .bool ((rb, ()).1.told)) (wt1 rfl rfl rfl rfl (nf hce2)) rfl rfl (x_move rfl rfl) ?_)
        refine l_of (s_val (v := .bool (!(((((feedR (newR g) s)).1, ()).1.told) == ((rb, ()).1.told)))) (wt1 rfl rfl rfl rfl (nf hce2)) rfl rfl (x_bin rfl rfl rfl (b_neN Try.underlying4 rfl)) ?_)
        refine l_of (s_val (v := .bool (!(((((feedR (newR g) s)).1, ()).1.told) == ((rb, ()).1.told)))) (wt0 rfl) rfl rfl (x_pick_f rfl rfl (nf hce2) rfl) ?_)
        refine l_of (s_val (v := .bool (!(((((feedR (newR g) s)).1, ()).1.told) == ((rb, ()).1.told)))) (wt0 rfl) rfl rfl (x_move rfl rfl) ?_)
        refine l_of (s_val (v := .pointer (some ⟨ga, 0, none⟩)) (wt1 rfl rfl rfl rfl (bqn hce3)) rfl rfl (x_move rfl rfl) ?_)
        refine l_of (s_call (wt1 rfl rfl rfl rfl (bqn hce3)) (x_call' rfl rfl cl40) (wrong_w ga _ _ (H66.cell (k := 5) rfl rfl)) ?_)
        rintro _ wq67 ⟨rfl, H68⟩
        replace H68 : S wq67 [Ob g62 (.cells (if (rb, ()).1.told = true then (rb, ()).1.hello else Hs.zero).cells 23 (0, 0)), Ob gb (.cells #[.slice p56 (rb, ()).1.ms.length c57, .slice p58 (rb, ()).1.ms.length c59, .int .i64 ((rb, ()).1.bytes), .bool ((rb, ()).1.greet), .bool ((rb, ()).1.hello.e), .bool ((rb, ()).1.hello.f), .bool ((rb, ()).1.hello.n), .string ((rb, ()).1.hello.name), .string ((rb, ()).1.hello.peer), .bool ((rb, ()).1.told), .string ((rb, ()).1.left), .int .i64 ((rb, ()).1.done), .int .i64 ((rb, ()).1.wrong)] 108 (0, 0)), Rw 33 8 p56 (rb, ()).1.ms.length c57 (msgsV (rb, ()).1.ms), Rw 3 1 p58 (rb, ()).1.ms.length c59 (zsV (rb, ()).1.zs), Ob g51 (.cells (if (((feedR (newR g) s)).1, ()).1.told = true then (((feedR (newR g) s)).1, ()).1.hello else Hs.zero).cells 23 (0, 0)), Ob ga (.cells #[.slice p45 (((feedR (newR g) s)).1, ()).1.ms.length c46, .slice p47 (((feedR (newR g) s)).1, ()).1.ms.length c48, .int .i64 ((((feedR (newR g) s)).1, ()).1.bytes), .bool ((((feedR (newR g) s)).1, ()).1.greet), .bool ((((feedR (newR g) s)).1, ()).1.hello.e), .bool ((((feedR (newR g) s)).1, ()).1.hello.f), .bool ((((feedR (newR g) s)).1, ()).1.hello.n), .string ((((feedR (newR g) s)).1, ()).1.hello.name), .string ((((feedR (newR g) s)).1, ()).1.hello.peer), .bool ((((feedR (newR g) s)).1, ()).1.told), .string ((((feedR (newR g) s)).1, ()).1.left), .int .i64 ((((feedR (newR g) s)).1, ()).1.done), .int .i64 ((((feedR (newR g) s)).1, ()).1.wrong)] 108 (0, 0)), Rw 33 8 p45 (((feedR (newR g) s)).1, ()).1.ms.length c46 (msgsV (((feedR (newR g) s)).1, ()).1.ms), Rw 3 1 p47 (((feedR (newR g) s)).1, ()).1.ms.length c48 (zsV (((feedR (newR g) s)).1, ()).1.zs), Rw 3 1 p28 ((0 + n + 1) : Nat) c29 ([] ++ zsV zs ++ [.int .i64 (s.size : Int)]), Old w no] := H66.absorb (new := []) H68
        refine b_ret rfl rfl ?_
        refine l_of (s_val (v := .pointer (some ⟨gb, 0, none⟩)) (wt1 rfl rfl rfl rfl (bqn hce3)) rfl rfl (x_move rfl rfl) ?_)
        refine l_of (s_call (wt1 rfl rfl rfl rfl (bqn hce3)) (x_call' rfl rfl cl40) (wrong_w gb _ _ (H68.cell (k := 1) rfl rfl)) ?_)
        rintro _ wq69 ⟨rfl, H70⟩
        replace H70 : S wq69 [Ob g62 (.cells (if (rb, ()).1.told = true then (rb, ()).1.hello else Hs.zero).cells 23 (0, 0)), Ob gb (.cells #[.slice p56 (rb, ()).1.ms.length c57, .slice p58 (rb, ()).1.ms.length c59, .int .i64 ((rb, ()).1.bytes), .bool ((rb, ()).1.greet), .bool ((rb, ()).1.hello.e), .bool ((rb, ()).1.hello.f), .bool ((rb, ()).1.hello.n), .string ((rb, ()).1.hello.name), .string ((rb, ()).1.hello.peer), .bool ((rb, ()).1.told), .string ((rb, ()).1.left), .int .i64 ((rb, ()).1.done), .int .i64 ((rb, ()).1.wrong)] 108 (0, 0)), Rw 33 8 p56 (rb, ()).1.ms.length c57 (msgsV (rb, ()).1.ms), Rw 3 1 p58 (rb, ()).1.ms.length c59 (zsV (rb, ()).1.zs), Ob g51 (.cells (if (((feedR (newR g) s)).1, ()).1.told = true then (((feedR (newR g) s)).1, ()).1.hello else Hs.zero).cells 23 (0, 0)), Ob ga (.cells #[.slice p45 (((feedR (newR g) s)).1, ()).1.ms.length c46, .slice p47 (((feedR (newR g) s)).1, ()).1.ms.length c48, .int .i64 ((((feedR (newR g) s)).1, ()).1.bytes), .bool ((((feedR (newR g) s)).1, ()).1.greet), .bool ((((feedR (newR g) s)).1, ()).1.hello.e), .bool ((((feedR (newR g) s)).1, ()).1.hello.f), .bool ((((feedR (newR g) s)).1, ()).1.hello.n), .string ((((feedR (newR g) s)).1, ()).1.hello.name), .string ((((feedR (newR g) s)).1, ()).1.hello.peer), .bool ((((feedR (newR g) s)).1, ()).1.told), .string ((((feedR (newR g) s)).1, ()).1.left), .int .i64 ((((feedR (newR g) s)).1, ()).1.done), .int .i64 ((((feedR (newR g) s)).1, ()).1.wrong)] 108 (0, 0)), Rw 33 8 p45 (((feedR (newR g) s)).1, ()).1.ms.length c46 (msgsV (((feedR (newR g) s)).1, ()).1.ms), Rw 3 1 p47 (((feedR (newR g) s)).1, ()).1.ms.length c48 (zsV (((feedR (newR g) s)).1, ()).1.zs), Rw 3 1 p28 ((0 + n + 1) : Nat) c29 ([] ++ zsV zs ++ [.int .i64 (s.size : Int)]), Old w no] := H68.absorb (new := []) H70
        refine b_ret rfl rfl ?_
        refine l_of (s_val (v := .bool (!decide (((((feedR (newR g) s)).1, ()).1.wrong : Int) = (rb, ()).1.wrong))) (wt1 rfl rfl rfl rfl (bqn hce3)) rfl rfl (x_bin rfl rfl rfl b_neq) ?_)
        refine l_of (s_val (v := .bool (!decide (((((feedR (newR g) s)).1, ()).1.wrong : Int) = (rb, ()).1.wrong))) (wt0 rfl) rfl rfl (x_pick_f rfl rfl (bqn hce3) rfl) ?_)
        refine l_of (s_val (v := .bool (!decide (((((feedR (newR g) s)).1, ()).1.wrong : Int) = (rb, ()).1.wrong))) (wt0 rfl) rfl rfl (x_move rfl rfl) ?_)
        refine l_of (s_val (v := .pointer (some ⟨ga, 0, none⟩)) (wt1 rfl rfl rfl rfl (nf hce4)) rfl rfl (x_move rfl rfl) ?_)
        refine l_of (s_call (wt1 rfl rfl rfl rfl (nf hce4)) (x_call' rfl rfl cl42) (left_w ga _ _ (H70.cell (k := 5) rfl rfl)) ?_)
        rintro _ wq71 ⟨rfl, H72⟩
        replace H72 : S wq71 [Ob g62 (.cells (if (rb, ()).1.told = true then (rb, ()).1.hello else Hs.zero).cells 23 (0, 0)), Ob gb (.cells #[.slice p56 (rb, ()).1.ms.length c57, .slice p58 (rb, ()).1.ms.length c59, .int .i64 ((rb, ()).1.bytes), .bool ((rb, ()).1.greet), .bool ((rb, ()).1.hello.e), .bool ((rb, ()).1.hello.f), .bool ((rb, ()).1.hello.n), .string ((rb, ()).1.hello.name), .string ((rb, ()).1.hello.peer), .bool ((rb, ()).1.told), .string ((rb, ()).1.left), .int .i64 ((rb, ()).1.done), .int .i64 ((rb, ()).1.wrong)] 108 (0, 0)), Rw 33 8 p56 (rb, ()).1.ms.length c57 (msgsV (rb, ()).1.ms), Rw 3 1 p58 (rb, ()).1.ms.length c59 (zsV (rb, ()).1.zs), Ob g51 (.cells (if (((feedR (newR g) s)).1, ()).1.told = true then (((feedR (newR g) s)).1, ()).1.hello else Hs.zero).cells 23 (0, 0)), Ob ga (.cells #[.slice p45 (((feedR (newR g) s)).1, ()).1.ms.length c46, .slice p47 (((feedR (newR g) s)).1, ()).1.ms.length c48, .int .i64 ((((feedR (newR g) s)).1, ()).1.bytes), .bool ((((feedR (newR g) s)).1, ()).1.greet), .bool ((((feedR (newR g) s)).1, ()).1.hello.e), .bool ((((feedR (newR g) s)).1, ()).1.hello.f), .bool ((((feedR (newR g) s)).1, ()).1.hello.n), .string ((((feedR (newR g) s)).1, ()).1.hello.name), .string ((((feedR (newR g) s)).1, ()).1.hello.peer), .bool ((((feedR (newR g) s)).1, ()).1.told), .string ((((feedR (newR g) s)).1, ()).1.left), .int .i64 ((((feedR (newR g) s)).1, ()).1.done), .int .i64 ((((feedR (newR g) s)).1, ()).1.wrong)] 108 (0, 0)), Rw 33 8 p45 (((feedR (newR g) s)).1, ()).1.ms.length c46 (msgsV (((feedR (newR g) s)).1, ()).1.ms), Rw 3 1 p47 (((feedR (newR g) s)).1, ()).1.ms.length c48 (zsV (((feedR (newR g) s)).1, ()).1.zs), Rw 3 1 p28 ((0 + n + 1) : Nat) c29 ([] ++ zsV zs ++ [.int .i64 (s.size : Int)]), Old w no] := H70.absorb (new := []) H72
        refine b_ret rfl rfl ?_
        refine l_of (s_val (v := .pointer (some ⟨gb, 0, none⟩)) (wt1 rfl rfl rfl rfl (nf hce4)) rfl rfl (x_move rfl rfl) ?_)
        refine l_of (s_call (wt1 rfl rfl rfl rfl (nf hce4)) (x_call' rfl rfl cl42) (left_w gb _ _ (H72.cell (k := 1) rfl rfl)) ?_)
        rintro _ wq73 ⟨rfl, H74⟩
        replace H74 : S wq73 [Ob g62 (.cells (if (rb, ()).1.told = true then (rb, ()).1.hello else Hs.zero).cells 23 (0, 0)), Ob gb (.cells #[.slice p56 (rb, ()).1.ms.length c57, .slice p58 (rb, ()).1.ms.length c59, .int .i64 ((rb, ()).1.bytes), .bool ((rb, ()).1.greet), .bool ((rb, ()).1.hello.e), .bool ((rb, ()).1.hello.f), .bool ((rb, ()).1.hello.n), .string ((rb, ()).1.hello.name), .string ((rb, ()).1.hello.peer), .bool ((rb, ()).1.told), .string ((rb, ()).1.left), .int .i64 ((rb, ()).1.done), .int .i64 ((rb, ()).1.wrong)] 108 (0, 0)), Rw 33 8 p56 (rb, ()).1.ms.length c57 (msgsV (rb, ()).1.ms), Rw 3 1 p58 (rb, ()).1.ms.length c59 (zsV (rb, ()).1.zs), Ob g51 (.cells (if (((feedR (newR g) s)).1, ()).1.told = true then (((feedR (newR g) s)).1, ()).1.hello else Hs.zero).cells 23 (0, 0)), Ob ga (.cells #[.slice p45 (((feedR (newR g) s)).1, ()).1.ms.length c46, .slice p47 (((feedR (newR g) s)).1, ()).1.ms.length c48, .int .i64 ((((feedR (newR g) s)).1, ()).1.bytes), .bool ((((feedR (newR g) s)).1, ()).1.greet), .bool ((((feedR (newR g) s)).1, ()).1.hello.e), .bool ((((feedR (newR g) s)).1, ()).1.hello.f), .bool ((((feedR (newR g) s)).1, ()).1.hello.n), .string ((((feedR (newR g) s)).1, ()).1.hello.name), .string ((((feedR (newR g) s)).1, ()).1.hello.peer), .bool ((((feedR (newR g) s)).1, ()).1.told), .string ((((feedR (newR g) s)).1, ()).1.left), .int .i64 ((((feedR (newR g) s)).1, ()).1.done), .int .i64 ((((feedR (newR g) s)).1, ()).1.wrong)] 108 (0, 0)), Rw 33 8 p45 (((feedR (newR g) s)).1, ()).1.ms.length c46 (msgsV (((feedR (newR g) s)).1, ()).1.ms), Rw 3 1 p47 (((feedR (newR g) s)).1, ()).1.ms.length c48 (zsV (((feedR (newR g) s)).1, ()).1.zs), Rw 3 1 p28 ((0 + n + 1) : Nat) c29 ([] ++ zsV zs ++ [.int .i64 (s.size : Int)]), Old w no] := H72.absorb (new := []) H74
        refine b_ret rfl rfl ?_
        refine l_of (s_val (v := .bool (!decide (((((((feedR (newR g) s)).1, ()).1.left).size : Int) : Int) = (((rb, ()).1.left).size : Int)))) (wt1 rfl rfl rfl rfl (nf hce4)) rfl rfl (x_bin rfl rfl rfl b_neq) ?_)
        refine l_of (s_val (v := .bool (!decide (((((((feedR (newR g) s)).1, ()).1.left).size : Int) : Int) = (((rb, ()).1.left).size : Int)))) (wt0 rfl) rfl rfl (x_pick_f rfl rfl (nf hce4) rfl) ?_)
        refine l_of (s_val (v := .bool (!decide (((((((feedR (newR g) s)).1, ()).1.left).size : Int) : Int) = (((rb, ()).1.left).size : Int)))) (wt0 rfl) rfl rfl (x_move rfl rfl) ?_)
        refine l_of (s_val (v := .pointer (some ⟨ga, 0, none⟩)) (wt1 rfl rfl rfl rfl (nf (congrArg (fun z : Nat => (z : Int)) hce5))) rfl rfl (x_move rfl rfl) ?_)
        refine l_of (s_call (wt1 rfl rfl rfl rfl (nf (congrArg (fun z : Nat => (z : Int)) hce5))) (x_call' rfl rfl cl34) (wait_p ga _ _ _ _ (H74.cell (k := 5) rfl rfl)) ?_)
        rintro _ wq75 ⟨rfl, H76⟩
        replace H76 : S wq75 [Ob g62 (.cells (if (rb, ()).1.told = true then (rb, ()).1.hello else Hs.zero).cells 23 (0, 0)), Ob gb (.cells #[.slice p56 (rb, ()).1.ms.length c57, .slice p58 (rb, ()).1.ms.length c59, .int .i64 ((rb, ()).1.bytes), .bool ((rb, ()).1.greet), .bool ((rb, ()).1.hello.e), .bool ((rb, ()).1.hello.f), .bool ((rb, ()).1.hello.n), .string ((rb, ()).1.hello.name), .string ((rb, ()).1.hello.peer), .bool ((rb, ()).1.told), .string ((rb, ()).1.left), .int .i64 ((rb, ()).1.done), .int .i64 ((rb, ()).1.wrong)] 108 (0, 0)), Rw 33 8 p56 (rb, ()).1.ms.length c57 (msgsV (rb, ()).1.ms), Rw 3 1 p58 (rb, ()).1.ms.length c59 (zsV (rb, ()).1.zs), Ob g51 (.cells (if (((feedR (newR g) s)).1, ()).1.told = true then (((feedR (newR g) s)).1, ()).1.hello else Hs.zero).cells 23 (0, 0)), Ob ga (.cells #[.slice p45 (((feedR (newR g) s)).1, ()).1.ms.length c46, .slice p47 (((feedR (newR g) s)).1, ()).1.ms.length c48, .int .i64 ((((feedR (newR g) s)).1, ()).1.bytes), .bool ((((feedR (newR g) s)).1, ()).1.greet), .bool ((((feedR (newR g) s)).1, ()).1.hello.e), .bool ((((feedR (newR g) s)).1, ()).1.hello.f), .bool ((((feedR (newR g) s)).1, ()).1.hello.n), .string ((((feedR (newR g) s)).1, ()).1.hello.name), .string ((((feedR (newR g) s)).1, ()).1.hello.peer), .bool ((((feedR (newR g) s)).1, ()).1.told), .string ((((feedR (newR g) s)).1, ()).1.left), .int .i64 ((((feedR (newR g) s)).1, ()).1.done), .int .i64 ((((feedR (newR g) s)).1, ()).1.wrong)] 108 (0, 0)), Rw 33 8 p45 (((feedR (newR g) s)).1, ()).1.ms.length c46 (msgsV (((feedR (newR g) s)).1, ()).1.ms), Rw 3 1 p47 (((feedR (newR g) s)).1, ()).1.ms.length c48 (zsV (((feedR (newR g) s)).1, ()).1.zs), Rw 3 1 p28 ((0 + n + 1) : Nat) c29 ([] ++ zsV zs ++ [.int .i64 (s.size : Int)]), Old w no] := H74.absorb (new := []) H76
        refine b_ret rfl rfl ?_
        refine l_of (s_val (v := .pointer (some ⟨gb, 0, none⟩)) (wt1 rfl rfl rfl rfl (nf (congrArg (fun z : Nat => (z : Int)) hce5))) rfl rfl (x_move rfl rfl) ?_)
        refine l_of (s_call (wt1 rfl rfl rfl rfl (nf (congrArg (fun z : Nat => (z : Int)) hce5))) (x_call' rfl rfl cl34) (wait_p gb _ _ _ _ (H76.cell (k := 1) rfl rfl)) ?_)
        rintro _ wq77 ⟨rfl, H78⟩
        replace H78 : S wq77 [Ob g62 (.cells (if (rb, ()).1.told = true then (rb, ()).1.hello else Hs.zero).cells 23 (0, 0)), Ob gb (.cells #[.slice p56 (rb, ()).1.ms.length c57, .slice p58 (rb, ()).1.ms.length c59, .int .i64 ((rb, ()).1.bytes), .bool ((rb, ()).1.greet), .bool ((rb, ()).1.hello.e), .bool ((rb, ()).1.hello.f), .bool ((rb, ()).1.hello.n), .string ((rb, ()).1.hello.name), .string ((rb, ()).1.hello.peer), .bool ((rb, ()).1.told), .string ((rb, ()).1.left), .int .i64 ((rb, ()).1.done), .int .i64 ((rb, ()).1.wrong)] 108 (0, 0)), Rw 33 8 p56 (rb, ()).1.ms.length c57 (msgsV (rb, ()).1.ms), Rw 3 1 p58 (rb, ()).1.ms.length c59 (zsV (rb, ()).1.zs), Ob g51 (.cells (if (((feedR (newR g) s)).1, ()).1.told = true then (((feedR (newR g) s)).1, ()).1.hello else Hs.zero).cells 23 (0, 0)), Ob ga (.cells #[.slice p45 (((feedR (newR g) s)).1, ()).1.ms.length c46, .slice p47 (((feedR (newR g) s)).1, ()).1.ms.length c48, .int .i64 ((((feedR (newR g) s)).1, ()).1.bytes), .bool ((((feedR (newR g) s)).1, ()).1.greet), .bool ((((feedR (newR g) s)).1, ()).1.hello.e), .bool ((((feedR (newR g) s)).1, ()).1.hello.f), .bool ((((feedR (newR g) s)).1, ()).1.hello.n), .string ((((feedR (newR g) s)).1, ()).1.hello.name), .string ((((feedR (newR g) s)).1, ()).1.hello.peer), .bool ((((feedR (newR g) s)).1, ()).1.told), .string ((((feedR (newR g) s)).1, ()).1.left), .int .i64 ((((feedR (newR g) s)).1, ()).1.done), .int .i64 ((((feedR (newR g) s)).1, ()).1.wrong)] 108 (0, 0)), Rw 33 8 p45 (((feedR (newR g) s)).1, ()).1.ms.length c46 (msgsV (((feedR (newR g) s)).1, ()).1.ms), Rw 3 1 p47 (((feedR (newR g) s)).1, ()).1.ms.length c48 (zsV (((feedR (newR g) s)).1, ()).1.zs), Rw 3 1 p28 ((0 + n + 1) : Nat) c29 ([] ++ zsV zs ++ [.int .i64 (s.size : Int)]), Old w no] := H76.absorb (new := []) H78
        refine b_ret rfl rfl ?_
        refine l_of (s_val (v := .bool (!decide ((((((feedR (newR g) s)).1, ()).1.ms.length : Int) : Int) = ((rb, ()).1.ms.length : Int)))) (wt1 rfl rfl rfl rfl (nf (congrArg (fun z : Nat => (z : Int)) hce5))) rfl rfl (x_bin rfl rfl rfl b_neq) ?_)
        refine l_of (s_val (v := .bool (!decide ((((((feedR (newR g) s)).1, ()).1.ms.length : Int) : Int) = ((rb, ()).1.ms.length : Int)))) (wt0 rfl) rfl rfl (x_pick_f rfl rfl (nf (congrArg (fun z : Nat => (z : Int)) hce5)) rfl) ?_)
        refine g_nil ?_
        refine g_then ?_
        refine g_weak [(7, .pointer (some ⟨ga, 0, none⟩)), (8, .pointer (some ⟨gb, 0, none⟩)), (113, .bool (!decide ((((((feedR (newR g) s)).1, ()).1.ms.length : Int) : Int) = ((rb, ()).1.ms.length : Int))))] ⟨rfl, rfl, rfl, trivial⟩ ?_
        refine g_cond_f rfl (nf (congrArg (fun l : List M => (l.length : Int)) hce6)) ?_
        refine g_skip ?_
        refine g_then ?_
        refine g_seq ?_
        refine g_seq ?_
        refine g_region ?_
        refine l_of (s_val (v := .pointer (some ⟨ga, 0, none⟩)) (wt0 rfl) rfl rfl (x_move rfl rfl) ?_)
        refine l_of (s_call (wt0 rfl) (x_call' rfl rfl cl34) (wait_p ga _ _ _ _ (H78.cell (k := 5) rfl rfl)) ?_)
        rintro _ wq79 ⟨rfl, H80⟩
        replace H80 : S wq79 [Ob g62 (.cells (if (rb, ()).1.told = true then (rb, ()).1.hello else Hs.zero).cells 23 (0, 0)), Ob gb (.cells #[.slice p56 (rb, ()).1.ms.length c57, .slice p58 (rb, ()).1.ms.length c59, .int .i64 ((rb, ()).1.bytes), .bool ((rb, ()).1.greet), .bool ((rb, ()).1.hello.e), .bool ((rb, ()).1.hello.f), .bool ((rb, ()).1.hello.n), .string ((rb, ()).1.hello.name), .string ((rb, ()).1.hello.peer), .bool ((rb, ()).1.told), .string ((rb, ()).1.left), .int .i64 ((rb, ()).1.done), .int .i64 ((rb, ()).1.wrong)] 108 (0, 0)), Rw 33 8 p56 (rb, ()).1.ms.length c57 (msgsV (rb, ()).1.ms), Rw 3 1 p58 (rb, ()).1.ms.length c59 (zsV (rb, ()).1.zs), Ob g51 (.cells (if (((feedR (newR g) s)).1, ()).1.told = true then (((feedR (newR g) s)).1, ()).1.hello else Hs.zero).cells 23 (0, 0)), Ob ga (.cells #[.slice p45 (((feedR (newR g) s)).1, ()).1.ms.length c46, .slice p47 (((feedR (newR g) s)).1, ()).1.ms.length c48, .int .i64 ((((feedR (newR g) s)).1, ()).1.bytes), .bool ((((feedR (newR g) s)).1, ()).1.greet), .bool ((((feedR (newR g) s)).1, ()).1.hello.e), .bool ((((feedR (newR g) s)).1, ()).1.hello.f), .bool ((((feedR (newR g) s)).1, ()).1.hello.n), .string ((((feedR (newR g) s)).1, ()).1.hello.name), .string ((((feedR (newR g) s)).1, ()).1.hello.peer), .bool ((((feedR (newR g) s)).1, ()).1.told), .string ((((feedR (newR g) s)).1, ()).1.left), .int .i64 ((((feedR (newR g) s)).1, ()).1.done), .int .i64 ((((feedR (newR g) s)).1, ()).1.wrong)] 108 (0, 0)), Rw 33 8 p45 (((feedR (newR g) s)).1, ()).1.ms.length c46 (msgsV (((feedR (newR g) s)).1, ()).1.ms), Rw 3 1 p47 (((feedR (newR g) s)).1, ()).1.ms.length c48 (zsV (((feedR (newR g) s)).1, ()).1.zs), Rw 3 1 p28 ((0 + n + 1) : Nat) c29 ([] ++ zsV zs ++ [.int .i64 (s.size : Int)]), Old w no] := H78.absorb (new := []) H80
        refine b_ret rfl rfl ?_
        refine l_of (s_val (v := .int .i64 0) (wt0 rfl) rfl rfl (x_move rfl rfl) ?_)
        refine g_nil ?_
        refine g_then ?_
        refine g_block ?_
        refine g_loop (ι := Nat × Rdr × Option Addr × Nat × Option Addr × Nat × Rdr × Option Addr × Nat × Option Addr × Nat) (fun (k, ra2, q3, d3, q4, d4, rb2, q5, d5, q6, d6) => [(7, .pointer (some ⟨ga, 0, none⟩)), (8, .pointer (some ⟨gb, 0, none⟩)), (115, .int .i64 (((((feedR (newR g) s)).1, ()).1.ms.length : Int))), (116, .int .i64 ((k : Int)))]) (fun (k, ra2, q3, d3, q4, d4, rb2, q5, d5, q6, d6) wx => (ra2.ms.length + k = (feedR (newR g) s).1.ms.length) ∧ (ra2.ms = rb2.ms) ∧ (ra2.Ok (0 + 65536)) ∧ (rb2.Ok (65536 * i)) ∧ S wx [Ob ga (.cells #[.slice q3 ra2.ms.length d3, .slice q4 ra2.ms.length d4, .int .i64 (ra2.bytes), .bool ra2.greet, .bool ra2.hello.e, .bool ra2.hello.f, .bool ra2.hello.n, .string (ra2.hello.name), .string (ra2.hello.peer), .bool ra2.told, .string (ra2.left), .int .i64 (ra2.done), .int .i64 (ra2.wrong)] 108 (0, 0)), Rw 33 8 q3 ra2.ms.length d3 (msgsV ra2.ms), Rw 3 1 q4 ra2.ms.length d4 (zsV ra2.zs), Ob gb (.cells #[.slice q5 rb2.ms.length d5, .slice q6 rb2.ms.length d6, .int .i64 (rb2.bytes), .bool rb2.greet, .bool rb2.hello.e, .bool rb2.hello.f, .bool rb2.hello.n, .string (rb2.hello.name), .string (rb2.hello.peer), .bool rb2.told, .string (rb2.left), .int .i64 (rb2.done), .int .i64 (rb2.wrong)] 108 (0, 0)), Rw 33 8 q5 rb2.ms.length d5 (msgsV rb2.ms), Rw 3 1 q6 rb2.ms.length d6 (zsV rb2.zs), Old w no]) (fun (k, ra2, q3, d3, q4, d4, rb2, q5, d5, q6, d6) => (feedR (newR g) s).1.ms.length - k) (0, (((feedR (newR g) s)).1, ()).1, p45, c46, p47, c48, (rb, ()).1, p56, c57, p58, c59) ⟨rfl, rfl, rfl, rfl, trivial⟩ ⟨rfl, hce6, hoka, hokb, (H80.takes [5, 6, 7, 1, 2, 3, 9] (by decide))⟩ ?_
        rintro ⟨k, ra2, q3, d3, q4, d4, rb2, q5, d5, q6, d6⟩ wq81 ⟨hk, hms2, hoka2, hokb2, H82⟩
        replace H82 : S wq81 [Ob ga (.cells #[.slice q3 ra2.ms.length d3, .slice q4 ra2.ms.length d4, .int .i64 (ra2.bytes), .bool ra2.greet, .bool ra2.hello.e, .bool ra2.hello.f, .bool ra2.hello.n, .string (ra2.hello.name), .string (ra2.hello.peer), .bool ra2.told, .string (ra2.left), .int .i64 (ra2.done), .int .i64 (ra2.wrong)] 108 (0, 0)), Rw 33 8 q3 ra2.ms.length d3 (msgsV ra2.ms), Rw 3 1 q4 ra2.ms.length d4 (zsV ra2.zs), Ob gb (.cells #[.slice q5 rb2.ms.length d5, .slice q6 rb2.ms.length d6, .int .i64 (rb2.bytes), .bool rb2.greet, .bool rb2.hello.e, .bool rb2.hello.f, .bool rb2.hello.n, .string (rb2.hello.name), .string (rb2.hello.peer), .bool rb2.told, .string (rb2.left), .int .i64 (rb2.done), .int .i64 (rb2.wrong)] 108 (0, 0)), Rw 33 8 q5 rb2.ms.length d5 (msgsV rb2.ms), Rw 3 1 q6 rb2.ms.length d6 (zsV rb2.zs), Old w no] := H82
        refine g_weak [(7, .pointer (some ⟨ga, 0, none⟩)), (8, .pointer (some ⟨gb, 0, none⟩)), (115, .int .i64 (((((feedR (newR g) s)).1, ()).1.ms.length : Int))), (116, .int .i64 ((k : Int)))] ⟨rfl, rfl, rfl, rfl, trivial⟩ ?_
        refine g_seq ?_
        refine g_region ?_
        refine l_of (s_val (v := .bool (decide (((k : Int) : Int) < ((((feedR (newR g) s)).1, ()).1.ms.length : Int)))) (wt0 rfl) rfl rfl (x_bin rfl rfl rfl b_lss) ?_)
        refine g_nil ?_
        refine g_then ?_
        refine g_seq ?_
        by_cases hb83 : ((k : Int) : Int) < ((((feedR (newR g) s)).1, ()).1.ms.length : Int)
        · skip
          have hkk : k < (feedR (newR g) s).1.ms.length := Int.ofNat_lt.1 hb83
          have hoka4 := hoka.many
          obtain ⟨hnb1, hnb2, hnb3, hnb4, hnb5⟩ := next_both hoka2 hokb2 hms2 (by omega)
          refine g_cond_t rfl (decide_eq_true hb83) ?_
          refine g_skip ?_
          refine g_then ?_
          refine g_seq ?_
          refine g_block ?_
          refine g_seq ?_
          refine g_region ?_
          refine l_of (s_val (v := .pointer (some ⟨ga, 0, none⟩)) (wt0 rfl) rfl rfl (x_move rfl rfl) ?_)
          refine l_of (s_call (wt0 rfl) (x_call' rfl rfl cl35) (next_p ga ra2 hoka2 q3 q4 d3 d4 _ (H82.takes [0, 1, 2] (by decide))) ?_)
          rintro _ wq88 ⟨rfl, p84, c85, p86, c87, H89⟩
          replace H89 : S wq88 [Ob ga (.cells #[.slice p84 (nextR ra2).1.ms.length c85, .slice p86 (nextR ra2).1.ms.length c87, .int .i64 ((nextR ra2).1.bytes), .bool ((nextR ra2).1.greet), .bool ((nextR ra2).1.hello.e), .bool ((nextR ra2).1.hello.f), .bool ((nextR ra2).1.hello.n), .string ((nextR ra2).1.hello.name), .string ((nextR ra2).1.hello.peer), .bool ((nextR ra2).1.told), .string ((nextR ra2).1.left), .int .i64 ((nextR ra2).1.done), .int .i64 ((nextR ra2).1.wrong)] 108 (0, 0)), Rw 33 8 p84 (nextR ra2).1.ms.length c85 (msgsV (nextR ra2).1.ms), Rw 3 1 p86 (nextR ra2).1.ms.length c87 (zsV (nextR ra2).1.zs), Ob gb (.cells #[.slice q5 rb2.ms.length d5, .slice q6 rb2.ms.length d6, .int .i64 (rb2.bytes), .bool rb2.greet, .bool rb2.hello.e, .bool rb2.hello.f, .bool rb2.hello.n, .string (rb2.hello.name), .string (rb2.hello.peer), .bool rb2.told, .string (rb2.left), .int .i64 (rb2.done), .int .i64 (rb2.wrong)] 108 (0, 0)), Rw 33 8 q5 rb2.ms.length d5 (msgsV rb2.ms), Rw 3 1 q6 rb2.ms.length d6 (zsV rb2.zs), Old w no] := H82.absorbI (new := [Ob ga (.cells #[.slice p84 (nextR ra2).1.ms.length c85, .slice p86 (nextR ra2).1.ms.length c87, .int .i64 ((nextR ra2).1.bytes), .bool ((nextR ra2).1.greet), .bool ((nextR ra2).1.hello.e), .bool ((nextR ra2).1.hello.f), .bool ((nextR ra2).1.hello.n), .string ((nextR ra2).1.hello.name), .string ((nextR ra2).1.hello.peer), .bool ((nextR ra2).1.told), .string ((nextR ra2).1.left), .int .i64 ((nextR ra2).1.done), .int .i64 ((nextR ra2).1.wrong)] 108 (0, 0)), Rw 33 8 p84 (nextR ra2).1.ms.length c85 (msgsV (nextR ra2).1.ms), Rw 3 1 p86 (nextR ra2).1.ms.length c87 (zsV (nextR ra2).1.zs)]) [0, 1, 2] H89
          refine b_ret rfl rfl ?_
          refine l_of (s_val (v := .tuple #[.agg (nextR ra2).2.1.cells, .bool ((nextR ra2).2.2)]) (wt0 rfl) rfl rfl (x_move rfl rfl) ?_)
          refine l_of (s_val (v := .agg (nextR ra2).2.1.cells) (wt0 rfl) rfl rfl (x_extract rfl rfl rfl) ?_)
          refine l_of (s_val (v := .bool ((nextR ra2).2.2)) (wt0 rfl) rfl rfl (x_extract rfl rfl rfl) ?_)
          refine l_of (s_alloc H89 (wt0 rfl) rfl rfl rfl ze33 ?_)
          intro g90 wq91 H92
          refine l_of (s_store H92 0 (wt0 rfl) rfl rfl rfl rfl rfl sz33 rfl rfl (cs' := (nextR ra2).2.1.cells) rfl ?_)
          intro wq93 H94
          refine l_of (s_val (v := .bool ((nextR ra2).2.2)) (wt0 rfl) rfl rfl (x_assign rfl rfl) ?_)
          refine g_nil ?_
          refine g_then ?_
          refine g_seq ?_
          refine g_region ?_
          refine l_of (s_val (v := .pointer (some ⟨gb, 0, none⟩)) (wt0 rfl) rfl rfl (x_move rfl rfl) ?_)
          refine l_of (s_call (wt0 rfl) (x_call' rfl rfl cl35) (next_p gb rb2 hokb2 q5 q6 d5 d6 _ (H94.takes [4, 5, 6] (by decide))) ?_)
          rintro _ wq99 ⟨rfl, p95, c96, p97, c98, H100⟩
          replace H100 : S wq99 [Ob gb (.cells #[.slice p95 (nextR rb2).1.ms.length c96, .slice p97 (nextR rb2).1.ms.length c98, .int .i64 ((nextR rb2).1.bytes), .bool ((nextR rb2).1.greet), .bool ((nextR rb2).1.hello.e), .bool ((nextR rb2).1.hello.f), .bool ((nextR rb2).1.hello.n), .string ((nextR rb2).1.hello.name), .string ((nextR rb2).1.hello.peer), .bool ((nextR rb2).1.told), .string ((nextR rb2).1.left), .int .i64 ((nextR rb2).1.done), .int .i64 ((nextR rb2).1.wrong)] 108 (0, 0)), Rw 33 8 p95 (nextR rb2).1.ms.length c96 (msgsV (nextR rb2).1.ms), Rw 3 1 p97 (nextR rb2).1.ms.length c98 (zsV (nextR rb2).1.zs), Ob g90 (.cells (nextR ra2).2.1.cells 33 (0, 0)), Ob ga (.cells #[.slice p84 (nextR ra2).1.ms.length c85, .slice p86 (nextR ra2).1.ms.length c87, .int .i64 ((nextR ra2).1.bytes), .bool ((nextR ra2).1.greet), .bool ((nextR ra2).1.hello.e), .bool ((nextR ra2).1.hello.f), .bool ((nextR ra2).1.hello.n), .string ((nextR ra2).1.hello.name), .string ((nextR ra2).1.hello.peer), .bool ((nextR ra2).1.told), .string ((nextR ra2).1.left), .int .i64 ((nextR ra2).1.done), .int .i64 ((nextR ra2).1.wrong)] 108 (0, 0)), Rw 33 8 p84 (nextR ra2).1.ms.length c85 (msgsV (nextR ra2).1.ms), Rw 3 1 p86 (nextR ra2).1.ms.length c87 (zsV (nextR ra2).1.zs), Old w no] := H94.absorbI (new := [Ob gb (.cells #[.slice p95 (nextR rb2).1.ms.length c96, .slice p97 (nextR rb2).1.ms.length c98, .int .i64 ((nextR rb2).1.bytes), .bool ((nextR rb2).1.greet), .bool ((nextR rb2).1.hello.e), .bool ((nextR rb2).1.hello.f), .bool ((nextR rb2).1.hello.n), .string ((nextR rb2).1.hello.name), .string ((nextR rb2).1.hello.peer), .bool ((nextR rb2).1.told), .string ((nextR rb2).1.left), .int .i64 ((nextR rb2).1.done), .int .i64 ((nextR rb2).1.wrong)] 108 (0, 0)), Rw 33 8 p95 (nextR rb2).1.ms.length c96 (msgsV (nextR rb2).1.ms), Rw 3 1 p97 (nextR rb2).1.ms.length c98 (zsV (nextR rb2).1.zs)]) [4, 5, 6] H100
          refine b_ret rfl rfl ?_
          refine l_of (s_val (v := .tuple #[.agg (nextR rb2).2.1.cells, .bool ((nextR rb2).2.2)]) (wt0 rfl) rfl rfl (x_move rfl rfl) ?_)
          refine l_of (s_val (v := .agg (nextR rb2).2.1.cells) (wt0 rfl) rfl rfl (x_extract rfl rfl rfl) ?_)
          refine l_of (s_val (v := .bool ((nextR rb2).2.2)) (wt0 rfl) rfl rfl (x_extract rfl rfl rfl) ?_)
          refine l_of (s_alloc H100 (wt0 rfl) rfl rfl rfl ze33 ?_)
          intro g101 wq102 H103
          refine l_of (s_store H103 0 (wt0 rfl) rfl rfl rfl rfl rfl sz33 rfl rfl (cs' := (nextR rb2).2.1.cells) rfl ?_)
          intro wq104 H105
          refine l_of (s_val (v := .bool ((nextR rb2).2.2)) (wt0 rfl) rfl rfl (x_assign rfl rfl) ?_)
          refine g_nil ?_
          refine g_then ?_
          refine g_seq ?_
          refine g_region ?_
          refine l_of (s_val (v := .agg (nextR ra2).2.1.cells) (wt0 rfl) rfl rfl (x_loadA H105 4 rfl rfl Try.underlying33 rfl sz33 rfl rfl rfl) ?_)
          refine l_of (s_val (v := .agg (nextR rb2).2.1.cells) (wt0 rfl) rfl rfl (x_loadA H105 0 rfl rfl Try.underlying33 rfl sz33 rfl rfl rfl) ?_)
          refine l_of (s_val (v := .bool (!decide ((nextR ra2).2.1 = (nextR rb2).2.1))) (wt0 rfl) rfl rfl (x_bin rfl rfl rfl (b_msgN (nextR ra2).2.1 (nextR rb2).2.1)) ?_)
          refine l_of (s_val (v := .bool (!decide ((nextR ra2).2.1 = (nextR rb2).2.1))) (wt0 rfl) rfl rfl (x_move rfl rfl) ?_)
          refine l_of (s_val (v := .bool ((nextR ra2).2.2)) (wt1 rfl rfl rfl rfl (nf hnb1)) rfl rfl (x_move rfl rfl) ?_)
          refine l_of (s_val (v := .bool (!((nextR ra2).2.2))) (wt1 rfl rfl rfl rfl (nf hnb1)) rfl rfl (x_not (b := (nextR ra2).2.2) rfl rfl) ?_)
          refine l_of (s_val (v := .bool (!((nextR ra2).2.2))) (wt0 rfl) rfl rfl (x_pick_f rfl rfl (nf hnb1) rfl) ?_)
          refine l_of (s_val (v := .bool (!((nextR ra2).2.2))) (wt0 rfl) rfl rfl (x_move rfl rfl) ?_)
          refine l_of (s_val (v := .bool ((nextR rb2).2.2)) (wt1 rfl rfl rfl rfl (bnt hnb2)) rfl rfl (x_move rfl rfl) ?_)
          refine l_of (s_val (v := .bool (!((nextR rb2).2.2))) (wt1 rfl rfl rfl rfl (bnt hnb2)) rfl rfl (x_not (b := (nextR rb2).2.2) rfl rfl) ?_)
          refine l_of (s_val (v := .bool (!((nextR rb2).2.2))) (wt0 rfl) rfl rfl (x_pick_f rfl rfl (bnt hnb2) rfl) ?_)
          refine g_nil ?_
          refine g_then ?_
          refine g_weak [(7, .pointer (some ⟨ga, 0, none⟩)), (8, .pointer (some ⟨gb, 0, none⟩)), (115, .int .i64 (((((feedR (newR g) s)).1, ()).1.ms.length : Int))), (116, .int .i64 ((k : Int))), (138, .bool (!((nextR rb2).2.2)))] ⟨rfl, rfl, rfl, rfl, rfl, trivial⟩ ?_
          refine g_cond_f rfl (bnt hnb3) ?_
          refine g_skip ?_
          refine g_in ?_
          refine g_then ?_
          refine g_region ?_
          refine l_of (s_val (v := .int .i64 ((k : Int) + 1)) (wt0 rfl) rfl rfl (x_bin rfl rfl rfl (b_add (w64 (by omega)))) ?_)
          refine l_of (s_val (v := .int .i64 ((k : Int) + 1)) (wt0 rfl) rfl rfl (x_move rfl rfl) ?_)
          refine g_nil ?_
          refine g_then ?_
          refine g_round (i := (k, ra2, q3, d3, q4, d4, rb2, q5, d5, q6, d6)) (k + 1, (nextR ra2).1, p84, c85, p86, c87, (nextR rb2).1, p95, c96, p97, c98) ?_ ?_ ?_
          · exact ⟨rfl, rfl, rfl, rfl, trivial⟩
          · exact ⟨by omega, hnb4, (next_ok hoka2), (next_ok hokb2), (H105.takes [5, 6, 7, 1, 2, 3, 8] (by decide))⟩
          · (try dsimp only); omega
        · skip
          refine g_cond_f rfl (decide_eq_false hb83) ?_
          refine g_exit ?_
          refine g_then_exit ?_
          refine g_then_exit ?_
          refine g_in_hit ?_
          refine g_then ?_
          refine g_seq ?_
          refine g_region ?_
          refine l_of (s_call (wt0 rfl) (x_call' rfl rfl cl10) (awake_p _) ?_)
          rintro _ wq106 ⟨rfl, H107⟩
          replace H107 : S wq106 [Ob ga (.cells #[.slice q3 ra2.ms.length d3, .slice q4 ra2.ms.length d4, .int .i64 (ra2.bytes), .bool ra2.greet, .bool ra2.hello.e, .bool ra2.hello.f, .bool ra2.hello.n, .string (ra2.hello.name), .string (ra2.hello.peer), .bool ra2.told, .string (ra2.left), .int .i64 (ra2.done), .int .i64 (ra2.wrong)] 108 (0, 0)), Rw 33 8 q3 ra2.ms.length d3 (msgsV ra2.ms), Rw 3 1 q4 ra2.ms.length d4 (zsV ra2.zs), Ob gb (.cells #[.slice q5 rb2.ms.length d5, .slice q6 rb2.ms.length d6, .int .i64 (rb2.bytes), .bool rb2.greet, .bool rb2.hello.e, .bool rb2.hello.f, .bool rb2.hello.n, .string (rb2.hello.name), .string (rb2.hello.peer), .bool rb2.told, .string (rb2.left), .int .i64 (rb2.done), .int .i64 (rb2.wrong)] 108 (0, 0)), Rw 33 8 q5 rb2.ms.length d5 (msgsV rb2.ms), Rw 3 1 q6 rb2.ms.length d6 (zsV rb2.zs), Old w no] := H82.absorb (new := []) (S.of_below H107)
          refine b_ret rfl rfl ?_
          refine l_of (s_val (v := .bool true) (wt0 rfl) rfl rfl (x_assign rfl rfl) ?_)
          refine g_nil ?_
          refine g_then ?_
          refine g_ret ?_
          refine fin_ret [.tmp 6] [.bool true] rfl ⟨rfl, trivial⟩ ?_
          exact ⟨rfl, (H107.mask [false, false, false, false, false, false, true]).below (new := [])⟩
end Go.Proofs.Ytcjmdkklbbollaa
