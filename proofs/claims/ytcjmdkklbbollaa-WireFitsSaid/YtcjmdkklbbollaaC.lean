import Derived.Test.YtcjmdkklbbollaaB
set_option linter.unusedSimpArgs false
set_option linter.unusedVariables false
namespace Go.Proofs.Ytcjmdkklbbollaa
open Go.RowKit

theorem four_b (k : Nat) (w : World) :
    Calls Try.prog 75 #[.func (.func k) #[] #[]] w fun e w' => e = .returned (.agg #[.int .i64 4, .func (.func k) #[] #[], .nilFunc, .int .i64 0, .int .i64 4294967295, .int .i64 0]) ∧ Sub w w' := by
  go_enter Try.func75, Try.ntmps75
  go_wp2
  refine bodyPost_ret (v := .agg #[.int .i64 4, .func (.func k) #[] #[], .nilFunc, .int .i64 0, .int .i64 4294967295, .int .i64 0]) (by simp [results, Try.results75, go_sem]) rfl ⟨rfl, Sub.al (Below.refl _ _) _⟩

theorem rest_b (a b c : Int) (w : World) :
    Calls Try.prog 82 #[.int .i64 a, .int .i64 b, .int .i64 c] w fun e w' => e = .returned (.agg #[.int .i64 0, .nilFunc, .func (.func 95) #[] #[], .int .i64 a, .int .i64 b, .int .i64 c]) ∧ Sub w w' := by
  go_enter Try.func82, Try.ntmps82
  go_wp2
  refine bodyPost_ret (v := .agg #[.int .i64 0, .nilFunc, .func (.func 95) #[] #[], .int .i64 a, .int .i64 b, .int .i64 c]) (by simp [results, Try.results82, go_sem]) rfl ⟨rfl, Sub.al (Below.refl _ _) _⟩

theorem clip_p (a : Addr) (w : World) :
    Calls Try.prog 83 #[.slice (some a) 5 5] w fun e w' => e = .returned (.slice (some a) 5 5) ∧ w = w' := by
  go_enter Try.func83, Try.ntmps83
  go_wp2
  go_ret
  exact ⟨rfl, rfl⟩

/-! The fields, as cells. -/
def f4 (k : Nat) : List Value := [.int .i64 4, .func (.func k) #[] #[], .nilFunc, .int .i64 0, .int .i64 4294967295, .int .i64 0]
def fLen : List Value := [.int .i64 4, .func (.func 78) #[] #[], .nilFunc, .int .i64 1, .int .i64 1024, .int .i64 0]
def fRest (a b c : Int) : List Value := [.int .i64 0, .nilFunc, .func (.func 95) #[] #[], .int .i64 a, .int .i64 b, .int .i64 c]
def fRoot : List Value := [.int .i64 32, .nilFunc, .func (.func 79) #[] #[], .int .i64 32, .int .i64 32, .int .i64 1]
def fPort : List Value := [.int .i64 2, .func (.func 76) #[] #[], .nilFunc, .int .i64 1, .int .i64 65535, .int .i64 0]
def fExt : List Value := [.int .i64 1, .func (.func 76) #[] #[], .nilFunc, .int .i64 0, .int .i64 255, .int .i64 0]
def sBlock : List Value := f4 76 ++ f4 77 ++ fLen
def sAsk : List Value := fRoot ++ f4 80 ++ f4 76 ++ f4 78 ++ f4 81
def sOne : List Value := f4 76
def sBits : List Value := fRest 0 512 1
def sPiece : List Value := f4 76 ++ f4 77 ++ fRest 1 1024 1
def sExt : List Value := fExt ++ fRest 0 4096 1
def sHash : List Value := sAsk ++ fRest 32 2048 32

/-- The array of shapes, over its slices. -/
def shapesRow (o b a bi pi po ex ha : Value) : Array Value := #[.int .i64 0, .slice none 0 0, .int .i64 0, .slice none 0 0, .int .i64 0, .slice none 0 0, .int .i64 1, .slice none 0 0, .int .i64 2, .slice none 0 0, .int .i64 3, .slice none 0 0,
  .int .i64 4, o, .int .i64 5, bi, .int .i64 6, b, .int .i64 7, pi, .int .i64 8, b, .int .i64 9, po, .int .i64 13, o, .int .i64 14, .slice none 0 0, .int .i64 15, .slice none 0 0,
  .int .i64 16, b, .int .i64 17, o, .int .i64 20, ex, .int .i64 21, a, .int .i64 22, ha, .int .i64 23, a]
def shapesVal (o b a bi pi po ex ha : Value) : Value := .agg (shapesRow o b a bi pi po ex ha)

def Shapes (lo : Nat) (w : World) (v : Value) : Prop := ∃ o b a bi pi po ex ha, v = shapesVal o b a bi pi po ex ha ∧
  Rd w lo w.heap.size 6 o sOne ∧ Rd w lo w.heap.size 6 b sBlock ∧ Rd w lo w.heap.size 6 a sAsk ∧ Rd w lo w.heap.size 6 bi sBits ∧ Rd w lo w.heap.size 6 pi sPiece ∧ Rd w lo w.heap.size 6 po fPort ∧ Rd w lo w.heap.size 6 ex sExt ∧ Rd w lo w.heap.size 6 ha sHash

theorem info79 : (Try.prog.info? 79).map (fun i => (i.zero, i.size, i.bytes)) = some (some (.agg #[.int .i64 0, .nilFunc, .nilFunc, .int .i64 0, .int .i64 0, .int .i64 0]), 6, 48) := by kernel_rfl

set_option maxRecDepth 100000 in
set_option maxHeartbeats 4000000 in
theorem shapes_p (w : World) : Calls Try.prog 46 #[] w fun e w' => ∃ v, e = .returned v ∧ Shapes (w.heap.size + 1) w' v ∧ Sub w w' := by
  obtain ⟨i0, hi0, hz0, hz1, hz2⟩ := info_parts info79
  go_enter Try.func46, Try.ntmps46
  go_wp2_with fail
  refine (four_b _ _).mono ?_; rintro e w1 ⟨rfl, hb1⟩
  go_wp2_with fail
  refine (four_b _ _).mono ?_; rintro e w2 ⟨rfl, hb2⟩
  go_wp2_with fail
  refine (four_b _ _).mono ?_; rintro e w3 ⟨rfl, hb3⟩
  go_wp2_with fail
  refine (four_b _ _).mono ?_; rintro e w4 ⟨rfl, hb4⟩
  go_wp2_with fail
  refine (four_b _ _).mono ?_; rintro e w5 ⟨rfl, hb5⟩
  go_wp2_with fail
  refine (four_b _ _).mono ?_; rintro e w6 ⟨rfl, hb6⟩
  go_wp2_with fail
  refine (four_b _ _).mono ?_; rintro e w7 ⟨rfl, hb7⟩
  go_wp2_with fail
  refine (rest_b _ _ _ _).mono ?_; rintro e w8 ⟨rfl, hb8⟩
  go_wp2_with fail
  refine (four_b _ _).mono ?_; rintro e w9 ⟨rfl, hb9⟩
  go_wp2_with fail
  refine (four_b _ _).mono ?_; rintro e w10 ⟨rfl, hb10⟩
  go_wp2_with fail
  refine (rest_b _ _ _ _).mono ?_; rintro e w11 ⟨rfl, hb11⟩
  go_wp2_with fail
  refine (rest_b _ _ _ _).mono ?_; rintro e w12 ⟨rfl, hb12⟩
  go_wp2_with fail
  refine (clip_p _ _).mono ?_; rintro e w12 ⟨rfl, rfl⟩
  go_wp2_with fail
  refine (rest_b _ _ _ _).mono ?_; rintro e w13 ⟨rfl, hb13⟩
  have hz : w.heap.size + 1 ≤ w1.heap.size ∧ w2.heap.size + 1 ≤ w3.heap.size ∧ w6.heap.size + 1 ≤ w7.heap.size ∧ w7.heap.size + 1 ≤ w8.heap.size ∧ w8.heap.size + 1 ≤ w9.heap.size ∧ w11.heap.size + 2 ≤ w12.heap.size ∧ w12.heap.size + 1 ≤ w13.heap.size := by
    have h1 := hb1.size; have h3 := hb3.size; have h7 := hb7.size; have h8 := hb8.size; have h9 := hb9.size; have h12 := hb12.size; have h13 := hb13.size
    simp at h1 h3 h7 h8 h9 h12 h13
    omega
  have hle : w1.heap.size ≤ w2.heap.size ∧ w3.heap.size ≤ w4.heap.size ∧ w4.heap.size ≤ w5.heap.size ∧ w5.heap.size ≤ w6.heap.size ∧ w9.heap.size ≤ w10.heap.size ∧ w10.heap.size ≤ w11.heap.size := ⟨hb2.size, hb4.size, hb5.size, hb6.size, hb10.size, hb11.size⟩
  have hask : Blk w13 w6.heap.size 79 sAsk.toArray :=
    ((((((Blk.new w6 79 sAsk.toArray).sub hb7).alloc _).sub hb8 |>.alloc _).sub hb9).sub hb10 |>.sub hb11 |>.alloc _ |>.alloc _).sub hb12 |>.alloc _ |>.sub hb13
  have Hask := Lib.hid hask; clear hask
  go_wp2_with (at_builtin; refine wpList_append_grows _ rfl (.tmp 52) (.tmp 54) 71 rfl 79 i0 _ 6 48 Try.underlying71 hi0 hz0 hz1 hz2 rfl (by decide) (some ⟨w6.heap.size, 0, none⟩) 5 5 sAsk rfl (by simp) rfl ?c0 ⟨w13.heap.size, 0, none⟩ 1 1 (fRest 32 2048 32) rfl rfl ?c1 ?c2 (by decide) (by decide) (by decide) ?_)
  case c0 =>
    intro b hb j u hj
    obtain rfl := Option.some.inj hb
    have : (⟨w6.heap.size, 0, none⟩ : Addr).add j = ⟨w6.heap.size, j, none⟩ := by unfold Addr.add; split <;> simp_all
    rw [this, (Hask.out.alloc _).cell, ← hj]; simp
  case c1 =>
    intro j u hj
    have : (⟨w13.heap.size, 0, none⟩ : Addr).add j = ⟨w13.heap.size, j, none⟩ := by unfold Addr.add; split <;> simp_all
    rw [this, World.cell?_alloc_at _ _ _ _ rfl, ← hj]; simp [fRest]
  case c2 => intro u hu; simp [fRest] at hu; rcases hu with rfl | rfl | rfl | rfl | rfl | rfl <;> rfl
  intro v' w14 hown hgrow
  obtain ⟨gh, ch, cur, hv, hgh, hbl, hn6, _, hcs, htk⟩ := own_form hown (by decide)
  rw [hv]
  clear hv hown
  have hgh' : w13.heap.size + 1 ≤ gh := by simpa using hgh
  have Hh := Lib.hid (And.intro hbl (And.intro htk hn6)); clear hbl htk hcs hn6 hgh
  have hs14 : w13.heap.size + 1 ≤ w14.heap.size := by have := hgrow.size; simpa using this
  have hrow : ∀ g t cs, Blk w13 g t cs → Blk w14 g t cs := fun g t cs h => (h.alloc _).grown hgrow (by simp)
  have h0 : Blk w14 w.heap.size 74 _ := hrow _ _ _ ((((((((((Blk.new w 74 _).sub hb1).sub hb2).alloc _).sub hb3).sub hb4 |>.sub hb5).sub hb6 |>.alloc _).sub hb7 |>.alloc _).sub hb8 |>.alloc _).sub hb9 |>.sub hb10 |>.sub hb11 |>.alloc _ |>.alloc _ |>.sub hb12 |>.alloc _ |>.sub hb13)
  have Hg := Lib.hid hgrow; clear hgrow
  have Hr := Lib.hid hrow; clear hrow
  have H0 := Lib.hid h0; clear h0
  go_wp2_with (refine wpList_store_row rfl 74 (.tmp 0) (.tmp 59) rfl w.heap.size rfl _ rfl 74 _ H0.out ?d1 rfl ?d2 ?_)
  case d1 => rfl
  case d2 => simp [Value.oneCell']
  have hB := (H0.out).row (shapesRow (.slice (some ⟨w7.heap.size, 0, none⟩) 1 1) (.slice (some ⟨w2.heap.size, 0, none⟩) 3 3) (.slice (some ⟨w6.heap.size, 0, none⟩) 5 5) (.slice (some ⟨w8.heap.size, 0, none⟩) 1 1) (.slice (some ⟨w11.heap.size, 0, none⟩) 3 3) (.slice (some ⟨w11.heap.size + 1, 0, none⟩) 1 1) (.slice (some ⟨w12.heap.size, 0, none⟩) 2 2) (.slice (some ⟨gh, 0, none⟩) 6 ch))
  have hrd : ∀ g n c cs, Blk w13 g 79 cs → cs.size = n * 6 → n ≤ c → w.heap.size + 1 ≤ g → Rd (w14.setRow w.heap.size (shapesRow (.slice (some ⟨w7.heap.size, 0, none⟩) 1 1) (.slice (some ⟨w2.heap.size, 0, none⟩) 3 3) (.slice (some ⟨w6.heap.size, 0, none⟩) 5 5) (.slice (some ⟨w8.heap.size, 0, none⟩) 1 1) (.slice (some ⟨w11.heap.size, 0, none⟩) 3 3) (.slice (some ⟨w11.heap.size + 1, 0, none⟩) 1 1) (.slice (some ⟨w12.heap.size, 0, none⟩) 2 2) (.slice (some ⟨gh, 0, none⟩) 6 ch))) (w.heap.size + 1) w14.heap.size 6 (.slice (some ⟨g, 0, none⟩) n c) cs.toList :=
    fun g n c cs h hs hn hne2 => Rd.of_blk ((Hr.out _ _ _ h).farRow (by omega) _) hs hn ⟨hne2, by have := h.lt; omega⟩
  refine bodyPost_ret (v := shapesVal (.slice (some ⟨w7.heap.size, 0, none⟩) 1 1) (.slice (some ⟨w2.heap.size, 0, none⟩) 3 3) (.slice (some ⟨w6.heap.size, 0, none⟩) 5 5) (.slice (some ⟨w8.heap.size, 0, none⟩) 1 1) (.slice (some ⟨w11.heap.size, 0, none⟩) 3 3) (.slice (some ⟨w11.heap.size + 1, 0, none⟩) 1 1) (.slice (some ⟨w12.heap.size, 0, none⟩) 2 2) (.slice (some ⟨gh, 0, none⟩) 6 ch)) ?_ rfl ⟨_, rfl, ?_, ?_⟩
  · exact results_cell_row rfl _ _ w.heap.size 74 _ (0, 0) _ rfl hB Try.underlying74 rfl rfl
  · have e : ∀ cs, (w14.setRow w.heap.size cs).heap.size = w14.heap.size := fun _ => size_setRow _ _ _
    refine ⟨_, _, _, _, _, _, _, _, rfl, ?_, ?_, ?_, ?_, ?_, ?_, ?_, ?_⟩ <;> rw [e]
    · exact hrd _ _ _ #[_, _, _, _, _, _] ((Blk.new w7 79 _).sub hb8 |>.alloc _ |>.sub hb9 |>.sub hb10 |>.sub hb11 |>.alloc _ |>.alloc _ |>.sub hb12 |>.alloc _ |>.sub hb13) rfl (Nat.le_refl _) (by omega)
    · exact hrd _ _ _ sBlock.toArray ((Blk.new w2 79 _).sub hb3 |>.sub hb4 |>.sub hb5 |>.sub hb6 |>.alloc _ |>.sub hb7 |>.alloc _ |>.sub hb8 |>.alloc _ |>.sub hb9 |>.sub hb10 |>.sub hb11 |>.alloc _ |>.alloc _ |>.sub hb12 |>.alloc _ |>.sub hb13) rfl (Nat.le_refl _) (by omega)
    · exact hrd _ _ _ sAsk.toArray Hask.out rfl (Nat.le_refl _) (by omega)
    · exact hrd _ _ _ sBits.toArray ((Blk.new w8 79 _).sub hb9 |>.sub hb10 |>.sub hb11 |>.alloc _ |>.alloc _ |>.sub hb12 |>.alloc _ |>.sub hb13) rfl (Nat.le_refl _) (by omega)
    · exact hrd _ _ _ sPiece.toArray ((Blk.new w11 79 _).alloc _ |>.sub hb12 |>.alloc _ |>.sub hb13) rfl (Nat.le_refl _) (by omega)
    · have hn := Blk.new (w11.alloc (.cells sPiece.toArray 79)) 79 fPort.toArray
      rw [World.size_alloc] at hn
      exact hrd _ _ _ fPort.toArray (hn.sub hb12 |>.alloc _ |>.sub hb13) rfl (Nat.le_refl _) (by omega)
    · exact hrd _ _ _ sExt.toArray ((Blk.new w12 79 _) |>.sub hb13) rfl (Nat.le_refl _) (by omega)
    · exact Rd.of_pre (Hh.out.1.farRow (by omega) _) Hh.out.2.1 rfl Hh.out.2.2 ⟨by omega, Hh.out.1.lt⟩
  · refine below_setRow ?_ (Nat.le_refl _) _
    have h13 := ((((((((Sub.tr (Sub.al (Below.refl _ w) _) hb1).tr hb2).al _ |>.tr hb3).tr hb4 |>.tr hb5).tr hb6 |>.al _).tr hb7 |>.al _).tr hb8 |>.al _).tr hb9 |>.tr hb10 |>.tr hb11 |>.al _ |>.al _ |>.tr hb12 |>.al _ |>.tr hb13)
    exact (h13.al _).grown Hg.out (by have := h13.size; simp; omega) (fun k hk => by cases hk)

end Go.Proofs.Ytcjmdkklbbollaa
