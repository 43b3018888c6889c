import Derived.Test.YtcjmdkklbbollaaG
import Derived.Deep.RegionHeld3
set_option linter.unusedSimpArgs false
set_option linter.unusedVariables false
namespace Go.Proofs.Ytcjmdkklbbollaa
open Go.RowKit

/-- A message. -/
structure M where
  kind : Int
  i1 : Int
  i2 : Int
  i3 : Int
  i4 : Int
  i5 : Int
  root : ByteArray
  data : ByteArray
  deriving DecidableEq
def M.cells (m : M) : Array Value := #[.int .i64 m.kind, .int .i64 m.i1, .int .i64 m.i2, .int .i64 m.i3, .int .i64 m.i4, .int .i64 m.i5, .string m.root, .string m.data]
def M.num (m : M) : Nat → Int | 1 => m.i1 | 2 => m.i2 | 3 => m.i3 | 4 => m.i4 | _ => m.i5
def M.text (m : M) : Nat → ByteArray | 6 => m.root | _ => m.data
def M.setNum (m : M) (off : Nat) (x : Int) : M := match off with | 1 => { m with i1 := x } | 2 => { m with i2 := x } | 3 => { m with i3 := x } | 4 => { m with i4 := x } | _ => { m with i5 := x }
def M.setText (m : M) (off : Nat) (x : ByteArray) : M := match off with | 6 => { m with root := x } | _ => { m with data := x }
def rightP (f : F) (m : M) : Bool := if f.off ≤ 5 then okNum f.lo f.hi (m.num f.off) else okText f.lo f.hi f.st (m.text f.off).size
def M.zero (m : M) (f : F) : M := if f.off ≤ 5 then m.setNum f.off 0 else m.setText f.off ⟨#[]⟩
def M.only (k : Int) : M := ⟨k, 0, 0, 0, 0, 0, ⟨#[]⟩, ⟨#[]⟩⟩
def validP (m : M) : Bool :=
  decide (1 ≤ m.kind) && decide (m.kind ≤ 20) && (fields m.kind.toNat).all (rightP · m) && decide ((fields m.kind.toNat).foldl M.zero m = M.only m.kind)

theorem bytes_eq (a b : ByteArray) : (a.toList == b.toList) = decide (a = b) := by
  rw [Bool.eq_iff_iff]
  simp only [beq_iff_eq, decide_eq_true_eq, ByteArray.toList_eq]
  exact ⟨fun h => ByteArray.ext (Array.toList_inj.mp h), fun h => by rw [h]⟩
theorem bytes_ne {a b : ByteArray} (h : ¬ a = b) : (a.toList == b.toList) = false := by rw [bytes_eq]; simp [h]

theorem eqg33 : Try.prog.eqGuardType Try.prog.depth 33 = false := by kernel_rfl
theorem msg_eql (a b : M) (w : World) : (binOp .eql 33 (.agg a.cells) (.agg b.cells)).run Try.prog w = .ok (.bool (decide (a = b))) w := by
  obtain ⟨ak, a1, a2, a3, a4, a5, ar, ad⟩ := a
  obtain ⟨bk, b1, b2, b3, b4, b5, br, bd⟩ := b
  by_cases h0 : ak = bk
  · subst h0
    by_cases h1 : a1 = b1
    · subst h1
      by_cases h2 : a2 = b2
      · subst h2
        by_cases h3 : a3 = b3
        · subst h3
          by_cases h4 : a4 = b4
          · subst h4
            by_cases h5 : a5 = b5
            · subst h5
              by_cases h6 : ar = br
              · subst h6
                by_cases h7 : ad = bd
                · subst h7; simp [M.cells, go_sem]
                · have := bytes_ne h7; simp [M.cells, go_sem, h7, this]
              · have := bytes_ne h6; simp [M.cells, go_sem, h6, this]
            · simp [M.cells, go_sem, h5]
          · simp [M.cells, go_sem, h4]
        · simp [M.cells, go_sem, h3]
      · simp [M.cells, go_sem, h2]
    · simp [M.cells, go_sem, h1]
  · simp [M.cells, go_sem, h0]
theorem msg_neq (a b : M) (w : World) : (binOp .neq 33 (.agg a.cells) (.agg b.cells)).run Try.prog w = .ok (.bool (!decide (a = b))) w := by
  have h := msg_eql a b w
  rw [run_eql_struct] at h
  rw [run_neq_struct]
  cases hx : (Op.equalIn 10000 33 (.agg a.cells) (.agg b.cells)).run Try.prog w with
  | ok x w' => rw [hx] at h; simp at h; simp [h]
  | halt x w' => rw [hx] at h; simp at h

theorem off_num {f : F} (h : f.Wf) (hf : f.off ≤ 5) : f.off = 1 ∨ f.off = 2 ∨ f.off = 3 ∨ f.off = 4 ∨ f.off = 5 := by
  rcases h.acc with ⟨_, e⟩ | ⟨_, e⟩ | ⟨_, e⟩ | ⟨_, e⟩ | ⟨_, e⟩ | ⟨_, e⟩ | ⟨_, e⟩ <;> omega
theorem off_text {f : F} (h : f.Wf) (hf : ¬ f.off ≤ 5) : f.off = 6 ∨ f.off = 7 := by
  rcases h.acc with ⟨_, e⟩ | ⟨_, e⟩ | ⟨_, e⟩ | ⟨_, e⟩ | ⟨_, e⟩ | ⟨_, e⟩ | ⟨_, e⟩ <;> omega
theorem cells_num (m : M) {f : F} (h : f.Wf) (hf : f.off ≤ 5) : m.cells[f.off]? = some (.int .i64 (m.num f.off)) := by
  rcases off_num h hf with e | e | e | e | e <;> rw [e] <;> rfl
theorem cells_text (m : M) {f : F} (h : f.Wf) (hf : ¬ f.off ≤ 5) : m.cells[f.off]? = some (.string (m.text f.off)) := by
  rcases off_text h hf with e | e <;> rw [e] <;> rfl
theorem set_num (m : M) {f : F} (h : f.Wf) (hf : f.off ≤ 5) (x : Int) : m.cells.setIfInBounds f.off (.int .i64 x) = (m.setNum f.off x).cells := by
  rcases off_num h hf with e | e | e | e | e <;> rw [e] <;> rfl
theorem set_text (m : M) {f : F} (h : f.Wf) (hf : ¬ f.off ≤ 5) (x : ByteArray) : m.cells.setIfInBounds f.off (.string x) = (m.setText f.off x).cells := by
  rcases off_text h hf with e | e <;> rw [e] <;> rfl

theorem fields_wf (k : Nat) : ∀ f ∈ fields k, f.Wf := by
  have h4 : ∀ k off, AccOf k off ∧ off ≤ 5 → (F4 k off).Wf := fun k off h => ⟨by simp [F4], by simp [F4], by simp [F4], h.1, fun hh => absurd h.2 hh⟩
  have hL : FLen.Wf := ⟨by simp [FLen], by simp [FLen], by simp [FLen], by simp [FLen, AccOf], by simp [FLen]⟩
  have hR : FRoot.Wf := ⟨by simp [FRoot], by simp [FRoot], by simp [FRoot], by simp [FRoot, AccOf], by simp [FRoot]⟩
  have hr : ∀ a b c, 0 < c → 0 ≤ a → (FRest a b c).Wf := fun a b c h h' => ⟨by simp [FRest], by simp [FRest], fun _ => ⟨h, h'⟩, by simp [FRest, AccOf], fun _ => h⟩
  have hAsk : ∀ f ∈ fsAsk, f.Wf := by
    intro f hf
    simp only [fsAsk, List.mem_cons, List.not_mem_nil, or_false] at hf
    rcases hf with rfl | rfl | rfl | rfl | rfl
    · exact hR
    all_goals exact h4 _ _ (by decide)
  have hB : ∀ f ∈ fsBlock, f.Wf := by
    intro f hf
    simp only [fsBlock, List.mem_cons, List.not_mem_nil, or_false] at hf
    rcases hf with rfl | rfl | rfl
    · exact h4 _ _ (by decide)
    · exact h4 _ _ (by decide)
    · exact hL
  have hO : ∀ f ∈ fsOne, f.Wf := by
    intro f hf
    simp only [fsOne, List.mem_cons, List.not_mem_nil, or_false] at hf
    subst hf
    exact h4 _ _ (by decide)
  intro f hf
  unfold fields at hf
  split at hf
  · exact hO f hf
  · exact hO f hf
  · exact hO f hf
  · simp only [fsBits, List.mem_cons, List.not_mem_nil, or_false] at hf; subst hf; exact hr _ _ _ (by decide) (by decide)
  · exact hB f hf
  · exact hB f hf
  · exact hB f hf
  · simp only [fsPiece, List.mem_cons, List.not_mem_nil, or_false] at hf
    rcases hf with rfl | rfl | rfl
    · exact h4 _ _ (by decide)
    · exact h4 _ _ (by decide)
    · exact hr _ _ _ (by decide) (by decide)
  · simp only [fsPort, List.mem_cons, List.not_mem_nil, or_false] at hf; subst hf; exact ⟨by simp, by simp, by simp, by simp [AccOf], by simp⟩
  · simp only [fsExt, List.mem_cons, List.not_mem_nil, or_false] at hf
    rcases hf with rfl | rfl
    · exact ⟨by simp, by simp, by simp, by simp [AccOf], by simp⟩
    · exact hr _ _ _ (by decide) (by decide)
  · exact hAsk f hf
  · exact hAsk f hf
  · simp only [fsHash, List.mem_append, List.mem_cons, List.not_mem_nil, or_false] at hf
    rcases hf with hf | rfl
    · exact hAsk f hf
    · exact hr _ _ _ (by decide) (by decide)
  · cases hf
theorem fields_len (k : Nat) : (fields k).length ≤ 6 := by
  unfold fields
  split <;> decide


/-- The values at a kind, its fields' slice taken apart. -/
theorem shapes_at' {lo : Nat} {w : World} {v : Value} (h : Shapes lo w v) (k : Nat) (hk : k ≤ 20) :
    ∃ A c, (∀ w' : World, (Instr.index 74 v (.int .i64 k)).run Try.prog w' = .ok (.agg #[.int .i64 (numb k), .slice A (fields k).length c]) w') ∧
      Hid (0 < (fields k).length → ∃ g o, A = some ⟨g, o, none⟩ ∧ (lo ≤ g ∧ g < w.heap.size) ∧ ∀ j u, (cellsOf (fields k))[j]? = some u → w.cell? ⟨g, o + j, none⟩ = some u) := by
  obtain ⟨sl, hix, A, n, c, rfl, hl, hn, hc⟩ := shapes_at h k hk
  rw [len_cellsOf] at hl
  obtain rfl : n = (fields k).length := by omega
  exact ⟨A, c, hix, hc⟩

theorem field_fields (x1 : Int) (A : Option Addr) (n c : Nat) (w : World) : (Instr.field 73 (.agg #[.int .i64 x1, .slice A n c]) 1).run Try.prog w = .ok (.slice A n c) w := by kernel_rfl

theorem all_false {fs : List F} {j : Nat} {f : F} {m : M} (h : fs[j]? = some f) (hr : rightP f m = false) : fs.all (rightP · m) = false := by
  rw [List.all_eq_false]
  exact ⟨f, List.mem_of_getElem? h, by simp [hr]⟩
theorem take_snoc' {fs : List F} {j : Nat} {f : F} (h : fs[j]? = some f) : fs.take (j + 1) = fs.take j ++ [f] := by
  rw [List.take_add_one, h]; rfl
theorem all_snoc {fs : List F} {j : Nat} {f : F} {m : M} (h : fs[j]? = some f) (ha : (fs.take j).all (rightP · m) = true) (hr : rightP f m = true) : (fs.take (j + 1)).all (rightP · m) = true := by
  rw [take_snoc' h, List.all_append, ha]; simp [hr]
theorem fold_snoc {fs : List F} {j : Nat} {f : F} {m : M} (h : fs[j]? = some f) : (fs.take (j + 1)).foldl M.zero m = M.zero ((fs.take j).foldl M.zero m) f := by
  rw [take_snoc' h, List.foldl_append]; rfl

def validEq (a b : M) : Bool := a.kind == b.kind && (a.i1 == b.i1 && (a.i2 == b.i2 && (a.i3 == b.i3 && (a.i4 == b.i4 && (a.i5 == b.i5 && (a.root.toList == b.root.toList && a.data.toList == b.data.toList))))))

set_option maxRecDepth 20000 in
set_option maxHeartbeats 2000000 in
theorem valid_p (m : M) (w : World) : Calls Try.prog 22 #[.agg m.cells] w fun e w' => e = .returned (.bool (validP m)) ∧ Sub w w' := by
  by_cases hk : 1 ≤ m.kind ∧ m.kind ≤ 20
  · obtain ⟨kind, i1, i2, i3, i4, i5, root, data⟩ := m
    obtain ⟨hk1, hk2⟩ := hk
    simp only at hk1 hk2
    obtain ⟨k, rfl⟩ := Int.eq_ofNat_of_zero_le (by omega : 0 ≤ kind)
    unfold M.cells
    simp only
    go_enter Try.func22, Try.ntmps22
    go_wp2_with fail
    have hB1 := (Blk.new w 33 #[.int .i64 k, .int .i64 i1, .int .i64 i2, .int .i64 i3, .int .i64 i4, .int .i64 i5, .string root, .string data]).alloc (.cells #[.int .i64 k, .int .i64 i1, .int .i64 i2, .int .i64 i3, .int .i64 i4, .int .i64 i5, .string root, .string data] 33)
    have hB3 := Blk.new (w.alloc (.cells #[.int .i64 k, .int .i64 i1, .int .i64 i2, .int .i64 i3, .int .i64 i4, .int .i64 i5, .string root, .string data] 33)) 33 #[.int .i64 k, .int .i64 i1, .int .i64 i2, .int .i64 i3, .int .i64 i4, .int .i64 i5, .string root, .string data]
    rw [World.size_alloc] at hB3
    have hsub0 : Sub w ((w.alloc (.cells #[.int .i64 k, .int .i64 i1, .int .i64 i2, .int .i64 i3, .int .i64 i4, .int .i64 i5, .string root, .string data] 33)).alloc (.cells #[.int .i64 k, .int .i64 i1, .int .i64 i2, .int .i64 i3, .int .i64 i4, .int .i64 i5, .string root, .string data] 33)) := Sub.al (Sub.al Sub.rfl' _) _
    generalize (w.alloc (.cells #[.int .i64 k, .int .i64 i1, .int .i64 i2, .int .i64 i3, .int .i64 i4, .int .i64 i5, .string root, .string data] 33)).alloc (.cells #[.int .i64 k, .int .i64 i1, .int .i64 i2, .int .i64 i3, .int .i64 i4, .int .i64 i5, .string root, .string data] 33) = W0 at hB1 hB3 hsub0 ⊢
    have hc0 : W0.cell? ⟨w.heap.size, 0, none⟩ = some (.int .i64 (k : Int)) := by rw [hB1.cell]; rfl
    have hlt := hB1.lt
    have hfl := field_fields
    have H1 := Lib.hid hB1; clear hB1
    have H3 := Lib.hid hB3; clear hB3
    have H0 := Lib.hid hsub0; clear hsub0
    go_region_held3 (fun w' => w'.cell? ⟨w.heap.size, 0, none⟩ = some (.int .i64 (k : Int))) (first | exact hc0 | exact (hb.cells.1 _ _ hlt).trans hc0) (first | (go_at_call 46; refine (shapes_p _).mono ?_; rintro e w1 ⟨v, rfl, hs, hb⟩; obtain ⟨A, c, hix, Hc⟩ := shapes_at' hs k (by omega)))
    have hb := hb.undrew
    have hG1 := H1.out.sub hb
    have hG3 := H3.out.sub hb
    have hS := H0.out.tr hb
    have hz2 : w.heap.size + 2 ≤ W0.heap.size := H3.out.lt
    have hix := True.intro
    clear hs
    have hw := fields_wf k
    have hlen := fields_len k
    have hval : ∀ m : M, m.kind = k → validP m = ((fields k).all (rightP · m) && decide ((fields k).foldl M.zero m = M.only k)) := by
      intro m hm
      simp only [validP, hm, Int.toNat_natCast]
      simp [hk1, hk2]
    have hv := hval ⟨k, i1, i2, i3, i4, i5, root, data⟩ rfl
    clear hval
    generalize fields k = fs at *
    obtain ⟨m, hm⟩ : ∃ m : M, m = ⟨k, i1, i2, i3, i4, i5, root, data⟩ := ⟨_, rfl⟩
    have hmk : m.kind = k := by rw [hm]
    have hc : #[.int .i64 (k : Int), .int .i64 i1, .int .i64 i2, .int .i64 i3, .int .i64 i4, .int .i64 i5, .string root, .string data] = m.cells := by rw [hm]; rfl
    rw [← hm] at hv
    rw [hc] at hG1 hG3
    have HV := Lib.hid (And.intro hv (And.intro hmk hm)); clear hv hmk hm hc
    have Hw := Lib.hid hw; clear hw
    have HG1 := Lib.hid hG1; clear hG1
    have HG3 := Lib.hid hG3; clear hG3
    have HS := Lib.hid hS; clear hS
    have Hb := Lib.hid hb; clear hb
    have hc0 := True.intro
    go_wp2_with fail
    go_loopw [21] (fun i wr => ∃ j : Nat, j ≤ fs.length ∧ i = .int .i64 j ∧ (fs.take j).all (rightP · m) = true ∧ Blk wr w.heap.size 33 m.cells ∧ Blk wr (w.heap.size + 1) 33 ((fs.take j).foldl M.zero m).cells ∧ w1.grownBy wr (some (w.heap.size + 1))) (fun i _ => fs.length - (intOf i).toNat)
    case atStart => exact ⟨0, Nat.zero_le _, rfl, rfl, HG1.out, HG3.out, grown_rfl _ _⟩
    case round =>
      obtain ⟨j, hj, rfl, hall, hr1, hr3, hgr⟩ := hrel
      have Hall := Lib.hid hall; clear hall
      have HR1 := Lib.hid hr1; clear hr1
      have HR3 := Lib.hid hr3; clear hr3
      have Hgr := Lib.hid hgr; clear hgr
      by_cases hltj : j < fs.length
      · obtain ⟨g, o, rfl, hg, hc⟩ := Hc.out (by omega)
        obtain ⟨f, hf⟩ : ∃ f, fs[j]? = some f := ⟨_, List.getElem?_eq_getElem hltj⟩
        have hwf := Hw.out f (List.mem_of_getElem? hf)
        obtain ⟨v1, v2, hv, c0, c1, c2, c3, c4, c5⟩ := six' hc hf
        clear hc
        have hs := grown_cell Hgr.out g
        have hdr : W0.drew.heap.size = W0.heap.size := rfl
        have hgne : g ≠ w.heap.size + 1 := by omega
        rw [← hs _ hg.2 hgne] at c0 c1 c2 c3 c4 c5
        clear hdr
        clear hs
        have Hf := Lib.hid hf; clear hf
        have hlr := HR3.out.lt
        rcases hv with ⟨hoff, rfl, rfl⟩ | ⟨hoff, rfl, rfl⟩
        · have hcell : wr.cell? ⟨w.heap.size, f.off, none⟩ = some (.int .i64 (m.num f.off)) := by rw [HR1.out.cell]; exact cells_num m hwf hoff
          have hcell3 : wr.cell? ⟨w.heap.size + 1, f.off, none⟩ = some (.int .i64 (((fs.take j).foldl M.zero m).num f.off)) := by rw [HR3.out.cell]; exact cells_num _ hwf hoff
          have hfr3 := HR3.out.frozen f.off
          have hacc := acc_p f.k f.off hwf.acc
          have hen := acc_enters f.k f.off hwf.acc
          have Hacc := Lib.hid hacc; clear hacc
          have hfne := fn_ne 76 (by decide)
          have Hwf := Lib.hid hwf; clear hwf
          go_wp2_with fail
          refine (right_num f.k f.off Hwf.out.acc _ _ _ _ _ _ _ ((World.cell?_alloc_past _ _ _ (by omega)).trans hcell) (by simp; omega)).mono ?_
          rintro e w2 ⟨rfl, hb2⟩
          have hB5 := (Blk.new wr 79 #[.int .i64 f.size, .func (.func f.k) #[] #[], .nilFunc, .int .i64 f.lo, .int .i64 f.hi, .int .i64 f.st]).sub hb2
          have hB3 := (HR3.out.alloc (.cells #[.int .i64 f.size, .func (.func f.k) #[] #[], .nilFunc, .int .i64 f.lo, .int .i64 f.hi, .int .i64 f.st] 79)).sub hb2
          have hB1 := (HR1.out.alloc (.cells #[.int .i64 f.size, .func (.func f.k) #[] #[], .nilFunc, .int .i64 f.lo, .int .i64 f.hi, .int .i64 f.st] 79)).sub hb2
          have hgr2 := grown_sub (grown_al Hgr.out (.cells #[.int .i64 f.size, .func (.func f.k) #[] #[], .nilFunc, .int .i64 f.lo, .int .i64 f.hi, .int .i64 f.st] 79)) hb2
          clear c0 c1 c2 c3 c4 c5 hcell hcell3 hfr3 hb2
          have d1 : w2.cell? ⟨wr.heap.size, 1, none⟩ = some (.func (.func f.k) #[] #[]) := by rw [hB5.cell]; rfl
          have d3 : w2.cell? ⟨w.heap.size + 1, f.off, none⟩ = some (.int .i64 (((fs.take j).foldl M.zero m).num f.off)) := by rw [hB3.cell]; exact cells_num _ Hwf.out hoff
          have df := hB3.frozen f.off
          have hset := hB3.set_ f.off (.int .i64 0)
          rw [set_num _ Hwf.out hoff] at hset
          have HB := Lib.hid (And.intro hset (And.intro (hB1.far (p := ⟨w.heap.size + 1, f.off, none⟩) (by simp) (.int .i64 0)) (grown_set hgr2 f.off (.int .i64 0))))
          have HBx := Lib.hid (And.intro hB1 hgr2)
          clear hB5 hB3 hB1 hgr2 hset
          have hrp : rightP f m = okNum f.lo f.hi (m.num f.off) := by simp [rightP, hoff]
          have hz : M.zero ((fs.take j).foldl M.zero m) f = ((fs.take j).foldl M.zero m).setNum f.off 0 := by simp [M.zero, hoff]
          have Hz := Lib.hid hz; clear hz
          cases hr : okNum f.lo f.hi (m.num f.off)
          · rw [hr] at hrp
            have Hrp := Lib.hid hrp; clear hrp hr
            go_wp2_with fail
            go_ret
            refine ⟨?_, sub_grown HS.out HBx.out.2 (by omega)⟩
            rw [← HV.out.2.2, HV.out.1, all_false Hf.out Hrp.out]; rfl
          · rw [hr] at hrp
            have Hrp := Lib.hid hrp; clear hrp hr
            go_wp2_with ((with_reducible refine (Hacc.out _ _).mono ?_); rintro e w' ⟨rfl, rfl⟩)
            go_roundw
            case rel => exact ⟨j + 1, by omega, by go_num, all_snoc Hf.out Hall.out Hrp.out, HB.out.2.1, by rw [fold_snoc Hf.out, Hz.out]; exact HB.out.1, HB.out.2.2⟩
            case measure => simp [intOf]; omega
        · have hcell : wr.cell? ⟨w.heap.size, f.off, none⟩ = some (.string (m.text f.off)) := by rw [HR1.out.cell]; exact cells_text m hwf hoff
          have hcell3 : wr.cell? ⟨w.heap.size + 1, f.off, none⟩ = some (.string (((fs.take j).foldl M.zero m).text f.off)) := by rw [HR3.out.cell]; exact cells_text _ hwf hoff
          have hfr3 := HR3.out.frozen f.off
          have hacc := acc_p f.k f.off hwf.acc
          have hen := acc_enters f.k f.off hwf.acc
          have Hacc := Lib.hid hacc; clear hacc
          have hfne := nil_ne
          have Hwf := Lib.hid hwf; clear hwf
          have hst0 : 0 < f.st := Hwf.out.txt hoff
          go_wp2_with fail
          refine (right_text f.k f.off Hwf.out.acc _ _ _ _ _ _ _ ((World.cell?_alloc_past _ _ _ (by omega)).trans hcell) (by simp; omega) (hst0)).mono ?_
          rintro e w2 ⟨rfl, hb2⟩
          have hB5 := (Blk.new wr 79 #[.int .i64 f.size, .nilFunc, .func (.func f.k) #[] #[], .int .i64 f.lo, .int .i64 f.hi, .int .i64 f.st]).sub hb2
          have hB3 := (HR3.out.alloc (.cells #[.int .i64 f.size, .nilFunc, .func (.func f.k) #[] #[], .int .i64 f.lo, .int .i64 f.hi, .int .i64 f.st] 79)).sub hb2
          have hB1 := (HR1.out.alloc (.cells #[.int .i64 f.size, .nilFunc, .func (.func f.k) #[] #[], .int .i64 f.lo, .int .i64 f.hi, .int .i64 f.st] 79)).sub hb2
          have hgr2 := grown_sub (grown_al Hgr.out (.cells #[.int .i64 f.size, .nilFunc, .func (.func f.k) #[] #[], .int .i64 f.lo, .int .i64 f.hi, .int .i64 f.st] 79)) hb2
          clear c0 c1 c2 c3 c4 c5 hcell hcell3 hfr3 hb2
          have d1 : w2.cell? ⟨wr.heap.size, 2, none⟩ = some (.func (.func f.k) #[] #[]) := by rw [hB5.cell]; rfl
          have d1b : w2.cell? ⟨wr.heap.size, 1, none⟩ = some .nilFunc := by rw [hB5.cell]; rfl
          have d3 : w2.cell? ⟨w.heap.size + 1, f.off, none⟩ = some (.string (((fs.take j).foldl M.zero m).text f.off)) := by rw [hB3.cell]; exact cells_text _ Hwf.out hoff
          have df := hB3.frozen f.off
          have hset := hB3.set_ f.off (.string ⟨#[]⟩)
          rw [set_text _ Hwf.out hoff] at hset
          have HB := Lib.hid (And.intro hset (And.intro (hB1.far (p := ⟨w.heap.size + 1, f.off, none⟩) (by simp) (.string ⟨#[]⟩)) (grown_set hgr2 f.off (.string ⟨#[]⟩))))
          have HBx := Lib.hid (And.intro hB1 hgr2)
          clear hB5 hB3 hB1 hgr2 hset
          have hrp : rightP f m = okText f.lo f.hi f.st (m.text f.off).size := by simp [rightP, hoff]
          have hz : M.zero ((fs.take j).foldl M.zero m) f = ((fs.take j).foldl M.zero m).setText f.off ⟨#[]⟩ := by simp [M.zero, hoff]
          have Hz := Lib.hid hz; clear hz
          cases hr : okText f.lo f.hi f.st (m.text f.off).size
          · rw [hr] at hrp
            have Hrp := Lib.hid hrp; clear hrp hr
            go_wp2_with fail
            go_ret
            refine ⟨?_, sub_grown HS.out HBx.out.2 (by omega)⟩
            rw [← HV.out.2.2, HV.out.1, all_false Hf.out Hrp.out]; rfl
          · rw [hr] at hrp
            have Hrp := Lib.hid hrp; clear hrp hr
            go_wp2_with ((with_reducible refine (Hacc.out _ _).mono ?_); rintro e w' ⟨rfl, rfl⟩)
            go_roundw
            case rel => exact ⟨j + 1, by omega, by go_num, all_snoc Hf.out Hall.out Hrp.out, HB.out.2.1, by rw [fold_snoc Hf.out, Hz.out]; exact HB.out.1, HB.out.2.2⟩
            case measure => simp [intOf]; omega
      · obtain rfl : j = fs.length := by omega
        have hfin : validP m = decide (fs.foldl M.zero m = M.only k) := by
          have h := Hall.out
          rw [List.take_length] at h
          rw [HV.out.1, h]; rfl
        have hb3 := HR3.out
        rw [List.take_length] at hb3
        have hck : wr.cell? ⟨w.heap.size, 0, none⟩ = some (.int .i64 (k : Int)) := by rw [HR1.out.cell, ← HV.out.2.1]; rfl
        have hltr := hb3.lt
        generalize fs.foldl M.zero m = p at hfin hb3
        have Hfin := Lib.hid hfin; clear hfin
        obtain ⟨pk, p1, p2, p3, p4, p5, pr, pd⟩ := p
        have e0 : wr.cell? ⟨w.heap.size + 1, 0, none⟩ = some (.int .i64 pk) := by rw [hb3.cell]; rfl
        have e1 : wr.cell? ⟨w.heap.size + 1, 1, none⟩ = some (.int .i64 p1) := by rw [hb3.cell]; rfl
        have e2 : wr.cell? ⟨w.heap.size + 1, 2, none⟩ = some (.int .i64 p2) := by rw [hb3.cell]; rfl
        have e3 : wr.cell? ⟨w.heap.size + 1, 3, none⟩ = some (.int .i64 p3) := by rw [hb3.cell]; rfl
        have e4 : wr.cell? ⟨w.heap.size + 1, 4, none⟩ = some (.int .i64 p4) := by rw [hb3.cell]; rfl
        have e5 : wr.cell? ⟨w.heap.size + 1, 5, none⟩ = some (.int .i64 p5) := by rw [hb3.cell]; rfl
        have e6 : wr.cell? ⟨w.heap.size + 1, 6, none⟩ = some (.string pr) := by rw [hb3.cell]; rfl
        have e7 : wr.cell? ⟨w.heap.size + 1, 7, none⟩ = some (.string pd) := by rw [hb3.cell]; rfl
        clear hb3
        generalize hdd : decide ((⟨pk, p1, p2, p3, p4, p5, pr, pd⟩ : M) = ⟨k, 0, 0, 0, 0, 0, ⟨#[]⟩, ⟨#[]⟩⟩) = dd
        have Hdd := Lib.hid hdd; clear hdd
        go_wp2_with (refine wpList_eq_agg rfl .eql 33 (.tmp 40) (.tmp 43) 33 rfl _ _ rfl rfl eqg33 dd (by rw [← Hdd.out]; exact msg_eql ⟨pk, p1, p2, p3, p4, p5, pr, pd⟩ (M.only k) _) ?_)
        go_ret
        refine ⟨?_, sub_grown HS.out Hgr.out (by omega)⟩
        rw [← HV.out.2.2, Hfin.out]
        exact congrArg (fun b => Ending.returned (.bool b)) Hdd.out.symm
  · have hv : validP m = false := by
      simp only [validP]
      by_cases h1 : 1 ≤ m.kind
      · have h2 : ¬ m.kind ≤ 20 := fun h => hk ⟨h1, h⟩
        simp [h2]
      · simp [h1]
    rw [hv]
    obtain ⟨kind, i1, i2, i3, i4, i5, root, data⟩ := m
    simp only at hk
    unfold M.cells
    simp only
    have hcs : kind < 1 ∨ (¬ kind < 1 ∧ 20 < kind) := by omega
    clear hv
    rcases hcs with h1 | ⟨h1, h2⟩
    all_goals
      go_enter Try.func22, Try.ntmps22
      go_wp2_with fail
      go_ret
      exact ⟨rfl, Sub.al Sub.rfl' _⟩
end Go.Proofs.Ytcjmdkklbbollaa
