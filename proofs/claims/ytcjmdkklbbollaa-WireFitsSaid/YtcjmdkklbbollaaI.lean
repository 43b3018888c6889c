import Derived.Test.YtcjmdkklbbollaaH
import Derived.Lib.AppendStr
import Derived.Deep.DeepCutAuto
import Derived.Maps.AppendAt
set_option linter.unusedSimpArgs false
set_option linter.unusedVariables false
namespace Go.Proofs.Ytcjmdkklbbollaa
open Go.RowKit

def byteCells (l : List UInt8) : List Value := l.map fun b => Value.int .u8 b.toNat
theorem strCells_eq (s : ByteArray) : Lib.strCells s = byteCells s.data.toList := rfl
theorem byteCells_append (a b : List UInt8) : byteCells (a ++ b) = byteCells a ++ byteCells b := List.map_append
theorem byteCells_length (a : List UInt8) : (byteCells a).length = a.length := List.length_map _
theorem byteCells_one {l : List UInt8} : ∀ u ∈ byteCells l, u.oneCell' = true := by
  intro u hu
  obtain ⟨b, _, rfl⟩ := List.mem_map.1 hu
  rfl

def beByte (n : Int) (k : Nat) : UInt8 := UInt8.ofNat ((n.toNat / 2 ^ (8 * k)) % 256)
/-- The bytes of a number, the highest first. -/
def be (size : Nat) (n : Int) : List UInt8 := (List.range size).map fun i => beByte n (size - 1 - i)
def encF (f : F) (m : M) : List UInt8 := if f.off ≤ 5 then be f.size.toNat (m.num f.off) else (m.text f.off).data.toList
def encBody (m : M) : List UInt8 := UInt8.ofNat (numb m.kind.toNat).toNat :: (fields m.kind.toNat).flatMap (encF · m)
def encP (m : M) : List UInt8 :=
  if m.kind = 1 then [0, 0, 0, 0] else [0, 0, UInt8.ofNat ((encBody m).length / 256 % 256), UInt8.ofNat ((encBody m).length % 256)] ++ encBody m

/-- What the numbers and texts of a form are, in numbers: checked for each kind. -/
def F.ok (f : F) : Bool := if f.off ≤ 5 then (f.size == 1 || f.size == 2 || f.size == 4) && f.lo ≥ 0 && f.hi ≤ 4294967295 else f.lo ≥ 0 && f.hi ≤ 4096
theorem fields_ok (k : Nat) (f : F) (h : f ∈ fields k) : f.ok = true := by
  have : (fields k).all F.ok = true := by
    by_cases hk : k < 21
    · exact (by decide : ∀ k : Fin 21, (fields k).all F.ok = true) ⟨k, hk⟩
    · have e : fields k = [] := by
        unfold fields
        split <;> first | omega | rfl
      rw [e]; rfl
  exact (List.all_eq_true.1 this) f h
theorem numb_range (k : Nat) : 0 ≤ numb k ∧ numb k ≤ 23 := by
  unfold numb
  split <;> exact ⟨by decide, by decide⟩
theorem info5 : (Try.prog.info? 5).map (fun i => (i.zero, i.size, i.bytes)) = some (some (.int .u8 0), 1, 1) := by kernel_rfl
theorem beByte_int {n : Int} (h : 0 ≤ n) (k : Nat) : ((beByte n k).toNat : Int) = n / 2 ^ (8 * k) % 256 := by
  obtain ⟨x, rfl⟩ := Int.eq_ofNat_of_zero_le h
  have e : (beByte x k).toNat = x / 2 ^ (8 * k) % 256 := by
    unfold beByte
    rw [Int.toNat_natCast, UInt8.toNat_ofNat']
    exact Nat.mod_mod _ _
  rw [e]; simp
theorem be_take {sz q : Nat} {n : Int} (h : q < sz) : (be sz n).take (q + 1) = (be sz n).take q ++ [beByte n (sz - 1 - q)] := by
  have hl : q < (be sz n).length := by simpa [be] using h
  rw [List.take_succ_eq_append_getElem hl]
  simp [be]
theorem byteCells_be {n : Int} (h : 0 ≤ n) {k : Nat} : byteCells [beByte n k] = [.int .u8 (n / 2 ^ (8 * k) % 256)] := by
  simp [byteCells, beByte_int h]

/-- What is written behind j fields. -/
def outTo (nk : Int) (m : M) (fs : List F) (j : Nat) : List UInt8 := [0, 0, 0, 0, UInt8.ofNat nk.toNat] ++ (fs.take j).flatMap (encF · m)
theorem outTo_step {nk : Int} {fs : List F} {j : Nat} {f : F} {m : M} (h : fs[j]? = some f) : outTo nk m fs (j + 1) = outTo nk m fs j ++ encF f m := by
  simp only [outTo, take_snoc' h, List.flatMap_append, List.flatMap_cons, List.flatMap_nil, List.append_nil, List.append_assoc]
/-- The bytes that were written so far: an own row; nothing else has turned since wc. -/
def OutIs (wc wr : World) (v : Value) (l : List UInt8) : Prop := wr.ownsRow wc.heap.size 5 1 v l.length (byteCells l) ∧ Sub wc wr
theorem encF_text {f : F} {m : M} (h : ¬ f.off ≤ 5) : encF f m = (m.text f.off).data.toList := if_neg h
theorem encF_num {f : F} {m : M} (h : f.off ≤ 5) : encF f m = be f.size.toNat (m.num f.off) := if_pos h
set_option maxRecDepth 20000 in
set_option maxHeartbeats 2000000 in
theorem encode_p (m : M) (hv : validP m = true) (hk1 : ¬ m.kind = 1) (w : World) :
    Calls Try.prog 18 #[.agg m.cells] w fun e w' => e = .returned (.tuple #[.string ⟨(encP m).toArray⟩, .int .i64 0]) ∧ Sub w w' := by
  have hk : 1 ≤ m.kind ∧ m.kind ≤ 20 := by
    simp only [validP, Bool.and_eq_true, decide_eq_true_eq] at hv
    exact hv.1.1
  obtain ⟨kind, i1, i2, i3, i4, i5, root, data⟩ := m
  simp only at hk hk1
  obtain ⟨k, rfl⟩ := Int.eq_ofNat_of_zero_le (by omega : 0 ≤ kind)
  obtain ⟨m, hm⟩ : ∃ m : M, m = ⟨k, i1, i2, i3, i4, i5, root, data⟩ := ⟨_, rfl⟩
  have hvc := valid_p m w
  rw [← hm] at hv ⊢
  have Hm := Lib.hid hm
  have Hv := Lib.hid hv; clear hv
  have hk1' : ((k : Int) == 1) = false := by simpa using hk1
  have hmc : m.cells = #[.int .i64 (k : Int), .int .i64 i1, .int .i64 i2, .int .i64 i3, .int .i64 i4, .int .i64 i5, .string root, .string data] := by rw [hm]; rfl
  have Hmc := Lib.hid hmc
  rw [hmc]
  clear hmc hm hvc
  go_enter Try.func18, Try.ntmps18
  go_wp2_with fail
  rw [← Hmc.out]
  refine (valid_p m _).mono ?_
  rintro e w1 ⟨rfl, hb1⟩
  rw [Hv.out]
  have hB1 := (Blk.new w 33 m.cells).sub hb1
  have hc0 : w1.cell? ⟨w.heap.size, 0, none⟩ = some (.int .i64 (k : Int)) := by rw [hB1.cell, Hmc.out]; rfl
  have H1 := Lib.hid hB1; clear hB1
  have Hb1 := Lib.hid hb1; clear hb1
  go_wp2_with fail
  have hlt := H1.out.lt
  have Hbx := Lib.hid Hb1.out
  have hca : ∀ o, (w1.alloc o).drew.cell? ⟨w.heap.size, 0, none⟩ = some (.int .i64 (k : Int)) := fun o => (World.cell?_alloc_past o _ _ hlt).trans hc0
  go_cut [4] (fun s4 wx => ∃ (g4 : Nat) (A : Option Addr) (c : Nat), s4 = .pointer (some ⟨g4, 0, none⟩) ∧ Blk wx g4 73 #[.int .i64 (numb k), .slice A (fields k).length c] ∧ Sub w1 wx ∧
      Hid (0 < (fields k).length → ∃ g o, A = some ⟨g, o, none⟩ ∧ (g < wx.heap.size) ∧ ∀ j u, (cellsOf (fields k))[j]? = some u → wx.cell? ⟨g, o + j, none⟩ = some u))
  case first =>
    go_region_held3 (fun w' => w'.cell? ⟨w.heap.size, 0, none⟩ = some (.int .i64 (k : Int)) ∧ w.heap.size < w'.heap.size)
      (first | exact ⟨hc0, hlt⟩ | exact ⟨(hb.cells.1 _ _ hlt).trans hc0, Nat.lt_of_lt_of_le hlt hb.size⟩ | exact ⟨(World.cell?_alloc_past _ _ _ hlt).trans hc0, by simp; omega⟩ | (refine ⟨(World.cell?_alloc_past _ _ _ ?_).trans ((hb.cells.1 _ _ hlt).trans hc0), ?_⟩ <;> (have := hb.size; simp at this ⊢; omega)) | (refine ⟨(hb.cells.1 _ _ ?_).trans (hca _), ?_⟩ <;> (have := hb.size; simp at this ⊢; omega)) | (have h1 := (hb.cells.1 w.heap.size 0 (by simp; omega)).trans (hca _); have h2 := hb.size; simp at h2; simp [go_sem, h1, Nat.ne_of_lt hlt]; omega))
      (first | (go_at_call 46; refine (shapes_p _).mono ?_; rintro e w2 ⟨v, rfl, hs, hb⟩; obtain ⟨A, c, hix, Hc⟩ := shapes_at' hs k (by omega); obtain ⟨hcc, hff⟩ := hb.cells; have hzz := hb.size; try simp only [World.size_alloc] at hzz))
    all_goals
      go_wp2_with fail
      go_meet
    all_goals first
      | (have hs1 : Sub w1 w2 := hb.undrew
         refine ⟨_, A, c, rfl, Blk.new _ _ _, hs1.al _, fun hp => ?_⟩
         obtain ⟨g, o, e, hg, hc⟩ := Hc.out hp
         exact ⟨g, o, e, by simp; omega, fun j u hu => (World.cell?_alloc_past _ _ _ hg.2).trans (hc j u hu)⟩)
      | (have hs1 : Sub (w1.alloc (.cells #[.int .i64 0, .slice none 0 0] 73)) w2 := hb.undrew
         have hblk := ((Blk.new w1 73 #[.int .i64 0, .slice none 0 0]).sub hs1).set_ 0 (.int .i64 (numb k)) |>.set_ 1 (.slice A (fields k).length c)
         refine ⟨_, A, c, rfl, hblk, ?_, fun hp => ?_⟩
         · exact (((Sub.al Sub.rfl' _).tr hs1).setCell (p := ⟨w1.heap.size, 0, none⟩) (Nat.le_refl _) _).setCell (p := ⟨w1.heap.size, 1, none⟩) (Nat.le_refl _) _
         · obtain ⟨g, o, e, hg, hc⟩ := Hc.out hp
           have hl : w1.heap.size + 1 < g := by have := hg.1; simp at this; omega
           exact ⟨g, o, e, by simp; omega, fun j u hu => (World.cell?_setCell_other _ _ _ _ (by simp <;> omega)).trans ((World.cell?_setCell_other _ _ _ _ (by simp <;> omega)).trans (hc j u hu))⟩)
  case rest =>
  obtain ⟨g4, A, c, rfl, hG4, hb, Hc⟩ := hcut
  clear hca
  have hG1 := H1.out.sub hb
  have hS := (Sub.al Sub.rfl' (.cells m.cells 33)).tr (Hb1.out.tr hb)
  clear hc0
  have hw := fields_wf k
  have hok := fields_ok k
  have hlen := fields_len k
  have hfin : encP m = [0, 0, UInt8.ofNat ((encBody m).length / 256 % 256), UInt8.ofNat ((encBody m).length % 256)] ++ encBody m := by rw [encP, if_neg (by rw [Hm.out]; exact hk1)]
  have hbody : encBody m = UInt8.ofNat (numb k).toNat :: (fields k).flatMap (encF · m) := by rw [encBody, Hm.out]; rfl
  have hright : (fields k).all (rightP · m) = true := by
    have h := Hv.out
    simp only [validP, Bool.and_eq_true] at h
    have e : m.kind.toNat = k := by rw [Hm.out]; rfl
    rw [e] at h
    exact h.1.2
  have hnum := numb_range k
  generalize hfs : fields k = fs at *
  generalize hnk : numb k = nk at *
  clear hfs hnk
  have Hfin := Lib.hid hfin; clear hfin
  have Hbody := Lib.hid hbody; clear hbody
  have Hright := Lib.hid hright; clear hright
  have Hw := Lib.hid hw; clear hw
  have Hok := Lib.hid hok; clear hok
  have HG1 := Lib.hid hG1; clear hG1
  have hG4c : wc.cell? ⟨g4, 0, none⟩ = some (.int .i64 nk) ∧ wc.cell? ⟨g4, 1, none⟩ = some (.slice A fs.length c) := ⟨by rw [hG4.cell]; rfl, by rw [hG4.cell]; rfl⟩
  obtain ⟨hg40, hg41⟩ := hG4c
  have hg4lt := hG4.lt
  clear hG4
  have HS := Lib.hid hS; clear hS
  have Hb := Lib.hid hb; clear hb
  obtain ⟨i5', hi5, hz0, hz1, hz2⟩ := info_parts info5
  go_wp2_with fail
  go_loopw [5, 27] (fun t i wr => ∃ j : Nat, j ≤ fs.length ∧ i = .int .i64 j ∧ OutIs wc wr t (outTo nk m fs j) ∧ (outTo nk m fs j).length ≤ 5 + 4096 * j) (fun _ i _ => fs.length - (intOf i).toNat)
  case atStart =>
    refine ⟨0, Nat.zero_le _, rfl, ⟨⟨rfl, .inr ⟨wc.heap.size, 5, _, rfl, Nat.le_refl _, Blk.new _ _ _, Nat.le_refl _, by decide, rfl, ?_⟩⟩, Sub.al Sub.rfl' _⟩, by simp [outTo]⟩
    simp [byteCells, outTo]
    omega
  case round =>
    obtain ⟨j, hj, rfl, hout, hlj⟩ := hrel
    have Hout := Lib.hid hout; clear hout
    by_cases hltj : j < fs.length
    · obtain ⟨g, o, rfl, hg, hc⟩ := Hc.out (by omega)
      obtain ⟨f, hf⟩ : ∃ f, fs[j]? = some f := ⟨_, List.getElem?_eq_getElem hltj⟩
      have hwf := Hw.out f (List.mem_of_getElem? hf)
      obtain ⟨v1, v2, hv, c0, c1, c2, c3, c4, c5⟩ := six' hc hf
      clear hc
      have hs := Hout.out.2.cells.1
      rw [← hs _ _ hg] at c0 c1 c2 c3 c4 c5
      have hR1 := HG1.out.sub Hout.out.2
      have hltR := hR1.lt
      clear hs
      have Hf := Lib.hid hf; clear hf
      have hen := acc_enters f.k f.off hwf.acc
      have Hacc := Lib.hid (acc_p f.k f.off hwf.acc)
      rcases hv with ⟨hoff, rfl, rfl⟩ | ⟨hoff, rfl, rfl⟩
      · have hcell : wr.cell? ⟨w.heap.size, f.off, none⟩ = some (.int .i64 (m.num f.off)) := by rw [hR1.cell]; exact cells_num m hwf hoff
        have hfne := fn_eq 76 (by decide)
        have Hwf := Lib.hid hwf; clear hwf hR1
        have hsz : (f.size = 1 ∨ f.size = 2 ∨ f.size = 4) ∧ 0 ≤ m.num f.off ∧ m.num f.off ≤ 4294967295 := by
          have h1 := (List.all_eq_true.1 Hright.out) f (List.mem_of_getElem? Hf.out)
          have h2 := Hok.out f (List.mem_of_getElem? Hf.out)
          simp [rightP, F.ok, if_pos hoff, okNum] at h1 h2
          omega
        obtain ⟨hsz, hn0, hn1⟩ := hsz
        obtain ⟨sz, hsz1⟩ : ∃ sz : Nat, f.size = sz := ⟨f.size.toNat, by omega⟩
        have hsz2 : 1 ≤ sz ∧ sz ≤ 4 := by omega
        obtain ⟨hsz2, hsz3⟩ := hsz2
        clear hsz
        rw [hsz1] at c0
        have hfl : encF f m = be sz (m.num f.off) := by rw [encF_num hoff, hsz1]; rfl
        have Hfl := Lib.hid hfl; clear hfl hsz1
        generalize m.num f.off = nn at *
        have hst := outTo_step (nk := nk) (m := m) Hf.out
        rw [Hfl.out] at hst
        have Hst := Lib.hid hst; clear hst
        go_wp2_with ((with_reducible refine (Hacc.out _ _).mono ?_); rintro e w' ⟨rfl, rfl⟩)
        obtain ⟨wo, rfl⟩ : ∃ wo : World, wo = wr := ⟨_, rfl⟩
        have hwsz : wc.heap.size ≤ wo.heap.size := Hout.out.2.size
        go_loopw [5, 9] (fun t kk wr => ∃ q : Nat, q ≤ sz ∧ kk = .int .i64 ((sz : Int) - 1 - q) ∧ OutIs wc wr t (outTo nk m fs j ++ (be sz nn).take q)) (fun _ kk _ => (intOf kk + 1).toNat)
        case atStart =>
          exact ⟨0, Nat.zero_le _, by simp, by simpa using Hout.out.1.alloc _, Hout.out.2.al _⟩
        case round =>
          obtain ⟨q, hq, rfl, hout2⟩ := hrel
          have Hout2 := Lib.hid hout2; clear hout2
          have hbl : (be sz nn).length = sz := by simp [be]
          have hll : (outTo nk m fs j ++ (be sz nn).take q).length = (outTo nk m fs j).length + q := by rw [List.length_append, List.length_take, hbl]; omega
          have Hbl := Lib.hid hbl; clear hbl
          have Hll := Lib.hid hll; clear hll
          by_cases hqs : q < sz
          · have e1 : (0 : Int) ≤ (sz : Int) - 1 - q := by omega
            go_wp2_with (at_builtin; refine wpList_append_own _ rfl (.tmp 53) (.tmp 59) 69 rfl wc.heap.size 5 i5' _ 1 1 Try.underlying69 hi5 hz0 hz1 hz2 rfl (by decide) _ _ _ rfl (Hout2.out.1.alloc _) ⟨wr.heap.size, 0, none⟩ 1 1 [.int .u8 (nn / 2 ^ (8 * (sz - 1 - q)) % 256)] rfl rfl ?d1 ?d2 ?d3 ?d4 ?d5 ?_)
            case d1 => exact cell_one_new _ _ _
            case d2 => intro u hu; simp at hu; subst hu; rfl
            case d3 => rw [Hll.out]; simp only [maxLen]; omega
            case d4 => rw [Hll.out]; omega
            case d5 => have := Hout2.out.2.size; simp; omega
            intro v' w' hown' hgrow _
            have hnew : OutIs wc w' v' (outTo nk m fs j ++ (be sz nn).take (q + 1)) := by
              refine ⟨?_, (Hout2.out.2.al _).grown hgrow (by have := Hout2.out.2.size; simp; omega) (fun k hk => (Hout2.out.1.lt k hk).1)⟩
              have e : ∀ b : UInt8, (outTo nk m fs j ++ (be sz nn).take q ++ [b]).length = (outTo nk m fs j).length + min q (be sz nn).length + 1 := by
                intro b; rw [List.length_append, List.length_append, List.length_take]; rfl
              rw [be_take hqs, ← List.append_assoc, e, byteCells_append, byteCells_be hn0]
              exact hown'
            have Hnew := Lib.hid hnew; clear hnew hown' hgrow
            go_wp2_with fail
            go_roundw
            case rel => exact ⟨q + 1, by omega, by congr 1; omega, Hnew.out⟩
            case measure => simp [intOf]; omega
          · obtain rfl : q = sz := by omega
            have hfull : (be q nn).take q = be q nn := List.take_of_length_le (by rw [Hbl.out]; exact Nat.le_refl _)
            have hnew := Hout2.out
            rw [hfull, ← Hst.out] at hnew
            have hnl : (outTo nk m fs (j + 1)).length ≤ 5 + 4096 * (j + 1) := by rw [Hst.out, List.length_append, Hbl.out]; omega
            have Hnew := Lib.hid hnew; clear hnew hfull
            have Hnl := Lib.hid hnl; clear hnl
            go_wp2_with fail
            go_roundw
            case rel => exact ⟨j + 1, by omega, by go_num, Hnew.out, Hnl.out⟩
            case measure => simp [intOf]; omega
      · have hcell : wr.cell? ⟨w.heap.size, f.off, none⟩ = some (.string (m.text f.off)) := by rw [hR1.cell]; exact cells_text m hwf hoff
        have hfne := nil_eq
        have htl : (m.text f.off).size ≤ 4096 := by
          have h1 := (List.all_eq_true.1 Hright.out) f (List.mem_of_getElem? Hf.out)
          have h2 := Hok.out f (List.mem_of_getElem? Hf.out)
          simp only [rightP, F.ok, if_neg hoff, okText, Bool.and_eq_true, decide_eq_true_eq] at h1 h2
          omega
        have hfl := encF_text (m := m) hoff
        have Hfl := Lib.hid hfl; clear hfl
        have Hwf := Lib.hid hwf; clear hwf hR1
        go_wp2_with (first | ((with_reducible refine (Hacc.out _ _).mono ?_); rintro e w' ⟨rfl, rfl⟩) | (at_builtin; refine Lib.wpList_append_own_string _ rfl (.tmp 34) (.tmp 39) 69 9 rfl wc.heap.size 5 i5' Try.underlying69 Try.underlying9 hi5 hz0 hz1 hz2 _ _ _ rfl (Hout.out.1.alloc _) (m.text f.off) rfl ?c1 ?c2 ?c3 ?_))
        case c1 => simp only [maxLen]; omega
        case c2 => omega
        case c3 => have := Hout.out.2.size; simp; omega
        intro v' w' hown' hgrow _
        have hnew : OutIs wc w' v' (outTo nk m fs (j + 1)) := by
          refine ⟨?_, ?_⟩
          · rw [outTo_step Hf.out, Hfl.out, byteCells_append, List.length_append]
            exact hown'
          · exact (Hout.out.2.al _).grown hgrow (by have := Hout.out.2.size; simp; omega) (fun k hk => (Hout.out.1.lt k hk).1)
        have hnl : (outTo nk m fs (j + 1)).length ≤ 5 + 4096 * (j + 1) := by
          rw [outTo_step Hf.out, Hfl.out, List.length_append]
          have : (m.text f.off).data.toList.length = (m.text f.off).size := Array.length_toList
          omega
        have Hnew := Lib.hid hnew; clear hnew hown' hgrow
        have Hnl := Lib.hid hnl; clear hnl
        go_wp2_with fail
        go_roundw
        case rel => exact ⟨j + 1, by omega, by go_num, Hnew.out, Hnl.out⟩
        case measure => simp [intOf]; omega
    · obtain rfl : j = fs.length := by omega
      obtain ⟨L, hL⟩ : ∃ L, L = (outTo nk m fs fs.length).length := ⟨_, rfl⟩
      have hL5 : 5 ≤ L := by rw [hL]; simp [outTo]
      have hLb : L ≤ 30000 := by omega
      obtain ⟨g, cap, cur, hv, hb, hblk, hnc, hcm, hcs, htk⟩ := own_form Hout.out.1 (by omega)
      rw [← hL] at hv hnc htk
      subst hv
      have hsubr := Hout.out.2
      have HL := Lib.hid hL; clear hL
      have hget : ∀ i, i < L → wr.cell? ⟨g, i, none⟩ = (byteCells (outTo nk m fs fs.length))[i]? := by
        intro i hi
        rw [hblk.cell, ← htk, List.getElem?_take, if_pos (by omega)]
        simp
      obtain ⟨x2, hx2⟩ : ∃ x, wr.cell? ⟨g, 2, none⟩ = some (.int .u8 x) := ⟨0, by rw [hget 2 (by omega)]; simp [outTo, byteCells]⟩
      obtain ⟨x3, hx3⟩ : ∃ x, wr.cell? ⟨g, 3, none⟩ = some (.int .u8 x) := ⟨0, by rw [hget 3 (by omega)]; simp [outTo, byteCells]⟩
      have hf2 := hblk.frozen 2
      have hf3 := hblk.frozen 3
      have hlg := hblk.lt
      have Hget := Lib.hid (And.intro hget (And.intro hblk (And.intro hcs (And.intro htk (And.intro hsubr hb)))))
      clear hget hblk htk hcs hcm hsubr
      go_wp2_with fail
      have hbl : (encBody m).length = L - 4 := by
        rw [Hbody.out, HL.out]; simp [outTo]
      have hle : (encP m).length = L := by rw [Hfin.out, List.length_append, hbl]; simp; omega
      have hcv : (convert 69 9 (.slice (some ⟨g, 0, none⟩) (encP m).length cap)).run Try.prog ((wr.setCell ⟨g, 2, none⟩ (.int .u8 (((L : Int) - 4) / 256))).setCell ⟨g, 3, none⟩ (.int .u8 (((L : Int) - 4) % 256))) = .ok (.string ⟨(encP m).toArray⟩) ((wr.setCell ⟨g, 2, none⟩ (.int .u8 (((L : Int) - 4) / 256))).setCell ⟨g, 3, none⟩ (.int .u8 (((L : Int) - 4) % 256))) := by
        refine run_convert_bytes_back _ 69 9 5 ⟨g, 0, none⟩ cap (encP m) Try.underlying69 Try.underlying5 Try.underlying9 fun j hj => ?_
        rw [add_lit, Nat.zero_add]
        have hbk := (Hget.out.2.1.set_ 2 (.int .u8 (((L : Int) - 4) / 256))).set_ 3 (.int .u8 (((L : Int) - 4) % 256))
        have hsz : L ≤ cur.size := by
          have h1 := congrArg List.length Hget.out.2.2.2.1
          simp at h1
          have h2 := HL.out
          simp [byteCells] at h1
          omega
        rw [hbk.cell]
        rcases Nat.lt_trichotomy j 2 with h | rfl | h
        · rw [Array.getElem?_setIfInBounds_ne (by omega), Array.getElem?_setIfInBounds_ne (by omega), ← Hget.out.2.1.cell, Hget.out.1 j (by omega)]
          have : j = 0 ∨ j = 1 := by omega
          rcases this with rfl | rfl <;> simp [outTo, byteCells, Hfin.out]
        · rw [Array.getElem?_setIfInBounds_ne (by omega), Array.getElem?_setIfInBounds_self_of_lt (by omega)]
          have e : (encP m)[2] = UInt8.ofNat ((L - 4) / 256 % 256) := by simp [Hfin.out, hbl]
          rw [e, UInt8.toNat_ofNat']
          congr 2
          omega
        · rcases Nat.lt_or_ge 3 j with h' | h'
          · rw [Array.getElem?_setIfInBounds_ne (by omega), Array.getElem?_setIfInBounds_ne (by omega), ← Hget.out.2.1.cell, Hget.out.1 j (by omega)]
            have e1 : (encP m)[j] = (encBody m)[j - 4]'(by omega) := by
              simp only [Hfin.out]
              rw [List.getElem_append_right (by simp; omega)]; rfl
            have e2 : (outTo nk m fs fs.length)[j]? = some ((encBody m)[j - 4]'(by omega)) := by
              rw [← List.getElem?_eq_getElem]
              have e3 : outTo nk m fs fs.length = [0, 0, 0, 0] ++ encBody m := by rw [Hbody.out]; simp [outTo]
              rw [e3, List.getElem?_append_right (by simp; omega)]; rfl
            rw [e1]
            simp only [byteCells, List.getElem?_map, e2, Option.map_some]
          · obtain rfl : j = 3 := by omega
            rw [Array.getElem?_setIfInBounds_self_of_lt (by simp; omega)]
            have e : (encP m)[3] = UInt8.ofNat ((L - 4) % 256) := by simp [Hfin.out, hbl]
            rw [e, UInt8.toNat_ofNat']
            congr 2
            omega
      rw [hle] at hcv
      rw [hcv]
      have hsub' : Sub w ((wr.setCell ⟨g, 2, none⟩ (.int .u8 (((L : Int) - 4) / 256))).setCell ⟨g, 3, none⟩ (.int .u8 (((L : Int) - 4) % 256))) := by
        have h1 := HS.out.tr Hget.out.2.2.2.2.1
        have h2 := HS.out.size
        exact (h1.setCell (p := ⟨g, 2, none⟩) (by have := Hget.out.2.2.2.2.2; simp; omega) _).setCell (p := ⟨g, 3, none⟩) (by have := Hget.out.2.2.2.2.2; simp; omega) _
      have Hsub' := Lib.hid hsub'; clear hsub' hcv hbl hle
      go_wp2_with fail
      go_ret2
      exact ⟨rfl, Hsub'.out⟩
end Go.Proofs.Ytcjmdkklbbollaa
