import Derived.Test.YtdkfkdekiljcoaaGreatRG
set_option linter.unusedSimpArgs false
set_option linter.unusedVariables false
namespace Go.Proofs.YtdkfkdekiljcoaaGreat
open Go.RowKit

theorem cl21 : callable Tryz.prog 21 = true := by kernel_rfl
theorem cl24 : callable Tryz.prog 24 = true := by kernel_rfl
theorem cl49 : callable Tryz.prog 49 = true := by kernel_rfl
theorem cl62 : callable Tryz.prog 62 = true := by kernel_rfl
theorem fo57_3 : foO Tryz.prog 57 3 = some 3 := by kernel_rfl
theorem fo57_4 : foO Tryz.prog 57 4 = some 4 := by kernel_rfl
theorem fo57_5 : foO Tryz.prog 57 5 = some 5 := by kernel_rfl
theorem fo59_0 : foO Tryz.prog 59 0 = some 0 := by kernel_rfl
theorem fo65_1 : foO Tryz.prog 65 1 = some 3 := by kernel_rfl
structure RAd where
  pa : Option Addr
  ca : Nat
  pw : Option Addr
  cw : Nat
/-- The reference's requests of a way. -/
def rqs (a : Wy) : List (Ch × Bool) := a.wa.map fun x => (x, (a.go x).getD false)
theorem rqs_len (a : Wy) : (rqs a).length = a.wa.length := by unfold rqs; simp
theorem rq_at {a : Wy} {j : Nat} (h : j < a.wa.length) : ∀ i u, (qL (a.wa.getD j Ch.none, (a.go (a.wa.getD j Ch.none)).getD false))[i]? = some u → (qV (rqs a))[j * 4 + i]? = some u := fun i u hu =>
  flat_at (size := 4) (f := qL) (l := rqs a) (fun _ _ => rfl) (by unfold rqs; rw [List.getElem?_map, List.getD_eq_getElem?_getD, List.getElem?_eq_getElem h]; rfl) i u hu
theorem take_next {a : Wy} {j : Nat} (h : j < a.wa.length) : a.wa.take (j + 1) = a.wa.take j ++ [a.wa.getD j Ch.none] := by
  rw [List.take_add_one, List.getElem?_eq_getElem h, List.getD_eq_getElem?_getD, List.getElem?_eq_getElem h]; rfl
theorem take_len {a : Wy} {j : Nat} (h : j ≤ a.wa.length) : (a.wa.take j).length = j := by rw [List.length_take]; omega
def rgC (o : Bool) (c : Co) (X Y : List Value) : Array Value := (([.int .i64 c.n, .int .i64 c.pi, .int .i64 c.la, .int .i64 c.qu, .bool c.ft] : List Value) ++ (bif o then X ++ Y else Y ++ X)).toArray
abbrev rgI (g : Nat) (c : Co) (o : Bool) (R : RAd) (S : RAd) (a : Wy) (b : Wy) : Item := Ob g (.cells (rgC o c [.bool a.bg, .bool (!(a.ck)), .bool a.wt, .string (a.fd), .slice R.pa a.al.length R.ca, .slice R.pw a.wa.length R.cw] [.bool b.bg, .bool (!(b.ck)), .bool b.wt, .string (b.fd), .slice S.pa b.al.length S.ca, .slice S.pw b.wa.length S.cw]) 59 (0, 0))
abbrev rqI (R : RAd) (a : Wy) : Item := Rw 65 4 R.pw a.wa.length R.cw (qV (rqs a))
abbrev alR (R : RAd) (a : Wy) : Item := Rw 3 1 R.pa a.al.length R.ca (zV a.al)
abbrev olR (w : World) (g : Nat) (c : Co) (o : Bool) (R : RAd) (S : RAd) (a : Wy) (b : Wy) : Item := Old w (fps [rgI g c o R S a b, alR R a, rqI R a, alR S b, rqI S b])
def offR (o : Bool) : Nat := bif o then 5 else 11
def offS (o : Bool) : Nat := bif o then 11 else 5
theorem rgC_c {o : Bool} {c : Co} {X Y : List Value} {k : Nat} {v : Value} (h : ([.int .i64 c.n, .int .i64 c.pi, .int .i64 c.la, .int .i64 c.qu, .bool c.ft] : List Value)[k]? = some v) : (rgC o c X Y)[k]? = some v := by
  unfold rgC
  rw [List.getElem?_toArray, List.getElem?_append, if_pos (List.getElem?_eq_some_iff.1 h).1]; exact h
theorem rgC_o {o : Bool} {c : Co} {X Y : List Value} {k : Nat} {v : Value} (hX : X.length = 6) (hY : Y.length = 6) (h : X[k]? = some v) : (rgC o c X Y)[offR o + k]? = some v := by
  have hk : k < 6 := by have := (List.getElem?_eq_some_iff.1 h).1; omega
  match X, hX with
  | [x0, x1, x2, x3, x4, x5], _ =>
    match Y, hY with
    | [y0, y1, y2, y3, y4, y5], _ =>
      rw [← h]
      rcases (show k = 0 ∨ k = 1 ∨ k = 2 ∨ k = 3 ∨ k = 4 ∨ k = 5 by omega) with rfl | rfl | rfl | rfl | rfl | rfl <;> cases o <;> rfl
theorem rgC_so {o : Bool} {c : Co} {X Y : List Value} {k : Nat} {v : Value} (hX : X.length = 6) (hY : Y.length = 6) (hk : k < 6) : (rgC o c X Y).setIfInBounds (offR o + k) v = rgC o c (X.set k v) Y := by
  match X, hX with
  | [x0, x1, x2, x3, x4, x5], _ =>
    match Y, hY with
    | [y0, y1, y2, y3, y4, y5], _ => rcases (show k = 0 ∨ k = 1 ∨ k = 2 ∨ k = 3 ∨ k = 4 ∨ k = 5 by omega) with rfl | rfl | rfl | rfl | rfl | rfl <;> cases o <;> rfl
theorem rgC_ol {o : Bool} {c : Co} {X Y : List Value} {k : Nat} (hX : X.length = 6) (hY : Y.length = 6) (hk : k < 6) : offR o + k < (rgC o c X Y).size := by
  unfold rgC offR
  cases o <;> simp [hX, hY] <;> omega
theorem rgC_p {o : Bool} {c : Co} {X Y : List Value} {k : Nat} {v : Value} (hX : X.length = 6) (hY : Y.length = 6) (h : Y[k]? = some v) : (rgC o c X Y)[offS o + k]? = some v := by
  have hk : k < 6 := by have := (List.getElem?_eq_some_iff.1 h).1; omega
  match X, hX with
  | [x0, x1, x2, x3, x4, x5], _ =>
    match Y, hY with
    | [y0, y1, y2, y3, y4, y5], _ =>
      rw [← h]
      rcases (show k = 0 ∨ k = 1 ∨ k = 2 ∨ k = 3 ∨ k = 4 ∨ k = 5 by omega) with rfl | rfl | rfl | rfl | rfl | rfl <;> cases o <;> rfl
theorem rgC_sp {o : Bool} {c : Co} {X Y : List Value} {k : Nat} {v : Value} (hX : X.length = 6) (hY : Y.length = 6) (hk : k < 6) : (rgC o c X Y).setIfInBounds (offS o + k) v = rgC o c X (Y.set k v) := by
  match X, hX with
  | [x0, x1, x2, x3, x4, x5], _ =>
    match Y, hY with
    | [y0, y1, y2, y3, y4, y5], _ => rcases (show k = 0 ∨ k = 1 ∨ k = 2 ∨ k = 3 ∨ k = 4 ∨ k = 5 by omega) with rfl | rfl | rfl | rfl | rfl | rfl <;> cases o <;> rfl
theorem rgC_pl {o : Bool} {c : Co} {X Y : List Value} {k : Nat} (hX : X.length = 6) (hY : Y.length = 6) (hk : k < 6) : offS o + k < (rgC o c X Y).size := by
  unfold rgC offS
  cases o <;> simp [hX, hY] <;> omega
theorem of_o (rg : Nat) (o : Bool) (w : World) : Calls Tryz.prog 21 #[.pointer (some ⟨rg, 0, none⟩), .bool o] w fun e w' => e = .returned (.pointer (some ⟨rg, offR o, none⟩)) ∧ S w' [Old w no] := by
  cases o
  · exact of_f rg w
  · exact of_t rg w
theorem of_p (rg : Nat) (o : Bool) (w : World) : Calls Tryz.prog 21 #[.pointer (some ⟨rg, 0, none⟩), .bool (!o)] w fun e w' => e = .returned (.pointer (some ⟨rg, offS o, none⟩)) ∧ S w' [Old w no] := by
  cases o
  · exact of_t rg w
  · exact of_f rg w
set_option maxRecDepth 20000 in
set_option maxHeartbeats 4000000 in
theorem fieldRR_o (rg : Nat) (c : Co) (o : Bool) (R R2 : RAd) (a b : Wy) (w : World) (HS : S w [rgI rg c o R R2 a b, alR R a, rqI R a, alR R2 b, rqI R2 b]) : Calls Tryz.prog 30 #[.pointer (some ⟨rg, 0, none⟩), .bool o] w fun e w' => e = .returned (.string a.fd) ∧ S w' ([rgI rg c o R R2 a b, alR R a, rqI R a, alR R2 b, rqI R2 b] ++ [olR w rg c o R R2 a b]) := by
 have H0 := HS.beginI
 refine enter 11 Tryz.func30 rfl rfl rfl ?_
 refine g_weak [(0, .pointer (some ⟨rg, 0, none⟩)), (1, .bool o)] ⟨rfl, rfl, trivial⟩ ?_
 refine w_s ?_
 refine w_a ?_
 refine w_e ?_
 refine w_s ?_
 refine w_r2 ?_
 refine l_of (s_call0 H0 (wt0 rfl) (x_call' rfl rfl cl21) (of_o rg o _) rfl rfl ?_)
 intro wq1 H2
 refine w_v xn ?_
 refine w_f (offR o + 3) ?_
 refine w_v (x_load1 H2 0 rfl rfl Tryz.underlying9 rfl rfl (rgC_o rfl rfl rfl)) ?_
 refine w_a ?_
 refine w_e ?_
 refine g_ret ?_
 refine fin_ret [.tmp 4] [.string (a.fd)] rfl ⟨rfl, trivial⟩ ?_
 exact ⟨rfl, (H2.takes [0, 1, 2, 3, 4, 5] (by decide))⟩
set_option maxRecDepth 20000 in
set_option maxHeartbeats 4000000 in
theorem chokedRR_o (rg : Nat) (c : Co) (o : Bool) (R R2 : RAd) (a b : Wy) (w : World) (HS : S w [rgI rg c o R R2 a b, alR R a, rqI R a, alR R2 b, rqI R2 b]) : Calls Tryz.prog 32 #[.pointer (some ⟨rg, 0, none⟩), .bool o] w fun e w' => e = .returned (.bool a.ck) ∧ S w' ([rgI rg c o R R2 a b, alR R a, rqI R a, alR R2 b, rqI R2 b] ++ [olR w rg c o R R2 a b]) := by
 have H0 := HS.beginI
 refine enter 12 Tryz.func32 rfl rfl rfl ?_
 refine g_weak [(0, .pointer (some ⟨rg, 0, none⟩)), (1, .bool o)] ⟨rfl, rfl, trivial⟩ ?_
 refine w_s ?_
 refine w_a ?_
 refine w_e ?_
 refine w_s ?_
 refine w_r2 ?_
 refine l_of (s_call0 H0 (wt0 rfl) (x_call' rfl rfl cl21) (of_o rg o _) rfl rfl ?_)
 intro wq1 H2
 refine w_v xn ?_
 refine w_f (offR o + 1) ?_
 refine w_v (x_load1 H2 0 rfl rfl Tryz.underlying4 rfl rfl (rgC_o rfl rfl rfl)) ?_
 refine w_v (v := .bool (!(!(a.ck)))) (x_not (b := !(a.ck)) rfl rfl) ?_
 refine w_a ?_
 refine w_e ?_
 refine g_ret ?_
 refine fin_ret [.tmp 4] [.bool (!(!(a.ck)))] rfl ⟨rfl, trivial⟩ ?_
 exact ⟨congrArg (fun b => Ending.returned (Value.bool b)) (Bool.not_not a.ck), (H2.takes [0, 1, 2, 3, 4, 5] (by decide))⟩
set_option maxRecDepth 20000 in
set_option maxHeartbeats 4000000 in
theorem wantsRR_o (rg : Nat) (c : Co) (o : Bool) (R R2 : RAd) (a b : Wy) (w : World) (HS : S w [rgI rg c o R R2 a b, alR R a, rqI R a, alR R2 b, rqI R2 b]) : Calls Tryz.prog 34 #[.pointer (some ⟨rg, 0, none⟩), .bool o] w fun e w' => e = .returned (.bool a.wt) ∧ S w' ([rgI rg c o R R2 a b, alR R a, rqI R a, alR R2 b, rqI R2 b] ++ [olR w rg c o R R2 a b]) := by
 have H0 := HS.beginI
 refine enter 11 Tryz.func34 rfl rfl rfl ?_
 refine g_weak [(0, .pointer (some ⟨rg, 0, none⟩)), (1, .bool o)] ⟨rfl, rfl, trivial⟩ ?_
 refine w_s ?_
 refine w_a ?_
 refine w_e ?_
 refine w_s ?_
 refine w_r2 ?_
 refine l_of (s_call0 H0 (wt0 rfl) (x_call' rfl rfl cl21) (of_o rg o _) rfl rfl ?_)
 intro wq1 H2
 refine w_v xn ?_
 refine w_f (offR o + 2) ?_
 refine w_v (x_load1 H2 0 rfl rfl Tryz.underlying4 rfl rfl (rgC_o rfl rfl rfl)) ?_
 refine w_a ?_
 refine w_e ?_
 refine g_ret ?_
 refine fin_ret [.tmp 4] [.bool a.wt] rfl ⟨rfl, trivial⟩ ?_
 exact ⟨rfl, (H2.takes [0, 1, 2, 3, 4, 5] (by decide))⟩
set_option maxRecDepth 20000 in
set_option maxHeartbeats 4000000 in
theorem begunRR_o (rg : Nat) (c : Co) (o : Bool) (R R2 : RAd) (a b : Wy) (w : World) (HS : S w [rgI rg c o R R2 a b, alR R a, rqI R a, alR R2 b, rqI R2 b]) : Calls Tryz.prog 36 #[.pointer (some ⟨rg, 0, none⟩), .bool o] w fun e w' => e = .returned (.bool a.bg) ∧ S w' ([rgI rg c o R R2 a b, alR R a, rqI R a, alR R2 b, rqI R2 b] ++ [olR w rg c o R R2 a b]) := by
 have H0 := HS.beginI
 refine enter 11 Tryz.func36 rfl rfl rfl ?_
 refine g_weak [(0, .pointer (some ⟨rg, 0, none⟩)), (1, .bool o)] ⟨rfl, rfl, trivial⟩ ?_
 refine w_s ?_
 refine w_a ?_
 refine w_e ?_
 refine w_s ?_
 refine w_r2 ?_
 refine l_of (s_call0 H0 (wt0 rfl) (x_call' rfl rfl cl21) (of_o rg o _) rfl rfl ?_)
 intro wq1 H2
 refine w_v xn ?_
 refine w_f (offR o + 0) ?_
 refine w_v (x_load1 H2 0 rfl rfl Tryz.underlying4 rfl rfl (rgC_o rfl rfl rfl)) ?_
 refine w_a ?_
 refine w_e ?_
 refine g_ret ?_
 refine fin_ret [.tmp 4] [.bool a.bg] rfl ⟨rfl, trivial⟩ ?_
 exact ⟨rfl, (H2.takes [0, 1, 2, 3, 4, 5] (by decide))⟩
set_option maxRecDepth 20000 in
set_option maxHeartbeats 4000000 in
theorem hasRR_o (rg : Nat) (c : Co) (o : Bool) (R R2 : RAd) (a b : Wy) (i : Int) (hn : 0 ≤ c.n ∧ c.n ≤ 4096) (hV : Vf c.n.toNat a.fd) (w : World) (HS : S w [rgI rg c o R R2 a b, alR R a, rqI R a, alR R2 b, rqI R2 b]) : Calls Tryz.prog 49 #[.pointer (some ⟨rg, 0, none⟩), .pointer (some ⟨rg, offR o, none⟩), .int .i64 i] w fun e w' => e = .returned (.bool (hasB c.n.toNat a.fd i)) ∧ S w' ([rgI rg c o R R2 a b, alR R a, rqI R a, alR R2 b, rqI R2 b] ++ [olR w rg c o R R2 a b]) := by
 have H0 := HS.beginI
 refine enter 23 Tryz.func49 rfl rfl rfl ?_
 refine g_weak [(0, .pointer (some ⟨rg, 0, none⟩)), (1, .pointer (some ⟨rg, offR o, none⟩)), (2, .int .i64 i)] ⟨rfl, rfl, rfl, trivial⟩ ?_
 refine w_s ?_
 refine w_a ?_
 refine w_e ?_
 refine g_seq ?_
 refine g_any [(0, .pointer (some ⟨rg, 0, none⟩)), (1, .pointer (some ⟨rg, offR o, none⟩)), (2, .int .i64 i), (6, .bool false)] (fun wx => S wx [rgI rg c o R R2 a b]) [] (by kernel_rfl) H0 (fun wq1 H2 => ?_)
 have cm1 := H2.mask [true, false, false, false, false, false]
 refine w_t 0 rfl cm1 (fun _ _ => xm) ?_
 refine w_t 1 rfl cm1 (fun _ _ => xn) ?_
 refine w_t 2 rfl cm1 (fun _ _ => xf 0) ?_
 refine w_t 3 rfl cm1 (fun _ H => x_load1 H 0 rfl rfl Tryz.underlying3 rfl rfl (rgC_c rfl)) ?_
 refine w_t 4 rfl cm1 (fun _ _ => xm) ?_
 refine w_t 5 rfl cm1 (fun _ _ => xn) ?_
 refine w_t 6 rfl cm1 (fun _ _ => xf (offR o + 3)) ?_
 refine w_t 7 rfl cm1 (fun _ H => x_load1 H 0 rfl rfl Tryz.underlying9 rfl rfl (rgC_o rfl rfl rfl)) ?_
 refine w_t 8 rfl cm1 (fun _ _ => xm) ?_
 refine a_one (i := 9) (by kernel_rfl) rfl ?_
 have hhr := has_r c.n.toNat a.fd i (by omega) hV.1 (hV.check (by omega)) wq1
 rw [show ((c.n.toNat : Nat) : Int) = c.n from by omega] at hhr
 refine s_call0 H2 (wt0 rfl) (x_call' rfl rfl cl62) (hhr) rfl rfl ?_
 intro wq3 H4
 have cm2 := H4.mask [true, false, false, false, false, false]
 refine a_k cm2 ?_
 refine w_t 10 rfl cm2 (fun _ _ => xm) ?_
 refine w_t 11 rfl cm2 (fun _ _ => xe) ?_
 refine w_t 12 rfl cm2 (fun _ _ => xe) ?_
 refine w_t 13 rfl cm2 (fun _ _ => xa) ?_
 refine w_t 14 rfl cm2 (fun _ _ => xa) ?_
 refine a_done (by kernel_rfl) ?_
 refine g_then ?_
 refine g_weak [(7, .bool ((hasB c.n.toNat a.fd i)))] ⟨rfl, trivial⟩ ?_
 refine w_s ?_
 refine w_r2 ?_
 refine w_e ?_
 refine g_ret ?_
 refine fin_ret [.tmp 6] [.bool ((hasB c.n.toNat a.fd i))] rfl ⟨rfl, trivial⟩ ?_
 exact ⟨rfl, (H4.takes [0, 1, 2, 3, 4, 5] (by decide))⟩
set_option maxRecDepth 20000 in
set_option maxHeartbeats 4000000 in
theorem hasRR_p (rg : Nat) (c : Co) (o : Bool) (R R2 : RAd) (a b : Wy) (i : Int) (hn : 0 ≤ c.n ∧ c.n ≤ 4096) (hV : Vf c.n.toNat b.fd) (w : World) (HS : S w [rgI rg c o R R2 a b, alR R a, rqI R a, alR R2 b, rqI R2 b]) : Calls Tryz.prog 49 #[.pointer (some ⟨rg, 0, none⟩), .pointer (some ⟨rg, offS o, none⟩), .int .i64 i] w fun e w' => e = .returned (.bool (hasB c.n.toNat b.fd i)) ∧ S w' ([rgI rg c o R R2 a b, alR R a, rqI R a, alR R2 b, rqI R2 b] ++ [olR w rg c o R R2 a b]) := by
 have H0 := HS.beginI
 refine enter 23 Tryz.func49 rfl rfl rfl ?_
 refine g_weak [(0, .pointer (some ⟨rg, 0, none⟩)), (1, .pointer (some ⟨rg, offS o, none⟩)), (2, .int .i64 i)] ⟨rfl, rfl, rfl, trivial⟩ ?_
 refine w_s ?_
 refine w_a ?_
 refine w_e ?_
 refine g_seq ?_
 refine g_any [(0, .pointer (some ⟨rg, 0, none⟩)), (1, .pointer (some ⟨rg, offS o, none⟩)), (2, .int .i64 i), (6, .bool false)] (fun wx => S wx [rgI rg c o R R2 a b]) [] (by kernel_rfl) H0 (fun wq1 H2 => ?_)
 have cm3 := H2.mask [true, false, false, false, false, false]
 refine w_t 0 rfl cm3 (fun _ _ => xm) ?_
 refine w_t 1 rfl cm3 (fun _ _ => xn) ?_
 refine w_t 2 rfl cm3 (fun _ _ => xf 0) ?_
 refine w_t 3 rfl cm3 (fun _ H => x_load1 H 0 rfl rfl Tryz.underlying3 rfl rfl (rgC_c rfl)) ?_
 refine w_t 4 rfl cm3 (fun _ _ => xm) ?_
 refine w_t 5 rfl cm3 (fun _ _ => xn) ?_
 refine w_t 6 rfl cm3 (fun _ _ => xf (offS o + 3)) ?_
 refine w_t 7 rfl cm3 (fun _ H => x_load1 H 0 rfl rfl Tryz.underlying9 rfl rfl (rgC_p rfl rfl rfl)) ?_
 refine w_t 8 rfl cm3 (fun _ _ => xm) ?_
 refine a_one (i := 9) (by kernel_rfl) rfl ?_
 have hhr := has_r c.n.toNat b.fd i (by omega) hV.1 (hV.check (by omega)) wq1
 rw [show ((c.n.toNat : Nat) : Int) = c.n from by omega] at hhr
 refine s_call0 H2 (wt0 rfl) (x_call' rfl rfl cl62) (hhr) rfl rfl ?_
 intro wq3 H4
 have cm4 := H4.mask [true, false, false, false, false, false]
 refine a_k cm4 ?_
 refine w_t 10 rfl cm4 (fun _ _ => xm) ?_
 refine w_t 11 rfl cm4 (fun _ _ => xe) ?_
 refine w_t 12 rfl cm4 (fun _ _ => xe) ?_
 refine w_t 13 rfl cm4 (fun _ _ => xa) ?_
 refine w_t 14 rfl cm4 (fun _ _ => xa) ?_
 refine a_done (by kernel_rfl) ?_
 refine g_then ?_
 refine g_weak [(7, .bool ((hasB c.n.toNat b.fd i)))] ⟨rfl, trivial⟩ ?_
 refine w_s ?_
 refine w_r2 ?_
 refine w_e ?_
 refine g_ret ?_
 refine fin_ret [.tmp 6] [.bool ((hasB c.n.toNat b.fd i))] rfl ⟨rfl, trivial⟩ ?_
 exact ⟨rfl, (H4.takes [0, 1, 2, 3, 4, 5] (by decide))⟩
set_option maxRecDepth 20000 in
set_option maxHeartbeats 4000000 in
theorem hasR_o (rg : Nat) (c : Co) (o : Bool) (R R2 : RAd) (a b : Wy) (i : Int) (hn : 0 ≤ c.n ∧ c.n ≤ 4096) (hV : Vf c.n.toNat a.fd) (w : World) (HS : S w [rgI rg c o R R2 a b, alR R a, rqI R a, alR R2 b, rqI R2 b]) : Calls Tryz.prog 15 #[.pointer (some ⟨rg, 0, none⟩), .bool o, .int .i64 i] w fun e w' => e = .returned (.tuple #[.bool (hasB c.n.toNat a.fd i), .int .i64 (hasE c.n.toNat i)]) ∧ S w' ([rgI rg c o R R2 a b, alR R a, rqI R a, alR R2 b, rqI R2 b] ++ [olR w rg c o R R2 a b]) := by
 have H0 := HS.beginI
 refine enter 24 Tryz.func15 rfl rfl rfl ?_
 refine g_weak [(0, .pointer (some ⟨rg, 0, none⟩)), (1, .bool o), (2, .int .i64 i)] ⟨rfl, rfl, rfl, trivial⟩ ?_
 refine w_s ?_
 refine w_r2 ?_
 refine w_e ?_
 refine g_seq ?_
 refine w_s ?_
 refine w_m ?_
 refine w_b ?_
 refine w_m ?_
 by_cases hb1 : (i : Int) < 0
 ·
  refine w_n (decide_eq_true hb1) ?_
  refine w_n (decide_eq_true hb1) ?_
  refine w_n (decide_eq_true hb1) ?_
  refine w_n (decide_eq_true hb1) ?_
  refine w_n (decide_eq_true hb1) ?_
  refine w_n (decide_eq_true hb1) ?_
  refine w_v (v := .bool true) (x_pick_t rfl rfl (decide_eq_true hb1) rfl) ?_
  refine w_e ?_
  refine g_cond_t rfl rfl ?_
  refine w_s ?_
  refine w_r2 ?_
  refine w_e ?_
  refine g_weak [(6, .bool false), (7, .int .i64 7)] ⟨rfl, rfl, trivial⟩ ?_
  refine g_ret ?_
  refine g_then_ret ?_
  refine fin_ret [.tmp 6, .tmp 7] [.bool false, .int .i64 7] rfl ⟨rfl, rfl, trivial⟩ ?_
  obtain ⟨q1, q2⟩ := has_out (m := c.n.toNat) (s := a.fd) (i := i) (by omega)
  exact ⟨by rw [q1, q2]; rfl, (H0.takes [0, 1, 2, 3, 4, 5] (by decide))⟩
 ·
  refine w_g (decide_eq_false hb1) xm ?_
  refine w_g (decide_eq_false hb1) xm ?_
  refine w_g (decide_eq_false hb1) xn ?_
  refine w_g (decide_eq_false hb1) (xf 0) ?_
  refine w_g (decide_eq_false hb1) (x_load1 H0 0 rfl rfl Tryz.underlying3 rfl rfl (rgC_c rfl)) ?_
  refine w_g (decide_eq_false hb1) (x_bin rfl rfl rfl b_geq) ?_
  refine w_v (v := .bool (decide ((c.n : Int) ≤ i))) (x_pick_f rfl rfl (decide_eq_false hb1) rfl) ?_
  refine w_e ?_
  by_cases hb2 : (c.n : Int) ≤ i
  ·
   refine g_cond_t rfl (decide_eq_true hb2) ?_
   refine w_s ?_
   refine w_r2 ?_
   refine w_e ?_
   refine g_weak [(6, .bool false), (7, .int .i64 7)] ⟨rfl, rfl, trivial⟩ ?_
   refine g_ret ?_
   refine g_then_ret ?_
   refine fin_ret [.tmp 6, .tmp 7] [.bool false, .int .i64 7] rfl ⟨rfl, rfl, trivial⟩ ?_
   obtain ⟨q1, q2⟩ := has_out (m := c.n.toNat) (s := a.fd) (i := i) (by omega)
   exact ⟨by rw [q1, q2]; rfl, (H0.takes [0, 1, 2, 3, 4, 5] (by decide))⟩
  ·
   refine g_cond_f rfl (decide_eq_false hb2) ?_
   refine g_skip ?_
   refine g_then ?_
   refine g_weak [(0, .pointer (some ⟨rg, 0, none⟩)), (1, .bool o), (2, .int .i64 i)] ⟨rfl, rfl, rfl, trivial⟩ ?_
   refine w_s ?_
   refine w_r3 ?_
   refine l_of (s_call0 H0 (wt0 rfl) (x_call' rfl rfl cl21) (of_o rg o _) rfl rfl ?_)
   intro wq3 H4
   refine w_m ?_
   refine l_of (s_callK H4 [0, 1, 2, 3, 4] [0, 1, 2, 3, 4, 5] (by decide) rfl (wt0 rfl) (x_call' rfl rfl cl49) (fun _ => hasRR_o rg c o R R2 a b i hn hV _ (H4.takes [0, 1, 2, 3, 4] (by decide))) (by decide) rfl rfl ?_)
   intro wq5 H7
   refine w_r2 ?_
   refine w_e ?_
   refine g_ret ?_
   refine fin_ret [.tmp 6, .tmp 7] [.bool ((hasB c.n.toNat a.fd i)), .int .i64 0] rfl ⟨rfl, rfl, trivial⟩ ?_
   obtain ⟨q1, q2⟩ := has_in (m := c.n.toNat) (s := a.fd) (i := i) (by omega)
   exact ⟨by rw [q2]; rfl, (H7.takes [0, 1, 2, 3, 4, 5] (by decide))⟩
set_option maxRecDepth 20000 in
set_option maxHeartbeats 4000000 in
theorem allows_o (rg : Nat) (c : Co) (o : Bool) (R R2 : RAd) (a b : Wy) (hal : a.al.length ≤ 1099511627776) (w : World) (HS : S w [rgI rg c o R R2 a b, alR R a, rqI R a, alR R2 b, rqI R2 b]) : Calls Tryz.prog 43 #[.pointer (some ⟨rg, 0, none⟩), .bool o] w fun e w' => ∃ p' c', e = .returned (.slice p' a.al.length c') ∧ S w' ([Rw 3 1 p' a.al.length c' (zV a.al), rgI rg c o R R2 a b, alR R a, rqI R a, alR R2 b, rqI R2 b] ++ [olR w rg c o R R2 a b]) := by
 have H0 := HS.beginI
 refine enter 13 Tryz.func43 rfl rfl rfl ?_
 refine g_weak [(0, .pointer (some ⟨rg, 0, none⟩)), (1, .bool o)] ⟨rfl, rfl, trivial⟩ ?_
 refine w_s ?_
 refine w_a ?_
 refine w_e ?_
 refine w_s ?_
 refine l_of (s_buildSlice0 H0 (wt0 rfl) rfl rfl rfl Tryz.underlying54 sz3 ?_)
 intro g1 wq2 H4
 have H3 : S wq2 [Rw 3 1 (some ⟨g1, 0, none⟩) 0 0 (zV []), rgI rg c o R R2 a b, alR R a, rqI R a, alR R2 b, rqI R2 b, olR w rg c o R R2 a b] := H4.obRw (k := 0) (n := 0) (size := 1) rfl rfl (by decide)
 refine w_r2 ?_
 refine l_of (s_call0 H3 (wt0 rfl) (x_call' rfl rfl cl21) (of_o rg o _) rfl rfl ?_)
 intro wq5 H6
 refine w_v xn ?_
 refine w_f (offR o + 4) ?_
 refine w_v (x_load1 H6 1 rfl rfl Tryz.underlying54 rfl rfl (rgC_o rfl rfl rfl)) ?_
 refine l_of (s_appendW (n := 0) (m := a.al.length) (sc := 0) (xs := zV []) (news := zV a.al) (p := (some ⟨g1, 0, none⟩)) (q := R.pa) H6 0 (wt0 rfl) rfl rfl rfl rfl rfl rfl Tryz.underlying54 inf3 rfl (by decide) (by decide) (H6.rwReads (k := 2) rfl) (zV_one _) (by omega) ?_)
 intro p7 c8 wq9 H10
 rw [Nat.zero_add] at H10 ⊢
 replace H10 : S wq9 [Rw 3 1 p7 a.al.length c8 (zV a.al), rgI rg c o R R2 a b, alR R a, rqI R a, alR R2 b, rqI R2 b, olR w rg c o R R2 a b] := H10
 refine w_a ?_
 refine w_e ?_
 refine g_ret ?_
 refine fin_ret [.tmp 4] [.slice p7 a.al.length c8] rfl ⟨rfl, trivial⟩ ?_
 exact ⟨_, _, rfl, H10.takes [0, 1, 2, 3, 4, 5, 6] (by decide)⟩
set_option maxRecDepth 20000 in
set_option maxHeartbeats 4000000 in
theorem waitingR_o (rg : Nat) (c : Co) (o : Bool) (R R2 : RAd) (a b : Wy) (hwl : a.wa.length ≤ 1099511627776) (w : World) (HS : S w [rgI rg c o R R2 a b, alR R a, rqI R a, alR R2 b, rqI R2 b]) : Calls Tryz.prog 39 #[.pointer (some ⟨rg, 0, none⟩), .bool o] w fun e w' => ∃ p' c', e = .returned (.slice p' a.wa.length c') ∧ S w' ([Rw 49 3 p' a.wa.length c' (chV a.wa), rgI rg c o R R2 a b, alR R a, rqI R a, alR R2 b, rqI R2 b] ++ [olR w rg c o R R2 a b]) := by
 have H0 := HS.beginI
 refine enter 26 Tryz.func39 rfl rfl rfl ?_
 refine g_weak [(0, .pointer (some ⟨rg, 0, none⟩)), (1, .bool o)] ⟨rfl, rfl, trivial⟩ ?_
 refine w_s ?_
 refine w_a ?_
 refine w_e ?_
 refine w_s ?_
 have H1 : S w [Rw 49 3 none 0 0 [], rgI rg c o R R2 a b, alR R a, rqI R a, alR R2 b, rqI R2 b, olR w rg c o R R2 a b] := H0.nilRw 49 3
 refine w_a ?_
 refine w_e ?_
 refine g_seq ?_
 refine w_s ?_
 refine w_r2 ?_
 refine l_of (s_call0 H1 (wt0 rfl) (x_call' rfl rfl cl21) (of_o rg o _) rfl rfl ?_)
 intro wq2 H3
 refine w_v xn ?_
 refine w_f (offR o + 5) ?_
 refine w_v (x_load1 H3 1 rfl rfl Tryz.underlying55 rfl rfl (rgC_o rfl rfl rfl)) ?_
 refine w_v (v := .int .i64 ((a.wa.length : Int))) (x_lenl rfl rfl Tryz.underlying55) ?_
 refine w_m ?_
 refine w_e ?_
 refine g_block ?_
 refine g_loop (ι := Nat × Option Addr × Nat) (fun (j, q, d) => [(5, .slice q (a.wa.take j).length d), (13, .slice R.pw a.wa.length R.cw), (14, .int .i64 ((a.wa.length : Int))), (15, .int .i64 ((j : Int)))]) (fun (j, q, d) wx => (j ≤ a.wa.length) ∧ S wx [Rw 49 3 q (a.wa.take j).length d (chV (a.wa.take j)), rgI rg c o R R2 a b, alR R a, rqI R a, alR R2 b, rqI R2 b, olR w rg c o R R2 a b]) (fun (j, q, d) => a.wa.length - j) (0, none, 0) ⟨rfl, rfl, rfl, rfl, trivial⟩ ⟨Nat.zero_le _, (H3.takes [0, 1, 2, 3, 4, 5, 6] (by decide))⟩ ?_
 rintro ⟨j, q, d⟩ wq4 ⟨hj, H5⟩
 refine g_weak [(5, .slice q (a.wa.take j).length d), (13, .slice R.pw a.wa.length R.cw), (14, .int .i64 ((a.wa.length : Int))), (15, .int .i64 ((j : Int)))] ⟨rfl, rfl, rfl, rfl, trivial⟩ ?_
 have htk := take_len hj
 refine w_s ?_
 refine w_b ?_
 refine w_e ?_
 refine g_seq ?_
 by_cases hb6 : ((j : Int) : Int) < (a.wa.length : Int)
 ·
  have hjl : j < a.wa.length := by omega
  refine g_cond_t rfl (decide_eq_true hb6) ?_
  refine g_skip ?_
  refine g_then ?_
  refine g_seq ?_
  refine g_block ?_
  refine w_s ?_
  refine w_v (v := .pointer ((R.pw).map fun q => q.add (j * 4))) (x_idxR j (H5.rwReads (k := 3) rfl) rfl rfl rfl Tryz.underlying55 sz65 (by omega)) ?_
  refine w_v (v := .agg #[.int .i64 ((a.wa.getD (j) Ch.none).p), .int .i64 ((a.wa.getD (j) Ch.none).b), .int .i64 ((a.wa.getD (j) Ch.none).n), .bool (((a.go (a.wa.getD (j) Ch.none)).getD false))]) (x_loadRA (vs := (qL ((a.wa.getD (j) Ch.none), (a.go (a.wa.getD (j) Ch.none)).getD false))) j (H5.rwReads (k := 3) rfl) (by omega) rfl rfl Tryz.underlying65 rfl sz65 (by rfl) (rq_at (by omega))) ?_
  refine l_of (s_alloc H5 (wt0 rfl) rfl rfl rfl ze65 ?_)
  intro g7 wq8 H9
  refine l_of (w_st #[.int .i64 ((a.wa.getD (j) Ch.none).p), .int .i64 ((a.wa.getD (j) Ch.none).b), .int .i64 ((a.wa.getD (j) Ch.none).n), .bool (((a.go (a.wa.getD (j) Ch.none)).getD false))] H9 0 ?_)
  intro wq10 H11
  refine w_e ?_
  refine g_region ?_
  refine w_r2 ?_
  refine w_v (v := .agg #[.int .i64 ((a.wa.getD (j) Ch.none).p), .int .i64 ((a.wa.getD (j) Ch.none).b), .int .i64 ((a.wa.getD (j) Ch.none).n)]) (x_loadA H11 0 rfl rfl Tryz.underlying49 rfl sz49 rfl rfl rfl) ?_
  refine l_of (s_buildSlice H11 (wt0 rfl) rfl rfl rfl (vs := [.agg #[.int .i64 ((a.wa.getD (j) Ch.none).p), .int .i64 ((a.wa.getD (j) Ch.none).b), .int .i64 ((a.wa.getD (j) Ch.none).n)]]) rfl Tryz.underlying46 sz49 ze49 rfl rfl (cells := #[.int .i64 ((a.wa.getD (j) Ch.none).p), .int .i64 ((a.wa.getD (j) Ch.none).b), .int .i64 ((a.wa.getD (j) Ch.none).n)]) (by kernel_rfl) ?_)
  intro g12 wq13 H14
  refine l_of (s_appendR (n := (a.wa.take j).length) (m := 1) (sc := d) (xs := (chV (a.wa.take j))) (news := [.int .i64 ((a.wa.getD (j) Ch.none).p), .int .i64 ((a.wa.getD (j) Ch.none).b), .int .i64 ((a.wa.getD (j) Ch.none).n)]) (p := q) (ad := ⟨g12, 0, none⟩) H14 2 (wt0 rfl) rfl rfl rfl rfl rfl rfl Tryz.underlying46 inf49 rfl (by decide) (by decide) rfl (by decide) (news_ob H14 (j0 := 0) rfl) rfl (by omega) ?_)
  intro p15 c16 wq17 (H18 : S wq17 [Ob g12 (.cells #[.int .i64 ((a.wa.getD (j) Ch.none).p), .int .i64 ((a.wa.getD (j) Ch.none).b), .int .i64 ((a.wa.getD (j) Ch.none).n)] 49 (0, 0)), Ob g7 (.cells #[.int .i64 ((a.wa.getD (j) Ch.none).p), .int .i64 ((a.wa.getD (j) Ch.none).b), .int .i64 ((a.wa.getD (j) Ch.none).n), .bool (((a.go (a.wa.getD (j) Ch.none)).getD false))] 65 (0, 0)), Rw 49 3 p15 ((a.wa.take j).length + 1) c16 ((chV (a.wa.take j)) ++ [.int .i64 ((a.wa.getD (j) Ch.none).p), .int .i64 ((a.wa.getD (j) Ch.none).b), .int .i64 ((a.wa.getD (j) Ch.none).n)]), rgI rg c o R R2 a b, alR R a, rqI R a, alR R2 b, rqI R2 b, olR w rg c o R R2 a b])
  refine w_a ?_
  refine g_nil ?_
  refine g_in ?_
  refine g_then ?_
  refine g_region ?_
  refine w_b (v := .int .i64 ((j : Int) + 1)) (hb := (b_add (w64 (by omega)))) ?_
  refine w_m ?_
  refine w_e ?_
  have hos20 : (a.wa.take (j + 1)) = (a.wa.take j) ++ [(a.wa.getD (j) Ch.none)] := take_next hjl
  have H19 : S wq17 [Rw 49 3 p15 (a.wa.take (j + 1)).length c16 (chV (a.wa.take (j + 1))), rgI rg c o R R2 a b, alR R a, rqI R a, alR R2 b, rqI R2 b, olR w rg c o R R2 a b] := by rw [hos20, List.length_append, ask_cells]; exact (H18.takes [2, 3, 4, 5, 6, 7, 8] (by decide))
  rw [show (a.wa.take j).length + 1 = (a.wa.take (j + 1)).length from by rw [hos20, List.length_append]; rfl]
  refine g_round (i := (j, q, d)) (j + 1, p15, c16) ?_ ?_ ?_
  · exact ⟨rfl, rfl, rfl, rfl, trivial⟩
  · exact ⟨by omega, H19⟩
  · (try dsimp only); omega
 ·
  refine g_cond_f rfl (decide_eq_false hb6) ?_
  refine g_exit ?_
  refine g_then_exit ?_
  refine g_then_exit ?_
  refine g_in_hit ?_
  refine g_then ?_
  refine w_s ?_
  refine w_r2 ?_
  refine w_e ?_
  refine g_ret ?_
  refine fin_ret [.tmp 4] [.slice q (a.wa.take j).length d] rfl ⟨rfl, trivial⟩ ?_
  have hjj : j = a.wa.length := by omega
  subst hjj
  have htl : (a.wa.take a.wa.length) = a.wa := List.take_length
  rw [htl] at H5
  rw [htl]
  exact ⟨_, _, rfl, H5.takes [0, 1, 2, 3, 4, 5, 6] (by decide)⟩
set_option maxRecDepth 20000 in
set_option maxHeartbeats 4000000 in
theorem owedR_o (rg : Nat) (c : Co) (o : Bool) (R R2 : RAd) (a b : Wy) (hal : a.al.length ≤ 1099511627776) (hwl : a.wa.length ≤ 1099511627776) (w : World) (HS : S w [rgI rg c o R R2 a b, alR R a, rqI R a, alR R2 b, rqI R2 b]) : Calls Tryz.prog 40 #[.pointer (some ⟨rg, 0, none⟩), .bool o] w fun e w' => ∃ p' c', e = .returned (.slice p' (owedS a).length c') ∧ S w' ([Rw 49 3 p' (owedS a).length c' (chV (owedS a)), rgI rg c o R R2 a b, alR R a, rqI R a, alR R2 b, rqI R2 b] ++ [olR w rg c o R R2 a b]) := by
 have H0 := HS.beginI
 refine enter 48 Tryz.func40 rfl rfl rfl ?_
 refine g_weak [(0, .pointer (some ⟨rg, 0, none⟩)), (1, .bool o)] ⟨rfl, rfl, trivial⟩ ?_
 refine w_s ?_
 refine w_a ?_
 refine w_e ?_
 refine w_s ?_
 refine w_r2 ?_
 refine l_of (s_call0 H0 (wt0 rfl) (x_call' rfl rfl cl21) (of_o rg o _) rfl rfl ?_)
 intro wq1 H2
 refine w_a ?_
 refine w_e ?_
 refine w_s ?_
 have H3 : S wq1 [Rw 49 3 none 0 0 [], rgI rg c o R R2 a b, alR R a, rqI R a, alR R2 b, rqI R2 b, olR w rg c o R R2 a b] := H2.nilRw 49 3
 refine w_a ?_
 refine w_e ?_
 refine g_seq ?_
 refine w_s ?_
 refine w_r2 ?_
 refine w_f (offR o + 5) ?_
 refine w_v (x_load1 H3 1 rfl rfl Tryz.underlying55 rfl rfl (rgC_o rfl rfl rfl)) ?_
 refine w_v (v := .int .i64 ((a.wa.length : Int))) (x_lenl rfl rfl Tryz.underlying55) ?_
 refine w_m ?_
 refine w_e ?_
 refine g_block ?_
 refine g_loop (ι := Nat × Option Addr × Nat) (fun (j, q, d) => [(5, .pointer (some ⟨rg, offR o, none⟩)), (6, .slice q (owedTo a j).length d), (15, .slice R.pw a.wa.length R.cw), (16, .int .i64 ((a.wa.length : Int))), (17, .int .i64 ((j : Int)))]) (fun (j, q, d) wx => (j ≤ a.wa.length) ∧ S wx [Rw 49 3 q (owedTo a j).length d (chV (owedTo a j)), rgI rg c o R R2 a b, alR R a, rqI R a, alR R2 b, rqI R2 b, olR w rg c o R R2 a b]) (fun (j, q, d) => a.wa.length - j) (0, none, 0) ⟨rfl, rfl, rfl, rfl, rfl, trivial⟩ ⟨Nat.zero_le _, (H3.takes [0, 1, 2, 3, 4, 5, 6] (by decide))⟩ ?_
 rintro ⟨j, q, d⟩ wq4 ⟨hj, H5⟩
 refine g_weak [(5, .pointer (some ⟨rg, offR o, none⟩)), (6, .slice q (owedTo a j).length d), (15, .slice R.pw a.wa.length R.cw), (16, .int .i64 ((a.wa.length : Int))), (17, .int .i64 ((j : Int)))] ⟨rfl, rfl, rfl, rfl, rfl, trivial⟩ ?_
 have hol := owed_len a j
 refine w_s ?_
 refine w_b ?_
 refine w_e ?_
 refine g_seq ?_
 by_cases hb6 : ((j : Int) : Int) < (a.wa.length : Int)
 ·
  have hjl : j < a.wa.length := by omega
  refine g_cond_t rfl (decide_eq_true hb6) ?_
  refine g_skip ?_
  refine g_then ?_
  refine g_seq ?_
  refine g_block ?_
  refine w_s ?_
  refine w_v (v := .pointer ((R.pw).map fun q => q.add (j * 4))) (x_idxR j (H5.rwReads (k := 3) rfl) rfl rfl rfl Tryz.underlying55 sz65 (by omega)) ?_
  refine w_v (v := .agg #[.int .i64 ((a.wa.getD (j) Ch.none).p), .int .i64 ((a.wa.getD (j) Ch.none).b), .int .i64 ((a.wa.getD (j) Ch.none).n), .bool (((a.go (a.wa.getD (j) Ch.none)).getD false))]) (x_loadRA (vs := (qL ((a.wa.getD (j) Ch.none), (a.go (a.wa.getD (j) Ch.none)).getD false))) j (H5.rwReads (k := 3) rfl) (by omega) rfl rfl Tryz.underlying65 rfl sz65 (by rfl) (rq_at (by omega))) ?_
  refine l_of (s_alloc H5 (wt0 rfl) rfl rfl rfl ze65 ?_)
  intro g7 wq8 H9
  refine l_of (w_st #[.int .i64 ((a.wa.getD (j) Ch.none).p), .int .i64 ((a.wa.getD (j) Ch.none).b), .int .i64 ((a.wa.getD (j) Ch.none).n), .bool (((a.go (a.wa.getD (j) Ch.none)).getD false))] H9 0 ?_)
  intro wq10 H11
  refine w_e ?_
  refine g_seq ?_
  refine g_any [(5, .pointer (some ⟨rg, offR o, none⟩)), (6, .slice q (owedTo a j).length d), (8, .pointer (some ⟨g7, 0, none⟩)), (15, .slice R.pw a.wa.length R.cw), (16, .int .i64 ((a.wa.length : Int))), (17, .int .i64 ((j : Int))), (18, .bool (decide (((j : Int) : Int) < (a.wa.length : Int)))), (19, .pointer ((R.pw).map fun q => q.add (j * 4))), (20, .agg #[.int .i64 ((a.wa.getD (j) Ch.none).p), .int .i64 ((a.wa.getD (j) Ch.none).b), .int .i64 ((a.wa.getD (j) Ch.none).n), .bool (((a.go (a.wa.getD (j) Ch.none)).getD false))])] (fun wx => S wx [Ob g7 (.cells #[.int .i64 ((a.wa.getD (j) Ch.none).p), .int .i64 ((a.wa.getD (j) Ch.none).b), .int .i64 ((a.wa.getD (j) Ch.none).n), .bool (((a.go (a.wa.getD (j) Ch.none)).getD false))] 65 (0, 0)), rgI rg c o R R2 a b]) [] (by kernel_rfl) H11 (fun wq12 H13 => ?_)
  have cm5 := H13.mask [true, false, true, false, false, false, false, false]
  refine w_t 0 rfl cm5 (fun _ _ => xf 3) ?_
  refine w_t 1 rfl cm5 (fun _ H => xl H 0) ?_
  refine w_t 2 rfl cm5 (fun _ _ => xm) ?_
  rcases Bool.eq_false_or_eq_true (((a.go (a.wa.getD (j) Ch.none)).getD false)) with hb14 | hb14
  ·
   have cm6 := H13.mask [true, false, true, false, false, false, false, false]
   refine w_tn 3 rfl hb14 cm6 ?_
   refine w_tn 4 rfl hb14 cm6 ?_
   refine w_tn 5 rfl hb14 cm6 ?_
   refine w_tn 6 rfl hb14 cm6 ?_
   refine w_tn 7 rfl hb14 cm6 ?_
   refine w_tn 8 rfl hb14 cm6 ?_
   refine w_x 9 rfl (wn2 rfl rfl rfl rfl) rfl rfl rfl (by kernel_rfl) cm6 ?_
   refine w_x 10 rfl (wn2 rfl rfl rfl rfl) rfl rfl rfl (by kernel_rfl) cm6 ?_
   refine w_x 11 rfl (wn2 rfl rfl rfl rfl) rfl rfl rfl (by kernel_rfl) cm6 ?_
   refine w_x 12 rfl (wn2 rfl rfl rfl rfl) rfl rfl rfl (by kernel_rfl) cm6 ?_
   refine w_x 13 rfl (wn2 rfl rfl rfl rfl) rfl rfl rfl (by kernel_rfl) cm6 ?_
   refine w_x 14 rfl (wn2 rfl rfl rfl rfl) rfl rfl rfl (by kernel_rfl) cm6 ?_
   refine w_x 15 rfl (wn2 rfl rfl rfl rfl) rfl rfl rfl (by kernel_rfl) cm6 ?_
   refine a_one (i := 16) (by kernel_rfl) rfl ?_
   refine s_not (wn2 rfl rfl rfl rfl) rfl rfl ?_
   refine a_k cm6 ?_
   refine w_x 17 rfl (wn2 rfl rfl rfl rfl) rfl rfl rfl (by kernel_rfl) cm6 ?_
   refine w_tn 18 rfl hb14 cm6 ?_
   refine w_t (v := .bool true) 19 rfl cm6 (fun _ _ => x_pick_t rfl rfl hb14 rfl) ?_
   refine a_done (by kernel_rfl) ?_
   refine g_then ?_
   refine g_cond_t rfl rfl ?_
   refine g_region ?_
   refine w_r2 ?_
   refine w_v (v := .agg #[.int .i64 ((a.wa.getD (j) Ch.none).p), .int .i64 ((a.wa.getD (j) Ch.none).b), .int .i64 ((a.wa.getD (j) Ch.none).n)]) (x_loadA H13 0 rfl rfl Tryz.underlying49 rfl sz49 rfl rfl rfl) ?_
   refine l_of (s_buildSlice H13 (wt0 rfl) rfl rfl rfl (vs := [.agg #[.int .i64 ((a.wa.getD (j) Ch.none).p), .int .i64 ((a.wa.getD (j) Ch.none).b), .int .i64 ((a.wa.getD (j) Ch.none).n)]]) rfl Tryz.underlying46 sz49 ze49 rfl rfl (cells := #[.int .i64 ((a.wa.getD (j) Ch.none).p), .int .i64 ((a.wa.getD (j) Ch.none).b), .int .i64 ((a.wa.getD (j) Ch.none).n)]) (by kernel_rfl) ?_)
   intro g15 wq16 H17
   refine l_of (s_appendR (n := (owedTo a j).length) (m := 1) (sc := d) (xs := (chV (owedTo a j))) (news := [.int .i64 ((a.wa.getD (j) Ch.none).p), .int .i64 ((a.wa.getD (j) Ch.none).b), .int .i64 ((a.wa.getD (j) Ch.none).n)]) (p := q) (ad := ⟨g15, 0, none⟩) H17 2 (wt0 rfl) rfl rfl rfl rfl rfl rfl Tryz.underlying46 inf49 rfl (by decide) (by decide) rfl (by decide) (news_ob H17 (j0 := 0) rfl) rfl (by omega) ?_)
   intro p18 c19 wq20 (H21 : S wq20 [Ob g15 (.cells #[.int .i64 ((a.wa.getD (j) Ch.none).p), .int .i64 ((a.wa.getD (j) Ch.none).b), .int .i64 ((a.wa.getD (j) Ch.none).n)] 49 (0, 0)), Ob g7 (.cells #[.int .i64 ((a.wa.getD (j) Ch.none).p), .int .i64 ((a.wa.getD (j) Ch.none).b), .int .i64 ((a.wa.getD (j) Ch.none).n), .bool (((a.go (a.wa.getD (j) Ch.none)).getD false))] 65 (0, 0)), Rw 49 3 p18 ((owedTo a j).length + 1) c19 ((chV (owedTo a j)) ++ [.int .i64 ((a.wa.getD (j) Ch.none).p), .int .i64 ((a.wa.getD (j) Ch.none).b), .int .i64 ((a.wa.getD (j) Ch.none).n)]), rgI rg c o R R2 a b, alR R a, rqI R a, alR R2 b, rqI R2 b, olR w rg c o R R2 a b])
   refine w_a ?_
   refine g_nil ?_
   refine g_in ?_
   refine g_then ?_
   refine g_weak [(5, .pointer (some ⟨rg, offR o, none⟩)), (6, .slice p18 ((owedTo a j).length + 1) c19), (15, .slice R.pw a.wa.length R.cw), (16, .int .i64 ((a.wa.length : Int))), (17, .int .i64 ((j : Int))), (24, undef), (25, undef), (26, undef), (27, undef), (28, undef), (29, undef), (30, undef), (31, undef), (32, undef), (33, undef), (34, undef), (35, undef), (36, undef), (37, undef), (38, undef), (39, undef)] ⟨rfl, rfl, rfl, rfl, rfl, rfl, rfl, rfl, rfl, rfl, rfl, rfl, rfl, rfl, rfl, rfl, rfl, rfl, rfl, rfl, rfl, trivial⟩ ?_
   refine g_region ?_
   refine w_b (v := .int .i64 ((j : Int) + 1)) (hb := (b_add (w64 (by omega)))) ?_
   refine w_m ?_
   refine w_e ?_
   have how24 : owesB a (a.wa.getD (j) Ch.none) = true := by unfold owesB openB; rw [hb14]; rfl
   have hos23 : (owedTo a (j + 1)) = (owedTo a j) ++ [(a.wa.getD (j) Ch.none)] := by rw [owed_next hjl, if_pos how24]
   have H22 : S wq20 [Rw 49 3 p18 (owedTo a (j + 1)).length c19 (chV (owedTo a (j + 1))), rgI rg c o R R2 a b, alR R a, rqI R a, alR R2 b, rqI R2 b, olR w rg c o R R2 a b] := by rw [hos23, List.length_append, ask_cells]; exact (H21.takes [2, 3, 4, 5, 6, 7, 8] (by decide))
   rw [show (owedTo a j).length + 1 = (owedTo a (j + 1)).length from by rw [hos23, List.length_append]; rfl]
   refine g_round (i := (j, q, d)) (j + 1, p18, c19) ?_ ?_ ?_
   · exact ⟨rfl, rfl, rfl, rfl, rfl, trivial⟩
   · exact ⟨by omega, H22⟩
   · (try dsimp only); omega
  ·
   have cm7 := H13.mask [true, false, true, false, false, false, false, false]
   refine w_tg 3 rfl hb14 cm7 (fun _ _ => xm) ?_
   refine w_tg 4 rfl hb14 cm7 (fun _ _ => xn) ?_
   refine w_tg 5 rfl hb14 cm7 (fun _ _ => xf (offR o + 1)) ?_
   refine w_tg 6 rfl hb14 cm7 (fun _ H => x_load1 H 1 rfl rfl Tryz.underlying4 rfl rfl (rgC_o rfl rfl rfl)) ?_
   refine w_tg (v := .bool (!(!(a.ck)))) 7 rfl hb14 cm7 (fun _ _ => x_not (b := !(a.ck)) rfl rfl) ?_
   refine w_tg 8 rfl hb14 cm7 (fun _ _ => xm) ?_
   rcases Bool.eq_false_or_eq_true (a.ck) with hb25 | hb25
   ·
    have cm8 := H13.mask [true, false, true, false, false, false, false, false]
    refine w_tg 9 rfl (neg_of (neg_of hb25)) cm8 (fun _ _ => xm) ?_
    refine w_tg 10 rfl (neg_of (neg_of hb25)) cm8 (fun _ _ => xn) ?_
    refine w_tg 11 rfl (neg_of (neg_of hb25)) cm8 (fun _ _ => xf (offR o + 4)) ?_
    refine w_tg 12 rfl (neg_of (neg_of hb25)) cm8 (fun _ H => x_load1 H 1 rfl rfl Tryz.underlying54 rfl rfl (rgC_o rfl rfl rfl)) ?_
    refine w_tg 13 rfl (neg_of (neg_of hb25)) cm8 (fun _ _ => xf 0) ?_
    refine w_tg 14 rfl (neg_of (neg_of hb25)) cm8 (fun _ _ => xf 0) ?_
    refine w_tg 15 rfl (neg_of (neg_of hb25)) cm8 (fun _ H => xl H 0) ?_
    refine a_one (i := 16) (by kernel_rfl) rfl ?_
    refine s_call0 H13 (wt1 rfl rfl rfl rfl (neg_of (neg_of hb25))) (x_call' rfl rfl cl24) (in_r a.al R.pa R.ca (a.wa.getD (j) Ch.none).p (by omega) _ (H13.rwReads (k := 3) rfl)) rfl rfl ?_
    intro wq26 H27
    have cm9 := H27.mask [true, false, true, false, false, false, false, false]
    refine a_k cm9 ?_
    refine w_tg (v := .bool (!((inB a.al (a.wa.getD (j) Ch.none).p)))) 17 rfl (neg_of (neg_of hb25)) cm9 (fun _ _ => x_not (b := (inB a.al (a.wa.getD (j) Ch.none).p)) rfl rfl) ?_
    refine w_tg (v := .bool (!((inB a.al (a.wa.getD (j) Ch.none).p)))) 18 rfl hb14 cm9 (fun _ _ => x_pick_t rfl rfl (neg_of (neg_of hb25)) rfl) ?_
    refine w_t (v := .bool (!((inB a.al (a.wa.getD (j) Ch.none).p)))) 19 rfl cm9 (fun _ _ => x_pick_f rfl rfl hb14 rfl) ?_
    refine a_done (by kernel_rfl) ?_
    refine g_then ?_
    rcases Bool.eq_false_or_eq_true ((inB a.al (a.wa.getD (j) Ch.none).p)) with hb28 | hb28
    ·
     refine g_cond_f rfl (neg_of hb28) ?_
     refine g_skip ?_
     refine g_in ?_
     refine g_then ?_
     refine g_region ?_
     refine w_b (v := .int .i64 ((j : Int) + 1)) (hb := (b_add (w64 (by omega)))) ?_
     refine w_m ?_
     refine w_e ?_
     have how31 : owesB a (a.wa.getD (j) Ch.none) = false := by unfold owesB openB; rw [hb14, hb25, hb28]; rfl
     have hos30 : (owedTo a (j + 1)) = (owedTo a j) := by rw [owed_next hjl, if_neg (by rw [how31]; exact Bool.false_ne_true)]
     have H29 : S wq26 [Rw 49 3 q (owedTo a (j + 1)).length d (chV (owedTo a (j + 1))), rgI rg c o R R2 a b, alR R a, rqI R a, alR R2 b, rqI R2 b, olR w rg c o R R2 a b] := by rw [hos30]; exact (H27.takes [1, 2, 3, 4, 5, 6, 7] (by decide))
     rw [← hos30]
     refine g_round (i := (j, q, d)) (j + 1, q, d) ?_ ?_ ?_
     · exact ⟨rfl, rfl, rfl, rfl, rfl, trivial⟩
     · exact ⟨by omega, H29⟩
     · (try dsimp only); omega
    ·
     refine g_cond_t rfl (neg_of hb28) ?_
     refine g_region ?_
     refine w_r2 ?_
     refine w_v (v := .agg #[.int .i64 ((a.wa.getD (j) Ch.none).p), .int .i64 ((a.wa.getD (j) Ch.none).b), .int .i64 ((a.wa.getD (j) Ch.none).n)]) (x_loadA H27 0 rfl rfl Tryz.underlying49 rfl sz49 rfl rfl rfl) ?_
     refine l_of (s_buildSlice H27 (wt0 rfl) rfl rfl rfl (vs := [.agg #[.int .i64 ((a.wa.getD (j) Ch.none).p), .int .i64 ((a.wa.getD (j) Ch.none).b), .int .i64 ((a.wa.getD (j) Ch.none).n)]]) rfl Tryz.underlying46 sz49 ze49 rfl rfl (cells := #[.int .i64 ((a.wa.getD (j) Ch.none).p), .int .i64 ((a.wa.getD (j) Ch.none).b), .int .i64 ((a.wa.getD (j) Ch.none).n)]) (by kernel_rfl) ?_)
     intro g32 wq33 H34
     refine l_of (s_appendR (n := (owedTo a j).length) (m := 1) (sc := d) (xs := (chV (owedTo a j))) (news := [.int .i64 ((a.wa.getD (j) Ch.none).p), .int .i64 ((a.wa.getD (j) Ch.none).b), .int .i64 ((a.wa.getD (j) Ch.none).n)]) (p := q) (ad := ⟨g32, 0, none⟩) H34 2 (wt0 rfl) rfl rfl rfl rfl rfl rfl Tryz.underlying46 inf49 rfl (by decide) (by decide) rfl (by decide) (news_ob H34 (j0 := 0) rfl) rfl (by omega) ?_)
     intro p35 c36 wq37 (H38 : S wq37 [Ob g32 (.cells #[.int .i64 ((a.wa.getD (j) Ch.none).p), .int .i64 ((a.wa.getD (j) Ch.none).b), .int .i64 ((a.wa.getD (j) Ch.none).n)] 49 (0, 0)), Ob g7 (.cells #[.int .i64 ((a.wa.getD (j) Ch.none).p), .int .i64 ((a.wa.getD (j) Ch.none).b), .int .i64 ((a.wa.getD (j) Ch.none).n), .bool (((a.go (a.wa.getD (j) Ch.none)).getD false))] 65 (0, 0)), Rw 49 3 p35 ((owedTo a j).length + 1) c36 ((chV (owedTo a j)) ++ [.int .i64 ((a.wa.getD (j) Ch.none).p), .int .i64 ((a.wa.getD (j) Ch.none).b), .int .i64 ((a.wa.getD (j) Ch.none).n)]), rgI rg c o R R2 a b, alR R a, rqI R a, alR R2 b, rqI R2 b, olR w rg c o R R2 a b])
     refine w_a ?_
     refine g_nil ?_
     refine g_in ?_
     refine g_then ?_
     refine g_weak [(5, .pointer (some ⟨rg, offR o, none⟩)), (6, .slice p35 ((owedTo a j).length + 1) c36), (15, .slice R.pw a.wa.length R.cw), (16, .int .i64 ((a.wa.length : Int))), (17, .int .i64 ((j : Int))), (24, .pointer (some ⟨rg, offR o, none⟩)), (25, .pointer (some ⟨rg, offR o, none⟩)), (26, .pointer (some ⟨rg, offR o + 1, none⟩)), (27, .bool (!(a.ck))), (28, .bool (!(!(a.ck)))), (29, .bool (!(!(a.ck)))), (30, .pointer (some ⟨rg, offR o, none⟩)), (31, .pointer (some ⟨rg, offR o, none⟩)), (32, .pointer (some ⟨rg, offR o + 4, none⟩)), (33, .slice R.pa a.al.length R.ca), (34, .pointer (some ⟨g7, 0, none⟩)), (35, .pointer (some ⟨g7, 0, none⟩)), (36, .int .i64 ((a.wa.getD (j) Ch.none).p)), (37, .bool ((inB a.al (a.wa.getD (j) Ch.none).p))), (38, .bool (!((inB a.al (a.wa.getD (j) Ch.none).p)))), (39, .bool (!((inB a.al (a.wa.getD (j) Ch.none).p))))] ⟨rfl, rfl, rfl, rfl, rfl, rfl, rfl, rfl, rfl, rfl, rfl, rfl, rfl, rfl, rfl, rfl, rfl, rfl, rfl, rfl, rfl, trivial⟩ ?_
     refine g_region ?_
     refine w_b (v := .int .i64 ((j : Int) + 1)) (hb := (b_add (w64 (by omega)))) ?_
     refine w_m ?_
     refine w_e ?_
     have how41 : owesB a (a.wa.getD (j) Ch.none) = true := by unfold owesB openB; rw [hb14, hb25, hb28]; rfl
     have hos40 : (owedTo a (j + 1)) = (owedTo a j) ++ [(a.wa.getD (j) Ch.none)] := by rw [owed_next hjl, if_pos how41]
     have H39 : S wq37 [Rw 49 3 p35 (owedTo a (j + 1)).length c36 (chV (owedTo a (j + 1))), rgI rg c o R R2 a b, alR R a, rqI R a, alR R2 b, rqI R2 b, olR w rg c o R R2 a b] := by rw [hos40, List.length_append, ask_cells]; exact (H38.takes [2, 3, 4, 5, 6, 7, 8] (by decide))
     rw [show (owedTo a j).length + 1 = (owedTo a (j + 1)).length from by rw [hos40, List.length_append]; rfl]
     refine g_round (i := (j, q, d)) (j + 1, p35, c36) ?_ ?_ ?_
     · exact ⟨rfl, rfl, rfl, rfl, rfl, trivial⟩
     · exact ⟨by omega, H39⟩
     · (try dsimp only); omega
   ·
    have cm10 := H13.mask [true, false, true, false, false, false, false, false]
    refine w_tn 9 rfl (neg_of (neg_of hb25)) cm10 ?_
    refine w_tn 10 rfl (neg_of (neg_of hb25)) cm10 ?_
    refine w_tn 11 rfl (neg_of (neg_of hb25)) cm10 ?_
    refine w_tn 12 rfl (neg_of (neg_of hb25)) cm10 ?_
    refine w_tn 13 rfl (neg_of (neg_of hb25)) cm10 ?_
    refine w_tn 14 rfl (neg_of (neg_of hb25)) cm10 ?_
    refine w_tn 15 rfl (neg_of (neg_of hb25)) cm10 ?_
    refine a_one (i := 16) (by kernel_rfl) rfl ?_
    refine s_not (wn1 rfl rfl rfl rfl (neg_of (neg_of hb25))) rfl rfl ?_
    refine a_k cm10 ?_
    refine w_tn 17 rfl (neg_of (neg_of hb25)) cm10 ?_
    refine w_tg (v := .bool false) 18 rfl hb14 cm10 (fun _ _ => x_pick_f rfl rfl (neg_of (neg_of hb25)) rfl) ?_
    refine w_t (v := .bool false) 19 rfl cm10 (fun _ _ => x_pick_f rfl rfl hb14 rfl) ?_
    refine a_done (by kernel_rfl) ?_
    refine g_then ?_
    refine g_cond_f rfl rfl ?_
    refine g_skip ?_
    refine g_in ?_
    refine g_then ?_
    refine g_region ?_
    refine w_b (v := .int .i64 ((j : Int) + 1)) (hb := (b_add (w64 (by omega)))) ?_
    refine w_m ?_
    refine w_e ?_
    have how44 : owesB a (a.wa.getD (j) Ch.none) = false := by unfold owesB openB; rw [hb14, hb25]; rfl
    have hos43 : (owedTo a (j + 1)) = (owedTo a j) := by rw [owed_next hjl, if_neg (by rw [how44]; exact Bool.false_ne_true)]
    have H42 : S wq12 [Rw 49 3 q (owedTo a (j + 1)).length d (chV (owedTo a (j + 1))), rgI rg c o R R2 a b, alR R a, rqI R a, alR R2 b, rqI R2 b, olR w rg c o R R2 a b] := by rw [hos43]; exact (H13.takes [1, 2, 3, 4, 5, 6, 7] (by decide))
    rw [← hos43]
    refine g_round (i := (j, q, d)) (j + 1, q, d) ?_ ?_ ?_
    · exact ⟨rfl, rfl, rfl, rfl, rfl, trivial⟩
    · exact ⟨by omega, H42⟩
    · (try dsimp only); omega
 ·
  refine g_cond_f rfl (decide_eq_false hb6) ?_
  refine g_exit ?_
  refine g_then_exit ?_
  refine g_then_exit ?_
  refine g_in_hit ?_
  refine g_then ?_
  refine w_s ?_
  refine w_r2 ?_
  refine w_e ?_
  refine g_ret ?_
  refine fin_ret [.tmp 4] [.slice q (owedTo a j).length d] rfl ⟨rfl, trivial⟩ ?_
  have hjj : j = a.wa.length := by omega
  subst hjj
  rw [← owed_all a]
  exact ⟨_, _, rfl, H5.takes [0, 1, 2, 3, 4, 5, 6] (by decide)⟩
set_option maxRecDepth 20000 in
set_option maxHeartbeats 4000000 in
theorem newR_s (n p l q : Int) (ft : Bool) (w : World) : Calls Tryz.prog 19 #[.int .i64 n, .int .i64 p, .int .i64 l, .int .i64 q, .bool ft] w fun e w' => (goodU n p l q ∧ ∃ (gq : Nat) (B0 B1 : RAd), e = .returned (.tuple #[.pointer (some ⟨gq, 0, none⟩), .int .i64 0]) ∧ S w' ([rgI gq (Co.mk n p l q ft) true B1 B0 (Wy.new n) (Wy.new n), alR B1 (Wy.new n), rqI B1 (Wy.new n), alR B0 (Wy.new n), rqI B0 (Wy.new n)] ++ [Old w no])) ∨ (¬ goodU n p l q ∧ e = .returned (.tuple #[.pointer none, .int .i64 7]) ∧ S w' [Old w no]) := by
 have H0 := S.old w
 refine enter 61 Tryz.func19 rfl rfl rfl ?_
 refine g_weak [(0, .int .i64 n), (1, .int .i64 p), (2, .int .i64 l), (3, .int .i64 q), (4, .bool ft)] ⟨rfl, rfl, rfl, rfl, rfl, trivial⟩ ?_
 refine w_s ?_
 refine w_r2 ?_
 refine w_e ?_
 refine g_seq ?_
 refine w_s ?_
 refine w_m ?_
 refine w_b ?_
 refine w_m ?_
 by_cases hb1 : (n : Int) < 1
 ·
  refine w_n (decide_eq_true hb1) ?_
  refine w_n (decide_eq_true hb1) ?_
  refine w_v (v := .bool true) (x_pick_t rfl rfl (decide_eq_true hb1) rfl) ?_
  refine w_m ?_
  refine w_n rfl ?_
  refine w_n rfl ?_
  refine w_v (v := .bool true) (x_pick_t rfl rfl rfl rfl) ?_
  refine w_m ?_
  refine w_n rfl ?_
  refine w_n rfl ?_
  refine w_v (v := .bool true) (x_pick_t rfl rfl rfl rfl) ?_
  refine w_m ?_
  refine w_n rfl ?_
  refine w_n rfl ?_
  refine w_v (v := .bool true) (x_pick_t rfl rfl rfl rfl) ?_
  refine w_m ?_
  refine w_n rfl ?_
  refine w_n rfl ?_
  refine w_n rfl ?_
  refine w_v (v := .bool true) (x_pick_t rfl rfl rfl rfl) ?_
  refine w_m ?_
  refine w_n rfl ?_
  refine w_n rfl ?_
  refine w_v (v := .bool true) (x_pick_t rfl rfl rfl rfl) ?_
  refine w_m ?_
  refine w_n rfl ?_
  refine w_n rfl ?_
  refine w_v (v := .bool true) (x_pick_t rfl rfl rfl rfl) ?_
  refine w_e ?_
  refine g_weak [(0, .int .i64 n), (1, .int .i64 p), (2, .int .i64 l), (3, .int .i64 q), (4, .bool ft), (44, .bool true)] ⟨rfl, rfl, rfl, rfl, rfl, rfl, trivial⟩ ?_
  refine g_cond_t rfl rfl ?_
  refine w_s ?_
  refine w_r2 ?_
  refine w_e ?_
  refine g_ret ?_
  refine g_then_ret ?_
  refine fin_ret [.tmp 10, .tmp 11] [.pointer none, .int .i64 7] rfl ⟨rfl, rfl, trivial⟩ ?_
  exact .inr ⟨by unfold goodU; omega, rfl, H0.mask [true]⟩
 ·
  refine w_g (decide_eq_false hb1) xm ?_
  refine w_g (decide_eq_false hb1) (x_bin rfl rfl rfl b_gtr) ?_
  refine w_v (v := .bool (decide ((4096 : Int) < n))) (x_pick_f rfl rfl (decide_eq_false hb1) rfl) ?_
  refine w_m ?_
  by_cases hb2 : (4096 : Int) < n
  ·
   refine w_n (decide_eq_true hb2) ?_
   refine w_n (decide_eq_true hb2) ?_
   refine w_v (v := .bool true) (x_pick_t rfl rfl (decide_eq_true hb2) rfl) ?_
   refine w_m ?_
   refine w_n rfl ?_
   refine w_n rfl ?_
   refine w_v (v := .bool true) (x_pick_t rfl rfl rfl rfl) ?_
   refine w_m ?_
   refine w_n rfl ?_
   refine w_n rfl ?_
   refine w_v (v := .bool true) (x_pick_t rfl rfl rfl rfl) ?_
   refine w_m ?_
   refine w_n rfl ?_
   refine w_n rfl ?_
   refine w_n rfl ?_
   refine w_v (v := .bool true) (x_pick_t rfl rfl rfl rfl) ?_
   refine w_m ?_
   refine w_n rfl ?_
   refine w_n rfl ?_
   refine w_v (v := .bool true) (x_pick_t rfl rfl rfl rfl) ?_
   refine w_m ?_
   refine w_n rfl ?_
   refine w_n rfl ?_
   refine w_v (v := .bool true) (x_pick_t rfl rfl rfl rfl) ?_
   refine w_e ?_
   refine g_weak [(0, .int .i64 n), (1, .int .i64 p), (2, .int .i64 l), (3, .int .i64 q), (4, .bool ft), (44, .bool true)] ⟨rfl, rfl, rfl, rfl, rfl, rfl, trivial⟩ ?_
   refine g_cond_t rfl rfl ?_
   refine w_s ?_
   refine w_r2 ?_
   refine w_e ?_
   refine g_ret ?_
   refine g_then_ret ?_
   refine fin_ret [.tmp 10, .tmp 11] [.pointer none, .int .i64 7] rfl ⟨rfl, rfl, trivial⟩ ?_
   exact .inr ⟨by unfold goodU; omega, rfl, H0.mask [true]⟩
  ·
   refine w_g (decide_eq_false hb2) xm ?_
   refine w_g (decide_eq_false hb2) (x_bin rfl rfl rfl b_lss) ?_
   refine w_v (v := .bool (decide ((p : Int) < 1))) (x_pick_f rfl rfl (decide_eq_false hb2) rfl) ?_
   refine w_m ?_
   by_cases hb3 : (p : Int) < 1
   ·
    refine w_n (decide_eq_true hb3) ?_
    refine w_n (decide_eq_true hb3) ?_
    refine w_v (v := .bool true) (x_pick_t rfl rfl (decide_eq_true hb3) rfl) ?_
    refine w_m ?_
    refine w_n rfl ?_
    refine w_n rfl ?_
    refine w_v (v := .bool true) (x_pick_t rfl rfl rfl rfl) ?_
    refine w_m ?_
    refine w_n rfl ?_
    refine w_n rfl ?_
    refine w_n rfl ?_
    refine w_v (v := .bool true) (x_pick_t rfl rfl rfl rfl) ?_
    refine w_m ?_
    refine w_n rfl ?_
    refine w_n rfl ?_
    refine w_v (v := .bool true) (x_pick_t rfl rfl rfl rfl) ?_
    refine w_m ?_
    refine w_n rfl ?_
    refine w_n rfl ?_
    refine w_v (v := .bool true) (x_pick_t rfl rfl rfl rfl) ?_
    refine w_e ?_
    refine g_weak [(0, .int .i64 n), (1, .int .i64 p), (2, .int .i64 l), (3, .int .i64 q), (4, .bool ft), (44, .bool true)] ⟨rfl, rfl, rfl, rfl, rfl, rfl, trivial⟩ ?_
    refine g_cond_t rfl rfl ?_
    refine w_s ?_
    refine w_r2 ?_
    refine w_e ?_
    refine g_ret ?_
    refine g_then_ret ?_
    refine fin_ret [.tmp 10, .tmp 11] [.pointer none, .int .i64 7] rfl ⟨rfl, rfl, trivial⟩ ?_
    exact .inr ⟨by unfold goodU; omega, rfl, H0.mask [true]⟩
   ·
    refine w_g (decide_eq_false hb3) xm ?_
    refine w_g (decide_eq_false hb3) (x_bin rfl rfl rfl b_gtr) ?_
    refine w_v (v := .bool (decide ((1024 : Int) < p))) (x_pick_f rfl rfl (decide_eq_false hb3) rfl) ?_
    refine w_m ?_
    by_cases hb4 : (1024 : Int) < p
    ·
     refine w_n (decide_eq_true hb4) ?_
     refine w_n (decide_eq_true hb4) ?_
     refine w_v (v := .bool true) (x_pick_t rfl rfl (decide_eq_true hb4) rfl) ?_
     refine w_m ?_
     refine w_n rfl ?_
     refine w_n rfl ?_
     refine w_n rfl ?_
     refine w_v (v := .bool true) (x_pick_t rfl rfl rfl rfl) ?_
     refine w_m ?_
     refine w_n rfl ?_
     refine w_n rfl ?_
     refine w_v (v := .bool true) (x_pick_t rfl rfl rfl rfl) ?_
     refine w_m ?_
     refine w_n rfl ?_
     refine w_n rfl ?_
     refine w_v (v := .bool true) (x_pick_t rfl rfl rfl rfl) ?_
     refine w_e ?_
     refine g_weak [(0, .int .i64 n), (1, .int .i64 p), (2, .int .i64 l), (3, .int .i64 q), (4, .bool ft), (44, .bool true)] ⟨rfl, rfl, rfl, rfl, rfl, rfl, trivial⟩ ?_
     refine g_cond_t rfl rfl ?_
     refine w_s ?_
     refine w_r2 ?_
     refine w_e ?_
     refine g_ret ?_
     refine g_then_ret ?_
     refine fin_ret [.tmp 10, .tmp 11] [.pointer none, .int .i64 7] rfl ⟨rfl, rfl, trivial⟩ ?_
     exact .inr ⟨by unfold goodU; omega, rfl, H0.mask [true]⟩
    ·
     refine w_g (decide_eq_false hb4) xm ?_
     refine w_g (decide_eq_false hb4) (x_bin rfl rfl rfl b_lss) ?_
     refine w_v (v := .bool (decide ((l : Int) < 1))) (x_pick_f rfl rfl (decide_eq_false hb4) rfl) ?_
     refine w_m ?_
     by_cases hb5 : (l : Int) < 1
     ·
      refine w_n (decide_eq_true hb5) ?_
      refine w_n (decide_eq_true hb5) ?_
      refine w_n (decide_eq_true hb5) ?_
      refine w_v (v := .bool true) (x_pick_t rfl rfl (decide_eq_true hb5) rfl) ?_
      refine w_m ?_
      refine w_n rfl ?_
      refine w_n rfl ?_
      refine w_v (v := .bool true) (x_pick_t rfl rfl rfl rfl) ?_
      refine w_m ?_
      refine w_n rfl ?_
      refine w_n rfl ?_
      refine w_v (v := .bool true) (x_pick_t rfl rfl rfl rfl) ?_
      refine w_e ?_
      refine g_weak [(0, .int .i64 n), (1, .int .i64 p), (2, .int .i64 l), (3, .int .i64 q), (4, .bool ft), (44, .bool true)] ⟨rfl, rfl, rfl, rfl, rfl, rfl, trivial⟩ ?_
      refine g_cond_t rfl rfl ?_
      refine w_s ?_
      refine w_r2 ?_
      refine w_e ?_
      refine g_ret ?_
      refine g_then_ret ?_
      refine fin_ret [.tmp 10, .tmp 11] [.pointer none, .int .i64 7] rfl ⟨rfl, rfl, trivial⟩ ?_
      exact .inr ⟨by unfold goodU; omega, rfl, H0.mask [true]⟩
     ·
      refine w_g (decide_eq_false hb5) xm ?_
      refine w_g (decide_eq_false hb5) xm ?_
      refine w_g (decide_eq_false hb5) (x_bin rfl rfl rfl b_gtr) ?_
      refine w_v (v := .bool (decide ((p : Int) < l))) (x_pick_f rfl rfl (decide_eq_false hb5) rfl) ?_
      refine w_m ?_
      by_cases hb6 : (p : Int) < l
      ·
       refine w_n (decide_eq_true hb6) ?_
       refine w_n (decide_eq_true hb6) ?_
       refine w_v (v := .bool true) (x_pick_t rfl rfl (decide_eq_true hb6) rfl) ?_
       refine w_m ?_
       refine w_n rfl ?_
       refine w_n rfl ?_
       refine w_v (v := .bool true) (x_pick_t rfl rfl rfl rfl) ?_
       refine w_e ?_
       refine g_weak [(0, .int .i64 n), (1, .int .i64 p), (2, .int .i64 l), (3, .int .i64 q), (4, .bool ft), (44, .bool true)] ⟨rfl, rfl, rfl, rfl, rfl, rfl, trivial⟩ ?_
       refine g_cond_t rfl rfl ?_
       refine w_s ?_
       refine w_r2 ?_
       refine w_e ?_
       refine g_ret ?_
       refine g_then_ret ?_
       refine fin_ret [.tmp 10, .tmp 11] [.pointer none, .int .i64 7] rfl ⟨rfl, rfl, trivial⟩ ?_
       exact .inr ⟨by unfold goodU; omega, rfl, H0.mask [true]⟩
      ·
       refine w_g (decide_eq_false hb6) xm ?_
       refine w_g (decide_eq_false hb6) (x_bin rfl rfl rfl b_lss) ?_
       refine w_v (v := .bool (decide ((q : Int) < 1))) (x_pick_f rfl rfl (decide_eq_false hb6) rfl) ?_
       refine w_m ?_
       by_cases hb7 : (q : Int) < 1
       ·
        refine w_n (decide_eq_true hb7) ?_
        refine w_n (decide_eq_true hb7) ?_
        refine w_v (v := .bool true) (x_pick_t rfl rfl (decide_eq_true hb7) rfl) ?_
        refine w_e ?_
        refine g_weak [(0, .int .i64 n), (1, .int .i64 p), (2, .int .i64 l), (3, .int .i64 q), (4, .bool ft), (44, .bool true)] ⟨rfl, rfl, rfl, rfl, rfl, rfl, trivial⟩ ?_
        refine g_cond_t rfl rfl ?_
        refine w_s ?_
        refine w_r2 ?_
        refine w_e ?_
        refine g_ret ?_
        refine g_then_ret ?_
        refine fin_ret [.tmp 10, .tmp 11] [.pointer none, .int .i64 7] rfl ⟨rfl, rfl, trivial⟩ ?_
        exact .inr ⟨by unfold goodU; omega, rfl, H0.mask [true]⟩
       ·
        refine w_g (decide_eq_false hb7) xm ?_
        refine w_g (decide_eq_false hb7) (x_bin rfl rfl rfl b_gtr) ?_
        refine w_v (v := .bool (decide ((1000 : Int) < q))) (x_pick_f rfl rfl (decide_eq_false hb7) rfl) ?_
        refine w_e ?_
        refine g_weak [(0, .int .i64 n), (1, .int .i64 p), (2, .int .i64 l), (3, .int .i64 q), (4, .bool ft), (44, .bool (decide ((1000 : Int) < q)))] ⟨rfl, rfl, rfl, rfl, rfl, rfl, trivial⟩ ?_
        by_cases hb8 : (1000 : Int) < q
        ·
         refine g_cond_t rfl (decide_eq_true hb8) ?_
         refine w_s ?_
         refine w_r2 ?_
         refine w_e ?_
         refine g_ret ?_
         refine g_then_ret ?_
         refine fin_ret [.tmp 10, .tmp 11] [.pointer none, .int .i64 7] rfl ⟨rfl, rfl, trivial⟩ ?_
         exact .inr ⟨by unfold goodU; omega, rfl, H0.mask [true]⟩
        ·
         refine g_cond_f rfl (decide_eq_false hb8) ?_
         refine g_skip ?_
         refine g_then ?_
         refine w_s ?_
         refine w_m ?_
         refine l_of (s_call0 H0 (wt0 rfl) (x_call' rfl rfl cl54) (newF_r n _) rfl rfl ?_)
         intro wq9 H10
         refine w_r5 ?_
         refine w_e ?_
         refine w_s ?_
         refine w_r6 ?_
         refine w_v (v := .agg #[.bool false, .bool false, .bool false, .string ((newS n).1), .slice none 0 0, .slice none 0 0]) (x_build (vs := [.string ((newS n).1)]) rfl rfl (cells := #[.bool false, .bool false, .bool false, .string ((newS n).1), .slice none 0 0, .slice none 0 0]) (by kernel_rfl)) ?_
         refine w_m ?_
         refine w_v (v := .agg #[.bool false, .bool false, .bool false, .string ((newS n).1), .slice none 0 0, .slice none 0 0]) (x_build (vs := [.string ((newS n).1)]) rfl rfl (cells := #[.bool false, .bool false, .bool false, .string ((newS n).1), .slice none 0 0, .slice none 0 0]) (by kernel_rfl)) ?_
         refine w_v (v := .agg #[.int .i64 n, .int .i64 p, .int .i64 l, .int .i64 q, .bool ft, .bool false, .bool false, .bool false, .string ((newS n).1), .slice none 0 0, .slice none 0 0, .bool false, .bool false, .bool false, .string ((newS n).1), .slice none 0 0, .slice none 0 0]) (x_build (vs := [.int .i64 n, .int .i64 p, .int .i64 l, .int .i64 q, .bool ft, .agg #[.bool false, .bool false, .bool false, .string ((newS n).1), .slice none 0 0, .slice none 0 0], .agg #[.bool false, .bool false, .bool false, .string ((newS n).1), .slice none 0 0, .slice none 0 0]]) rfl rfl (cells := #[.int .i64 n, .int .i64 p, .int .i64 l, .int .i64 q, .bool ft, .bool false, .bool false, .bool false, .string ((newS n).1), .slice none 0 0, .slice none 0 0, .bool false, .bool false, .bool false, .string ((newS n).1), .slice none 0 0, .slice none 0 0]) (by kernel_rfl)) ?_
         refine l_of (s_box H10 (wt0 rfl) rfl rfl rfl rfl ?_)
         intro g11 wq12 H13
         refine w_r2 ?_
         refine w_e ?_
         refine g_weak [(10, .pointer (some ⟨g11, 0, none⟩)), (11, .int .i64 0)] ⟨rfl, rfl, trivial⟩ ?_
         refine g_ret ?_
         refine fin_ret [.tmp 10, .tmp 11] [.pointer (some ⟨g11, 0, none⟩), .int .i64 0] rfl ⟨rfl, rfl, trivial⟩ ?_
         exact .inl ⟨by unfold goodU; omega, g11, ⟨none, 0, none, 0⟩, ⟨none, 0, none, 0⟩, rfl, ((((H13.nilRw 3 1).nilRw 65 4).nilRw 3 1).nilRw 65 4).takes [4, 1, 0, 3, 2, 5] (by decide)⟩
end Go.Proofs.YtdkfkdekiljcoaaGreat
