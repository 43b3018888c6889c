import Derived.Test.YtpbjekdjebjbkaaGreatLj
import Derived.Test.YtpbjekdjebjbkaaGreatGq
import Derived.Test.YtpbjekdjebjbkaaGreatGn
import Derived.Test.YtpbjekdjebjbkaaGreatGk
import Derived.Test.YtpbjekdjebjbkaaGreatFk
set_option linter.unusedSimpArgs false
set_option linter.unusedVariables false
namespace Go.Proofs.YtpbjekdjebjbkaaGreat
open Go.RowKit

/-! ## Trade: what lies in memory -/
/-- A player. -/
structure Pl where
  st : Int
  rt : Int
def plL (p : Pl) : List Value := [.int .i64 p.st, .int .i64 p.rt]
theorem plE : Enc 2 plL := ⟨by decide, fun _ => rfl, fun _ => rfl⟩
/-- A round in memory: what each gave to each. -/
abbrev Rd := Ro (Ro Int)
def Rd.v (r : Rd) : List (List Int) := r.l.map Ro.l
def BwI (b : Ro Int) : Item := Rw 3 1 b.p b.l.length b.c (fl intL b.l)
def RdI (r : Rd) : Item := Big [Rw 34 1 r.p r.l.length r.c (fl rowL r.l), Lst BwI r.l]
/-- The rounds that were played: they stay as they are, and games share them. -/
def Pool (pl : List Rd) : Item := Lst RdI pl
section
variable {w : World} {L : List Item} {pl : List Rd} {r : Rd} {k i : Nat} {x : Ro Int} {bs : List (Ro Int)}
theorem S.bwRd (h : S w L) (hk : L[k]? = some (Lst BwI bs)) (hx : bs[i]? = some x) : Reads w x.p x.l.length x.c 1 (fl intL x.l) := by
  have h1 : S w [BwI x] := h.lstAt hk hx
  exact h1.rwReads (k := 0) rfl
theorem S.poolRd (h : S w L) (hk : L[k]? = some (Pool pl)) (hr : r ∈ pl) : Reads w r.p r.l.length r.c 1 (fl rowL r.l) := by
  obtain ⟨j, hj⟩ := List.getElem?_of_mem hr
  have h1 : S w [RdI r] := h.lstAt hk hj
  have h2 := S.unbig (L := [_, _]) (B := []) h1
  exact h2.rwReads (k := 0) rfl
theorem S.poolRow (h : S w L) (hk : L[k]? = some (Pool pl)) (hr : r ∈ pl) (hx : r.l[i]? = some x) : Reads w x.p x.l.length x.c 1 (fl intL x.l) := by
  obtain ⟨j, hj⟩ := List.getElem?_of_mem hr
  have h1 : S w [RdI r] := h.lstAt hk hj
  have h2 := S.unbig (L := [_, _]) (B := []) h1
  exact h2.bwRd (k := 1) rfl hx
theorem S.poolAdd (h : S w (Rw 34 1 r.p r.l.length r.c (fl rowL r.l) :: Lst BwI r.l :: Pool pl :: L)) : S w (Pool (pl ++ [r]) :: L) :=
  S.lstSnoc (F := RdI) (S.big (L := [_, _]) h)
end
/-- A strategy: its number, and what a tyrant keeps. -/
structure Sp where
  k : Int
  P : Int → Option Int
  B : Int → Option Int
  C : Int → Option Bool
/-- A strategy in memory. -/
structure Sg where
  k : Int
  b : Nat
  pg : Nat
  bg : Nat
  cg : Option Nat
  P : Int → Option Int
  B : Int → Option Int
  C : Int → Option Bool
def Sg.sp (s : Sg) : Sp := ⟨s.k, s.P, s.B, s.C⟩
def Sg.ty (s : Sg) : TypeId := if s.k = 1 then 70 else if s.k = 2 then 71 else if s.k = 3 then 72 else if s.k = 4 then 73 else if s.k = 5 then 74 else if s.k = 6 then 75 else 80
def Sg.va (s : Sg) : Value := if s.k = 6 then .pointer (some ⟨s.b, 0, none⟩) else .agg #[]
def sgL (s : Sg) : List Value := [.iface s.ty s.va]
theorem sgE : Enc 1 sgL := ⟨by decide, fun _ => rfl, fun _ => rfl⟩
abbrev intMp (g : Nat) (M : Int → Option Int) : Item := Mp (Value.int .i64) (Value.int .i64) okI g M
abbrev boolMp (g : Nat) (M : Int → Option Bool) : Item := Mp (Value.int .i64) Value.bool okI g M
def ChI (cg : Option Nat) (C : Int → Option Bool) : Item := match cg with | some c => boolMp c C | none => Big []
def TyI (s : Sg) : Item := Big [Ob s.b (.cells #[.map (some s.pg), .map (some s.bg), .map s.cg] 79 (0, 0)), intMp s.pg s.P, intMp s.bg s.B, ChI s.cg s.C]
def SgI (s : Sg) : Item := if s.k = 6 then TyI s else Big []
/-- A game as it is. -/
structure GA where
  sd : ByteArray
  ps : List Pl
  ss : List Sp
  gv : List (List (List Int))
  got : List Int
  gave : List Int
  bw : List (List Int)
/-- A game in memory. -/
structure GM where
  g : Nat
  gp : Option Addr
  gc : Nat
  gs : List Rd
  sd : ByteArray
  pp : Option Addr
  pc : Nat
  ps : List Pl
  sp : Option Addr
  sc : Nat
  ss : List Sg
  tp : Option Addr
  tc : Nat
  got : List Int
  vp : Option Addr
  vc : Nat
  gave : List Int
  bp : Option Addr
  bc : Nat
  bs : List (Ro Int)
def GM.A (X : GM) : GA := ⟨X.sd, X.ps, X.ss.map Sg.sp, X.gs.map Rd.v, X.got, X.gave, X.bs.map Ro.l⟩
def GM.I (X : GM) : Item := Big [Ob X.g (.cells #[.slice X.gp X.gs.length X.gc, .string X.sd, .slice X.pp X.ps.length X.pc, .slice X.sp X.ss.length X.sc, .slice X.tp X.got.length X.tc, .slice X.vp X.gave.length X.vc, .slice X.bp X.bs.length X.bc] 52 (0, 0)),
  Rw 29 1 X.gp X.gs.length X.gc (fl rowL X.gs), Rw 33 2 X.pp X.ps.length X.pc (fl plL X.ps), Rw 54 1 X.sp X.ss.length X.sc (fl sgL X.ss), Rw 3 1 X.tp X.got.length X.tc (fl intL X.got), Rw 3 1 X.vp X.gave.length X.vc (fl intL X.gave), Rw 34 1 X.bp X.bs.length X.bc (fl rowL X.bs), Lst BwI X.bs, Lst SgI X.ss]

/-! ## What is told of rounds -/
/-- What one gave to another one in a round. -/
def at2 (r : List (List Int)) (a b : Int) : Int := (r.getD a.toNat []).getD b.toNat 0
/-- A round among n. -/
structure RdOK (n : Nat) (r : List (List Int)) : Prop where
  len : r.length = n
  row : ∀ x ∈ r, x.length = n
  pos : ∀ x ∈ r, ∀ y ∈ x, 0 ≤ y ∧ y ≤ 1000000
theorem RdOK.row_at {n : Nat} {r : Rd} (h : RdOK n r.v) {i : Nat} {x : Ro Int} (hx : r.l[i]? = some x) : x.l.length = n := h.row x.l (List.mem_map.2 ⟨x, List.mem_of_getElem? hx, rfl⟩)
theorem RdOK.lenR {n : Nat} {r : Rd} (h : RdOK n r.v) : r.l.length = n := by have := h.len; unfold Rd.v at this; rwa [List.length_map] at this
theorem RdOK.ent {n : Nat} {r : Rd} (h : RdOK n r.v) {i j : Nat} {x : Ro Int} {y : Int} (hx : r.l[i]? = some x) (hy : x.l[j]? = some y) : 0 ≤ y ∧ y ≤ 1000000 := h.pos x.l (List.mem_map.2 ⟨x, List.mem_of_getElem? hx, rfl⟩) y (List.mem_of_getElem? hy)
theorem at2_def (r : List (List Int)) (a b : Int) : at2 r a b = ((r[a.toNat]?.getD [])[b.toNat]?).getD 0 := by
  unfold at2
  rw [List.getD_eq_getElem?_getD, List.getD_eq_getElem?_getD]
theorem at2_is {r : Rd} {a b : Int} {x : Ro Int} {y : Int} (hx : r.l[a.toNat]? = some x) (hy : x.l[b.toNat]? = some y) : at2 r.v a b = y := by
  rw [at2_def]
  unfold Rd.v
  rw [List.getElem?_map, hx]
  show (x.l[b.toNat]?).getD 0 = y
  rw [hy]; rfl
theorem RdOK.at2 {n : Nat} {r : List (List Int)} (h : RdOK n r) (a b : Int) : 0 ≤ at2 r a b ∧ at2 r a b ≤ 1000000 := by
  rw [at2_def]
  cases hx : r[a.toNat]? with
  | none => simp
  | some x =>
    show 0 ≤ (x[b.toNat]?).getD 0 ∧ (x[b.toNat]?).getD 0 ≤ 1000000
    cases hy : x[b.toNat]? with
    | none => simp
    | some y => exact h.pos x (List.mem_of_getElem? hx) y (List.mem_of_getElem? hy)
/-- The rounds of a game lie in the pool. -/
structure GsOK (n : Nat) (pl gs : List Rd) : Prop where
  mem : ∀ r ∈ gs, r ∈ pl
  ok : ∀ r ∈ gs, RdOK n r.v
/-- What one gave to another one in the last round, 0 before any. -/
def lastV (G : List (List (List Int))) (a b : Int) : Int := match G.getLast? with | none => 0 | some r => at2 r a b
/-- Of two in a round: nothing came, though something was given. -/
def snb1 (me ot : Int) (r : List (List Int)) : Bool := !(decide (0 < at2 r ot me) || decide (at2 r me ot = 0))
def snubV (G : List (List (List Int))) (me ot : Int) : Bool := decide (3 ≤ G.length) && (G.reverse.take 3).all (snb1 me ot)
theorem rev_v (gs : List Rd) : (gs.map Rd.v).reverse = gs.reverse.map Rd.v := by rw [List.map_reverse]
theorem lastV_rev {gs : List Rd} {r : Rd} {a b : Int} (h : gs.reverse[0]? = some r) : lastV (gs.map Rd.v) a b = at2 r.v a b := by
  unfold lastV
  have e : (gs.map Rd.v).getLast? = some r.v := by
    rw [← List.head?_reverse, rev_v, List.head?_map]
    rw [List.head?_eq_getElem?, h]; rfl
  rw [e]
end Go.Proofs.YtpbjekdjebjbkaaGreat
namespace Go.Proofs.YtpbjekdjebjbkaaGreat
open Go.RowKit

theorem cl59 : callable Tryz.prog 59 = true := by kernel_rfl
theorem cl86 : callable Tryz.prog 86 = true := by kernel_rfl
theorem fo49_0 : foO Tryz.prog 49 0 = some 0 := by kernel_rfl
theorem sz29 : szO Tryz.prog 29 = some 1 := by kernel_rfl
def encB (z : Int × Rd) : Array Value := #[.int .i64 z.1, roV z.2]
def encG (r : Rd) : Array Value := #[roV r]
theorem rev_at {α : Type} {l : List α} {j i : Nat} {x : α} (h : l[j]? = some x) (hj : j + i + 1 = l.length) : l.reverse[i]? = some x := by
  rw [List.getElem?_reverse (by omega), show l.length - 1 - i = j by omega]; exact h
theorem take_snocT {α : Type} {l : List α} {k : Nat} {x : α} (h : l[k]? = some x) : l.take (k + 1) = l.take k ++ [x] := by rw [List.take_add_one, h]; rfl
theorem snd_step {α : Type} {l : List α} {pr : List (Int × α)} {m : Int} {x : α} (h : pr.map Prod.snd = l.take pr.length) (hx : l[pr.length]? = some x) : (pr ++ [(m, x)]).map Prod.snd = l.take (pr ++ [(m, x)]).length := by
  rw [List.map_append, h, List.length_append, List.length_singleton, take_snocT hx]; rfl
set_option maxRecDepth 20000 in
set_option maxHeartbeats 4000000 in
set_option maxRecDepth 20000 in
set_option maxHeartbeats 4000000 in
theorem backw_it {n0 b : Nat} {l : List Rd} {p : Option Addr} {n c : Nat} {Y : Item} (hn9 : n ≤ 1000) (hYr : ∀ w', S w' [Y] → Reads w' p n c 1 (fl rowL l)) :
  IterW n0 Tryz.prog 86 #[.pointer (some ⟨b, 0, none⟩)] encB (Big [Ob b (.cells #[.slice p n c] 47 (0, 0)), Y]) (fun pre z _ => l.reverse[pre.length]? = some z.2 ∧ z.1 = (l.length : Int) - 1 - pre.length ∧ 0 ≤ z.1) (fun _ _ => True) (fun xs => xs.map Prod.snd = l.reverse) (fun _ => True) (Big []) := by
 intro l1 J Jx W C0 hOk hY h0 HS
 have H0 : S W [Ob b (.cells #[.slice p n c] 47 (0, 0)), Y, C0] := (HS.takes [0, 2] (by decide)).unbig
 have hnl := (hYr _ (H0.takes [1] (by decide))).lenL rowE
 refine enter_ci 19 Tryz.func86 rfl rfl rfl ?_
 have hL : ¬ LetsOut (bodyPost Tryz.prog Tryz.f86 fun e W' => (∃ v, e = .returned v) ∧ ((∃ xs CC, (fun xs => xs.map Prod.snd = l.reverse) xs ∧ J xs CC ∧ S W' [Big [Ob b (.cells #[.slice p n c] 47 (0, 0)), Y], CC]) ∨ (∃ pre CC, True ∧ Jx pre CC ∧ S W' [Big [Ob b (.cells #[.slice p n c] 47 (0, 0)), Y], CC]))) := by
  rintro ⟨_, _, ⟨_, h⟩, _⟩
  cases h
 refine g_weak [(0, .func (.yield l1) #[] #[]), (1, .pointer (some ⟨b, 0, none⟩))] ⟨rfl, rfl, trivial⟩ ?_
 refine R.g_seq ?_
 refine R.g_region ?_
 refine R.l_of rfl (fun h => hL h) (s_val (v := .slice p n c) (wt0 rfl) rfl rfl (x_load1 H0 0 rfl rfl Tryz.underlying47 rfl rfl rfl) ?_)
 refine R.l_of rfl (fun h => hL h) (s_val (v := .int .i64 ((n : Int))) (wt0 rfl) rfl rfl (x_lenl rfl rfl Tryz.underlying47) ?_)
 refine R.l_of rfl (fun h => hL h) (s_val (v := .int .i64 ((n : Int) - 1)) (wt0 rfl) rfl rfl (x_bin rfl rfl rfl (b_sub (w64 (by omega)))) ?_)
 refine R.l_of rfl (fun h => hL h) (s_val (v := .int .i64 ((n : Int) - 1)) (wt0 rfl) rfl rfl (x_assign rfl rfl) ?_)
 refine R.g_nil ?_
 refine g_then ?_
 refine R.g_block ?_
 refine R.g_loop (ι := Nat × List (Int × Rd) × Item) (fun (k, pr, C) => [(0, .func (.yield l1) #[] #[]), (1, .pointer (some ⟨b, 0, none⟩)), (3, .int .i64 (((k : Int) - 1)))]) (fun (k, pr, C) wx => (k + pr.length = n) ∧ (pr.map Prod.snd = l.reverse.take pr.length) ∧ (J pr C) ∧ S wx [Ob b (.cells #[.slice p n c] 47 (0, 0)), Y, C]) (fun (k, pr, C) => k) (n, [], C0) ⟨rfl, rfl, rfl, trivial⟩ ⟨rfl, (by simp), h0, (H0.takes [0, 1, 2] (by decide))⟩ ?_
 rintro ⟨k, pr, C⟩ wq1 ⟨hk, hpm, hJ, H2⟩
 refine g_weak [(0, .func (.yield l1) #[] #[]), (1, .pointer (some ⟨b, 0, none⟩)), (3, .int .i64 (((k : Int) - 1)))] ⟨rfl, rfl, rfl, trivial⟩ ?_
 refine R.g_seq ?_
 refine R.g_seq ?_
 refine R.g_region ?_
 refine R.l_of rfl (fun h => hL h) (s_val (v := .int .i64 (((k : Int) - 1))) (wt0 rfl) rfl rfl (x_move rfl rfl) ?_)
 refine R.l_of rfl (fun h => hL h) (s_val (v := .bool (decide ((0 : Int) ≤ ((k : Int) - 1)))) (wt0 rfl) rfl rfl (x_bin rfl rfl rfl b_geq) ?_)
 refine R.g_nil ?_
 refine g_then ?_
 by_cases hb3 : (0 : Int) ≤ ((k : Int) - 1)
 ·
  refine R.g_cond_t rfl (decide_eq_true hb3) ?_
  refine R.g_skip ?_
  refine g_then ?_
  refine R.g_seq ?_
  refine R.g_block ?_
  refine R.g_seq ?_
  refine R.g_region ?_
  refine R.l_of rfl (fun h => hL h) (s_val (v := .func (.yield l1) #[] #[]) (wt0 rfl) rfl rfl (x_move rfl rfl) ?_)
  refine R.l_of rfl (fun h => hL h) (s_val (v := .int .i64 (((k : Int) - 1))) (wt0 rfl) rfl rfl (x_move rfl rfl) ?_)
  refine R.l_of rfl (fun h => hL h) (s_val (v := .slice p n c) (wt0 rfl) rfl rfl (x_load1 H2 0 rfl rfl Tryz.underlying47 rfl rfl rfl) ?_)
  refine R.l_of rfl (fun h => hL h) (s_val (v := .int .i64 (((k : Int) - 1))) (wt0 rfl) rfl rfl (x_move rfl rfl) ?_)
  refine R.l_of rfl (fun h => hL h) (s_val (v := .pointer ((p).map fun q => q.add (((((k : Int) - 1)).toNat) * 1))) (wt0 rfl) rfl rfl (x_idxR ((((k : Int) - 1)).toNat) ((hYr _ (H2.takes [1] (by decide)))) rfl rfl rfl Tryz.underlying47 sz29 (by omega)) ?_)
  have hlq := ((hYr _ (H2.takes [1] (by decide)))).lenL rowE
  obtain ⟨x4, hx4⟩ := ex_at (l := l) (j := ((((k : Int) - 1)).toNat)) (by omega)
  clear hlq
  refine R.l_of rfl (fun h => hL h) (s_val (v := .slice x4.p x4.l.length x4.c) (wt0 rfl) rfl rfl (x_loadR1 ((((k : Int) - 1)).toNat) ((hYr _ (H2.takes [1] (by decide)))) (by omega) rfl rfl Tryz.underlying29 rfl (rowE.flAt1 hx4 rfl)) ?_)
  have hrv : l.reverse[pr.length]? = some x4 := rev_at hx4 (by omega)
  have H5 : S wq1 [Big [Ob b (.cells #[.slice p n c] 47 (0, 0)), Y], Big [], C] := S.noI (S.big (L := [_, _]) (H2.takes [0, 1, 2] (by decide)))
  refine l_yield (wt0 rfl) rfl rfl rfl rfl rfl (hY pr (((k : Int) - 1), x4) wq1 _ C hJ ⟨hrv, by show (k : Int) - 1 = _; omega, by show 0 ≤ (k : Int) - 1; omega⟩ H5) ?_
  rintro _ wq6 (⟨rfl, C9, hJ9, hS2⟩ | ⟨rfl, C9, hJx, hS2⟩)
  ·
   refine ⟨_, rfl, ?_⟩
   have H7 : S wq6 [Ob b (.cells #[.slice p n c] 47 (0, 0)), Y, C9] := S.unbig (hS2.takes [0, 2] (by decide))
   refine R.l_of rfl (fun h => hL h) (s_val (v := .bool false) (wt0 rfl) rfl rfl (x_not (b := true) rfl rfl) ?_)
   refine R.g_nil ?_
   refine g_then ?_
   refine R.g_cond_f rfl rfl ?_
   refine R.g_skip ?_
   refine g_in ?_
   refine g_then ?_
   refine R.g_region ?_
   refine R.l_of rfl (fun h => hL h) (s_val (v := .int .i64 (((k : Int) - 1))) (wt0 rfl) rfl rfl (x_move rfl rfl) ?_)
   refine R.l_of rfl (fun h => hL h) (s_val (v := .int .i64 ((((k - 1 : Nat) : Int) - 1))) (wt0 rfl) rfl rfl (x_bin rfl rfl rfl (b_sub (by rw [w64 (by omega)]; omega))) ?_)
   refine R.l_of rfl (fun h => hL h) (s_val (v := .int .i64 ((((k - 1 : Nat) : Int) - 1))) (wt0 rfl) rfl rfl (x_assign rfl rfl) ?_)
   refine R.g_nil ?_
   refine g_then ?_
   refine g_round (i := (k, pr, C)) ((k - 1), (pr ++ [(((k : Int) - 1), x4)]), C9) ?_ ?_ ?_
   · exact ⟨rfl, rfl, rfl, trivial⟩
   · exact ⟨(by rw [List.length_append, List.length_singleton]; omega), (snd_step hpm hrv), hJ9, (H7.takes [0, 1, 2] (by decide))⟩
   · (try dsimp only); omega
  ·
   refine ⟨_, rfl, ?_⟩
   have H8 : S wq6 [Ob b (.cells #[.slice p n c] 47 (0, 0)), Y, C9] := S.unbig (hS2.takes [0, 2] (by decide))
   refine R.l_of rfl (fun h => hL h) (s_val (v := .bool true) (wt0 rfl) rfl rfl (x_not (b := false) rfl rfl) ?_)
   refine R.g_nil ?_
   refine g_then ?_
   refine R.g_cond_t rfl rfl ?_
   refine R.g_ret ?_
   refine g_in_ret ?_
   refine g_then_ret ?_
   refine g_then_ret ?_
   refine g_in_ret ?_
   refine fin_ret [] [] rfl trivial ?_
   exact ⟨⟨_, rfl⟩, .inr ⟨_, _, trivial, hJx, (S.big (L := [_, _]) (H8.takes [0, 1, 2] (by decide)))⟩⟩
 ·
  refine R.g_cond_f rfl (decide_eq_false hb3) ?_
  refine R.g_exit ?_
  refine g_then_exit ?_
  refine g_then_exit ?_
  refine g_in_hit ?_
  refine fin_end [] [] rfl trivial ?_
  rw [List.take_of_length_le (by rw [List.length_reverse]; omega)] at hpm
  exact ⟨⟨_, rfl⟩, .inl ⟨_, _, hpm, hJ, (S.big (L := [_, _]) (H2.takes [0, 1, 2] (by decide)))⟩⟩
set_option maxRecDepth 20000 in
set_option maxHeartbeats 4000000 in
set_option maxRecDepth 20000 in
set_option maxHeartbeats 4000000 in
theorem backw_s (p : Option Addr) (n c : Nat)  (w : World) : Calls Tryz.prog 59 #[.slice p n c] w fun e w' => ∃ b, e = .returned (.func (.func 86) #[] #[.pointer (some ⟨b, 0, none⟩)]) ∧ S w' ([Ob b (.cells #[.slice p n c] 47 (0, 0))] ++ [Old w no]) := by
 have H0 := S.old w
 refine enter 4 Tryz.func59 rfl rfl rfl ?_
 refine g_weak [(0, .slice p n c)] ⟨rfl, trivial⟩ ?_
 refine g_seq ?_
 refine g_region ?_
 refine l_of (s_box H0 (wt0 rfl) rfl rfl rfl rfl ?_)
 intro g1 wq2 H3
 refine l_of (s_val (v := .nilFunc) (wt0 rfl) rfl rfl (x_assign rfl rfl) ?_)
 refine g_nil ?_
 refine g_then ?_
 refine g_seq ?_
 refine g_region ?_
 refine l_of (s_val (v := .func (.func 86) #[] #[.pointer (some ⟨g1, 0, none⟩)]) (wt0 rfl) rfl rfl (x_makeFunc rfl rfl rfl) ?_)
 refine l_of (s_val (v := .func (.func 86) #[] #[.pointer (some ⟨g1, 0, none⟩)]) (wt0 rfl) rfl rfl (x_assign rfl rfl) ?_)
 refine g_nil ?_
 refine g_then ?_
 refine g_ret ?_
 refine fin_ret [.tmp 2] [.func (.func 86) #[] #[.pointer (some ⟨g1, 0, none⟩)]] rfl ⟨rfl, trivial⟩ ?_
 exact ⟨g1, rfl, H3⟩
theorem S.big2 {w : World} {A B : List Item} {c : Item} (h : S w (A ++ B ++ [c])) : S w [Big A, Big B, c] := by
  rw [List.append_assoc] at h
  have h1 : S w (Big A :: (B ++ [c])) := h.big
  have h2 : S w ((B ++ [c]) ++ [Big A]) := h1.perm (List.perm_append_comm (l₁ := [Big A]) (l₂ := B ++ [c]))
  rw [List.append_assoc] at h2
  have h3 : S w (Big B :: ([c] ++ [Big A])) := h2.big
  exact h3.takes [2, 0, 1] (by decide)
theorem S.unbig2 {w : World} {A B : List Item} {c : Item} (h : S w [Big A, Big B, c]) : S w (A ++ B ++ [c]) := by
  have h1 : S w (A ++ [Big B, c]) := h.unbig
  have h2 : S w (Big B :: (c :: A)) := (h1.perm (List.perm_append_comm (l₁ := A) (l₂ := [Big B, c])))
  have h3 : S w (B ++ (c :: A)) := h2.unbig
  refine h3.perm ?_
  rw [List.append_assoc]
  exact (List.perm_append_comm (l₁ := B) (l₂ := c :: A)).trans (List.perm_append_comm (l₁ := [c]) (l₂ := A ++ B) |>.symm.symm |> fun h => by
    have h4 : ((c :: A) ++ B).Perm ((A ++ B) ++ [c]) := List.perm_append_comm (l₁ := [c]) (l₂ := A ++ B)
    rw [List.append_assoc] at h4
    exact h4)
set_option maxRecDepth 20000 in
set_option maxHeartbeats 4000000 in
set_option maxRecDepth 20000 in
set_option maxHeartbeats 4000000 in
theorem rounds_it {n0 b : Nat} {l : List Rd} {p : Option Addr} {n c : Nat} {Y : Item} (hn1 : 1 ≤ n0) (hn9 : n ≤ 1000) (hYr : ∀ w', S w' [Y] → Reads w' p n c 1 (fl rowL l)) :
  IterW n0 Tryz.prog 58 #[.pointer (some ⟨b, 0, none⟩)] encG (Big [Ob b (.cells #[.slice p n c] 49 (0, 0)), Y]) (fun pre r _ => l.reverse[pre.length]? = some r) (fun _ _ => True) (fun xs => xs = l.reverse) (fun _ => True) (Big []) := by
 intro l1 J Jx W C0 hOk hY h0 HS
 have H0 : S W [Ob b (.cells #[.slice p n c] 49 (0, 0)), Y, C0] := (HS.takes [0, 2] (by decide)).unbig
 have hnl := (hYr _ (H0.takes [1] (by decide))).lenL rowE
 refine enter_cm 17 Tryz.func58 rfl rfl rfl ?_
 have hL : ¬ LetsOut (bodyPostM (WF none) n0 Tryz.prog Tryz.f58 fun e W' => (∃ v, e = .returned v) ∧ ((∃ xs CC, (fun xs => xs = l.reverse) xs ∧ J xs CC ∧ S W' [Big [Ob b (.cells #[.slice p n c] 49 (0, 0)), Y], CC]) ∨ (∃ pre CC, True ∧ Jx pre CC ∧ S W' [Big [Ob b (.cells #[.slice p n c] 49 (0, 0)), Y], CC]))) := by
  rintro ⟨_, _, h⟩
  simp only [bodyPostM, reduceCtorEq, false_and, and_false, exists_false, or_false, or_self, exists_const] at h
 refine g_weak [(0, .func (.yield l1) #[] #[]), (1, .pointer (some ⟨b, 0, none⟩))] ⟨rfl, rfl, trivial⟩ ?_
 refine R.g_seq ?_
 refine R.g_region ?_
 refine R.l_of rfl (fun h => hL h) (s_box H0 (wt0 rfl) rfl rfl rfl rfl ?_)
 intro g1 wq2 H3
 refine R.g_nil ?_
 refine g_then ?_
 refine R.g_seq ?_
 refine R.g_region ?_
 refine R.l_of rfl (fun h => hL h) (s_val (v := .pointer (some ⟨b, 0, none⟩)) (wt0 rfl) rfl rfl (x_fieldAddr rfl rfl fo49_0 rfl) ?_)
 refine R.l_of rfl (fun h => hL h) (s_val (v := .slice p n c) (wt0 rfl) rfl rfl (x_load1 H3 1 rfl rfl Tryz.underlying47 rfl rfl rfl) ?_)
 refine R.l_of rfl (fun h => hL h) (s_call (wt0 rfl) (x_call' rfl rfl cl59) (backw_s p n c _) ?_)
 rintro _ wq5 ⟨bk4, rfl, H6⟩
 replace H6 : S wq5 [Ob bk4 (.cells #[.slice p n c] 47 (0, 0)), Ob g1 (.cells #[.func (.yield l1) #[] #[]] 115 (0, 0)), Ob b (.cells #[.slice p n c] 49 (0, 0)), Y, C0] := H3.absorb (new := [Ob bk4 (.cells #[.slice p n c] 47 (0, 0))]) H6
 refine b_ret rfl rfl ?_
 refine R.g_nil ?_
 refine g_then ?_
 refine R.g_block ?_
 have H7 : S wq5 [(Big [Ob bk4 (.cells #[.slice p n c] 47 (0, 0)), Y]), Ob g1 (.cells #[.func (.yield l1) #[] #[]] 115 (0, 0)), Ob b (.cells #[.slice p n c] 49 (0, 0)), C0] := S.big (L := [Ob bk4 (.cells #[.slice p n c] 47 (0, 0)), Y]) (H6.takes [0, 3, 1, 2, 4] (by decide))
 have H8 := S.noI (H7.takes [0, 1, 2, 3] (by decide))
 refine g_rangeJ (α := Int × Rd) (ι := Unit) (encs := encB) (base := (Big [Ob bk4 (.cells #[.slice p n c] 47 (0, 0)), Y])) hn1 rfl cl86 (backw_it hn9 hYr) (fun _ => rfl) rfl (fun pre Lx => ∃ C, J (pre.map Prod.snd) C ∧ Lx = [Ob g1 (.cells #[.func (.yield l1) #[] #[]] 115 (0, 0)), Ob b (.cells #[.slice p n c] 49 (0, 0)), C]) (fun cc pre Lx => cc = .ret ∧ ∃ C, Jx (pre.map Prod.snd) C ∧ Lx = [Ob g1 (.cells #[.func (.yield l1) #[] #[]] 115 (0, 0)), Ob b (.cells #[.slice p n c] 49 (0, 0)), C]) (fun p ia => [(1, .pointer (some ⟨b, 0, none⟩)), (2, .pointer (some ⟨g1, 0, none⟩)), (3, .int .i64 (p.1))]) (fun p ia => []) (fun _ _ _ _ _ => trivial) ⟨_, h0, rfl⟩ H8 ?_ ?_ ?_ ?_
 ·
  rintro l2 p Ly W9 H10
  have hL : ¬ LetsOut (fun (_ : Exit) (_ : Act) (_ : World) => False) := fun ⟨_, _, h⟩ => h
  refine g_weak [(1, .pointer (some ⟨b, 0, none⟩)), (2, .pointer (some ⟨g1, 0, none⟩)), (7, .int .i64 (p.1))] ⟨rfl, rfl, rfl, trivial⟩ ?_
  refine R.g_region ?_
  refine R.l_of rfl (fun h => hL h) (s_val (v := .int .i64 (p.1)) (wt0 rfl) rfl rfl (x_assign rfl rfl) ?_)
  refine R.g_nil ?_
  refine g_then ?_
  exact rw_assign () ⟨rfl, rfl, rfl, trivial⟩ H10
 ·
  rintro l2 pr z ia II Kx _ W11 ⟨C, hJ, rfl⟩ ⟨hz1, hz2, hz3⟩ H12
  have H13 := S.unbig (H12.takes [3, 0, 1, 2, 4, 5, 6] (by decide))
  refine g_weak [(1, .pointer (some ⟨b, 0, none⟩)), (2, .pointer (some ⟨g1, 0, none⟩)), (3, .int .i64 (z.1))] ⟨rfl, rfl, rfl, trivial⟩ ?_
  have hzi : l[z.1.toNat]? = some z.2 := by rw [List.getElem?_reverse (by have := (List.getElem?_eq_some_iff.1 hz1).1; rwa [List.length_reverse] at this)] at hz1; rw [show z.1.toNat = l.length - 1 - pr.length by omega]; exact hz1
  refine R.g_block ?_
  refine R.g_seq ?_
  have H14 : S W11 [Ob bk4 (.cells #[.slice p n c] 47 (0, 0)), Y, II, Kx, Ob g1 (.cells #[.func (.yield l1) #[] #[]] 115 (0, 0)), Ob b (.cells #[.slice p n c] 49 (0, 0)), C] := S.unbig (H13.takes [0, 1, 2, 3, 4, 5] (by decide))
  refine r_enter (by kernel_rfl) H14 (fun wq15 H16 => ?_)
  refine r_three (i := 0) (j := 1) (k := 3) (by kernel_rfl) ?_ ?_ ?_
  ·
   refine r_of rfl rfl (fun ⟨_, _, h⟩ => h) ?_
   refine s_val (v := .func (.yield l1) #[] #[]) (wt0 rfl) rfl rfl (x_load1 H16 4 rfl rfl Tryz.underlying115 rfl rfl rfl) ?_
   refine r_two (i := 1) (j := 3) (by kernel_rfl) ?_ ?_
   ·
    refine r_of rfl rfl (fun ⟨_, _, h⟩ => h) ?_
    refine s_val (v := .pointer (some ⟨b, 0, none⟩)) (wt0 rfl) rfl rfl (x_fieldAddr rfl rfl fo49_0 rfl) ?_
    refine r_two (i := 2) (j := 3) (by kernel_rfl) ?_ ?_
    ·
     refine r_of rfl rfl (fun ⟨_, _, h⟩ => h) ?_
     refine s_val (v := .slice p n c) (wt0 rfl) rfl rfl (x_load1 H16 5 rfl rfl Tryz.underlying47 rfl rfl rfl) ?_
     refine r_one (i := 3) (by kernel_rfl) ?_
     refine r_of rfl rfl (fun ⟨_, _, h⟩ => h) ?_
     refine s_val (v := .int .i64 (z.1)) (wt0 rfl) rfl rfl (x_move rfl rfl) ?_
     refine r_one (i := 4) (by kernel_rfl) ?_
     refine r_of rfl rfl (fun ⟨_, _, h⟩ => h) ?_
     refine s_val (v := .pointer ((p).map fun q => q.add (((z.1).toNat) * 1))) (wt0 rfl) rfl rfl (x_idxR ((z.1).toNat) ((hYr _ (H16.takes [1] (by decide)))) rfl rfl rfl Tryz.underlying47 sz29 (by omega)) ?_
     refine r_one (i := 5) (by kernel_rfl) ?_
     refine r_of rfl rfl (fun ⟨_, _, h⟩ => h) ?_
     refine s_val (v := .slice z.2.p z.2.l.length z.2.c) (wt0 rfl) rfl rfl (x_loadR1 ((z.1).toNat) ((hYr _ (H16.takes [1] (by decide)))) (by omega) rfl rfl Tryz.underlying29 rfl (rowE.flAt1 hzi rfl)) ?_
     refine r_one (i := 6) (by kernel_rfl) ?_
     have H17 := S.big2 (A := [_, _]) (B := [_, _, _, _]) (H16.takes [5, 1, 0, 4, 2, 3, 6] (by decide))
     refine r_yield rfl (wt0 rfl) rfl rfl rfl rfl rfl (hY (pr.map Prod.snd) z.2 wq15 _ C hJ (by show l.reverse[(pr.map Prod.snd).length]? = _; rw [List.length_map]; exact hz1) H17) ?_
     rintro _ wq19 (⟨rfl, C9, hJ9, H18⟩ | ⟨rfl, C9, hJx9, H18⟩)
     ·
      refine ⟨_, rfl, ?_⟩
      have H20 := S.unbig2 (A := [_, _]) (B := [_, _, _, _]) H18
      refine r_one (i := 7) (by kernel_rfl) ?_
      refine r_of rfl rfl (fun ⟨_, _, h⟩ => h) ?_
      refine s_val (v := .bool false) (wt0 rfl) rfl rfl (x_not (b := true) rfl rfl) ?_
      refine r_done (by kernel_rfl) ?_
      refine g_then ?_
      refine R.g_cond_f rfl rfl ?_
      refine R.g_skip ?_
      refine g_in ?_
      have H21 := S.big (L := [_, _]) (H20.takes [2, 1, 0, 3, 4, 5, 6] (by decide))
      exact rj_next ⟨_, by rw [List.map_append]; exact hJ9, rfl⟩ (H21.takes [0, 3, 4, 2, 1, 5] (by decide))
     ·
      refine ⟨_, rfl, ?_⟩
      have H22 := S.unbig2 (A := [_, _]) (B := [_, _, _, _]) H18
      refine r_one (i := 7) (by kernel_rfl) ?_
      refine r_of rfl rfl (fun ⟨_, _, h⟩ => h) ?_
      refine s_val (v := .bool true) (wt0 rfl) rfl rfl (x_not (b := false) rfl rfl) ?_
      refine r_done (by kernel_rfl) ?_
      refine g_then ?_
      refine R.g_cond_t rfl rfl ?_
      refine R.g_ret ?_
      refine g_in_ret ?_
      have H23 := S.big (L := [_, _]) (H22.takes [2, 1, 0, 3, 4, 5, 6] (by decide))
      exact rj_ret ⟨rfl, _, by rw [List.map_append]; exact hJx9, rfl⟩ (H23.takes [0, 3, 4, 2, 1, 5] (by decide))
    ·
     refine r_of rfl rfl (fun ⟨_, _, h⟩ => h) ?_
     refine s_val (v := .int .i64 (z.1)) (wt0 rfl) rfl rfl (x_move rfl rfl) ?_
     refine r_one (i := 2) (by kernel_rfl) ?_
     refine r_of rfl rfl (fun ⟨_, _, h⟩ => h) ?_
     refine s_val (v := .slice p n c) (wt0 rfl) rfl rfl (x_load1 H16 5 rfl rfl Tryz.underlying47 rfl rfl rfl) ?_
     refine r_one (i := 4) (by kernel_rfl) ?_
     refine r_of rfl rfl (fun ⟨_, _, h⟩ => h) ?_
     refine s_val (v := .pointer ((p).map fun q => q.add (((z.1).toNat) * 1))) (wt0 rfl) rfl rfl (x_idxR ((z.1).toNat) ((hYr _ (H16.takes [1] (by decide)))) rfl rfl rfl Tryz.underlying47 sz29 (by omega)) ?_
     refine r_one (i := 5) (by kernel_rfl) ?_
     refine r_of rfl rfl (fun ⟨_, _, h⟩ => h) ?_
     refine s_val (v := .slice z.2.p z.2.l.length z.2.c) (wt0 rfl) rfl rfl (x_loadR1 ((z.1).toNat) ((hYr _ (H16.takes [1] (by decide)))) (by omega) rfl rfl Tryz.underlying29 rfl (rowE.flAt1 hzi rfl)) ?_
     refine r_one (i := 6) (by kernel_rfl) ?_
     have H24 := S.big2 (A := [_, _]) (B := [_, _, _, _]) (H16.takes [5, 1, 0, 4, 2, 3, 6] (by decide))
     refine r_yield rfl (wt0 rfl) rfl rfl rfl rfl rfl (hY (pr.map Prod.snd) z.2 wq15 _ C hJ (by show l.reverse[(pr.map Prod.snd).length]? = _; rw [List.length_map]; exact hz1) H24) ?_
     rintro _ wq26 (⟨rfl, C9, hJ9, H25⟩ | ⟨rfl, C9, hJx9, H25⟩)
     ·
      refine ⟨_, rfl, ?_⟩
      have H27 := S.unbig2 (A := [_, _]) (B := [_, _, _, _]) H25
      refine r_one (i := 7) (by kernel_rfl) ?_
      refine r_of rfl rfl (fun ⟨_, _, h⟩ => h) ?_
      refine s_val (v := .bool false) (wt0 rfl) rfl rfl (x_not (b := true) rfl rfl) ?_
      refine r_done (by kernel_rfl) ?_
      refine g_then ?_
      refine R.g_cond_f rfl rfl ?_
      refine R.g_skip ?_
      refine g_in ?_
      have H28 := S.big (L := [_, _]) (H27.takes [2, 1, 0, 3, 4, 5, 6] (by decide))
      exact rj_next ⟨_, by rw [List.map_append]; exact hJ9, rfl⟩ (H28.takes [0, 3, 4, 2, 1, 5] (by decide))
     ·
      refine ⟨_, rfl, ?_⟩
      have H29 := S.unbig2 (A := [_, _]) (B := [_, _, _, _]) H25
      refine r_one (i := 7) (by kernel_rfl) ?_
      refine r_of rfl rfl (fun ⟨_, _, h⟩ => h) ?_
      refine s_val (v := .bool true) (wt0 rfl) rfl rfl (x_not (b := false) rfl rfl) ?_
      refine r_done (by kernel_rfl) ?_
      refine g_then ?_
      refine R.g_cond_t rfl rfl ?_
      refine R.g_ret ?_
      refine g_in_ret ?_
      have H30 := S.big (L := [_, _]) (H29.takes [2, 1, 0, 3, 4, 5, 6] (by decide))
      exact rj_ret ⟨rfl, _, by rw [List.map_append]; exact hJx9, rfl⟩ (H30.takes [0, 3, 4, 2, 1, 5] (by decide))
   ·
    refine r_of rfl rfl (fun ⟨_, _, h⟩ => h) ?_
    refine s_val (v := .int .i64 (z.1)) (wt0 rfl) rfl rfl (x_move rfl rfl) ?_
    refine r_one (i := 1) (by kernel_rfl) ?_
    refine r_of rfl rfl (fun ⟨_, _, h⟩ => h) ?_
    refine s_val (v := .pointer (some ⟨b, 0, none⟩)) (wt0 rfl) rfl rfl (x_fieldAddr rfl rfl fo49_0 rfl) ?_
    refine r_one (i := 2) (by kernel_rfl) ?_
    refine r_of rfl rfl (fun ⟨_, _, h⟩ => h) ?_
    refine s_val (v := .slice p n c) (wt0 rfl) rfl rfl (x_load1 H16 5 rfl rfl Tryz.underlying47 rfl rfl rfl) ?_
    refine r_one (i := 4) (by kernel_rfl) ?_
    refine r_of rfl rfl (fun ⟨_, _, h⟩ => h) ?_
    refine s_val (v := .pointer ((p).map fun q => q.add (((z.1).toNat) * 1))) (wt0 rfl) rfl rfl (x_idxR ((z.1).toNat) ((hYr _ (H16.takes [1] (by decide)))) rfl rfl rfl Tryz.underlying47 sz29 (by omega)) ?_
    refine r_one (i := 5) (by kernel_rfl) ?_
    refine r_of rfl rfl (fun ⟨_, _, h⟩ => h) ?_
    refine s_val (v := .slice z.2.p z.2.l.length z.2.c) (wt0 rfl) rfl rfl (x_loadR1 ((z.1).toNat) ((hYr _ (H16.takes [1] (by decide)))) (by omega) rfl rfl Tryz.underlying29 rfl (rowE.flAt1 hzi rfl)) ?_
    refine r_one (i := 6) (by kernel_rfl) ?_
    have H31 := S.big2 (A := [_, _]) (B := [_, _, _, _]) (H16.takes [5, 1, 0, 4, 2, 3, 6] (by decide))
    refine r_yield rfl (wt0 rfl) rfl rfl rfl rfl rfl (hY (pr.map Prod.snd) z.2 wq15 _ C hJ (by show l.reverse[(pr.map Prod.snd).length]? = _; rw [List.length_map]; exact hz1) H31) ?_
    rintro _ wq33 (⟨rfl, C9, hJ9, H32⟩ | ⟨rfl, C9, hJx9, H32⟩)
    ·
     refine ⟨_, rfl, ?_⟩
     have H34 := S.unbig2 (A := [_, _]) (B := [_, _, _, _]) H32
     refine r_one (i := 7) (by kernel_rfl) ?_
     refine r_of rfl rfl (fun ⟨_, _, h⟩ => h) ?_
     refine s_val (v := .bool false) (wt0 rfl) rfl rfl (x_not (b := true) rfl rfl) ?_
     refine r_done (by kernel_rfl) ?_
     refine g_then ?_
     refine R.g_cond_f rfl rfl ?_
     refine R.g_skip ?_
     refine g_in ?_
     have H35 := S.big (L := [_, _]) (H34.takes [2, 1, 0, 3, 4, 5, 6] (by decide))
     exact rj_next ⟨_, by rw [List.map_append]; exact hJ9, rfl⟩ (H35.takes [0, 3, 4, 2, 1, 5] (by decide))
    ·
     refine ⟨_, rfl, ?_⟩
     have H36 := S.unbig2 (A := [_, _]) (B := [_, _, _, _]) H32
     refine r_one (i := 7) (by kernel_rfl) ?_
     refine r_of rfl rfl (fun ⟨_, _, h⟩ => h) ?_
     refine s_val (v := .bool true) (wt0 rfl) rfl rfl (x_not (b := false) rfl rfl) ?_
     refine r_done (by kernel_rfl) ?_
     refine g_then ?_
     refine R.g_cond_t rfl rfl ?_
     refine R.g_ret ?_
     refine g_in_ret ?_
     have H37 := S.big (L := [_, _]) (H36.takes [2, 1, 0, 3, 4, 5, 6] (by decide))
     exact rj_ret ⟨rfl, _, by rw [List.map_append]; exact hJx9, rfl⟩ (H37.takes [0, 3, 4, 2, 1, 5] (by decide))
  ·
   refine r_of rfl rfl (fun ⟨_, _, h⟩ => h) ?_
   refine s_val (v := .pointer (some ⟨b, 0, none⟩)) (wt0 rfl) rfl rfl (x_fieldAddr rfl rfl fo49_0 rfl) ?_
   refine r_three (i := 0) (j := 2) (k := 3) (by kernel_rfl) ?_ ?_ ?_
   ·
    refine r_of rfl rfl (fun ⟨_, _, h⟩ => h) ?_
    refine s_val (v := .func (.yield l1) #[] #[]) (wt0 rfl) rfl rfl (x_load1 H16 4 rfl rfl Tryz.underlying115 rfl rfl rfl) ?_
    refine r_two (i := 2) (j := 3) (by kernel_rfl) ?_ ?_
    ·
     refine r_of rfl rfl (fun ⟨_, _, h⟩ => h) ?_
     refine s_val (v := .slice p n c) (wt0 rfl) rfl rfl (x_load1 H16 5 rfl rfl Tryz.underlying47 rfl rfl rfl) ?_
     refine r_one (i := 3) (by kernel_rfl) ?_
     refine r_of rfl rfl (fun ⟨_, _, h⟩ => h) ?_
     refine s_val (v := .int .i64 (z.1)) (wt0 rfl) rfl rfl (x_move rfl rfl) ?_
     refine r_one (i := 4) (by kernel_rfl) ?_
     refine r_of rfl rfl (fun ⟨_, _, h⟩ => h) ?_
     refine s_val (v := .pointer ((p).map fun q => q.add (((z.1).toNat) * 1))) (wt0 rfl) rfl rfl (x_idxR ((z.1).toNat) ((hYr _ (H16.takes [1] (by decide)))) rfl rfl rfl Tryz.underlying47 sz29 (by omega)) ?_
     refine r_one (i := 5) (by kernel_rfl) ?_
     refine r_of rfl rfl (fun ⟨_, _, h⟩ => h) ?_
     refine s_val (v := .slice z.2.p z.2.l.length z.2.c) (wt0 rfl) rfl rfl (x_loadR1 ((z.1).toNat) ((hYr _ (H16.takes [1] (by decide)))) (by omega) rfl rfl Tryz.underlying29 rfl (rowE.flAt1 hzi rfl)) ?_
     refine r_one (i := 6) (by kernel_rfl) ?_
     have H38 := S.big2 (A := [_, _]) (B := [_, _, _, _]) (H16.takes [5, 1, 0, 4, 2, 3, 6] (by decide))
     refine r_yield rfl (wt0 rfl) rfl rfl rfl rfl rfl (hY (pr.map Prod.snd) z.2 wq15 _ C hJ (by show l.reverse[(pr.map Prod.snd).length]? = _; rw [List.length_map]; exact hz1) H38) ?_
     rintro _ wq40 (⟨rfl, C9, hJ9, H39⟩ | ⟨rfl, C9, hJx9, H39⟩)
     ·
      refine ⟨_, rfl, ?_⟩
      have H41 := S.unbig2 (A := [_, _]) (B := [_, _, _, _]) H39
      refine r_one (i := 7) (by kernel_rfl) ?_
      refine r_of rfl rfl (fun ⟨_, _, h⟩ => h) ?_
      refine s_val (v := .bool false) (wt0 rfl) rfl rfl (x_not (b := true) rfl rfl) ?_
      refine r_done (by kernel_rfl) ?_
      refine g_then ?_
      refine R.g_cond_f rfl rfl ?_
      refine R.g_skip ?_
      refine g_in ?_
      have H42 := S.big (L := [_, _]) (H41.takes [2, 1, 0, 3, 4, 5, 6] (by decide))
      exact rj_next ⟨_, by rw [List.map_append]; exact hJ9, rfl⟩ (H42.takes [0, 3, 4, 2, 1, 5] (by decide))
     ·
      refine ⟨_, rfl, ?_⟩
      have H43 := S.unbig2 (A := [_, _]) (B := [_, _, _, _]) H39
      refine r_one (i := 7) (by kernel_rfl) ?_
      refine r_of rfl rfl (fun ⟨_, _, h⟩ => h) ?_
      refine s_val (v := .bool true) (wt0 rfl) rfl rfl (x_not (b := false) rfl rfl) ?_
      refine r_done (by kernel_rfl) ?_
      refine g_then ?_
      refine R.g_cond_t rfl rfl ?_
      refine R.g_ret ?_
      refine g_in_ret ?_
      have H44 := S.big (L := [_, _]) (H43.takes [2, 1, 0, 3, 4, 5, 6] (by decide))
      exact rj_ret ⟨rfl, _, by rw [List.map_append]; exact hJx9, rfl⟩ (H44.takes [0, 3, 4, 2, 1, 5] (by decide))
    ·
     refine r_of rfl rfl (fun ⟨_, _, h⟩ => h) ?_
     refine s_val (v := .int .i64 (z.1)) (wt0 rfl) rfl rfl (x_move rfl rfl) ?_
     refine r_one (i := 2) (by kernel_rfl) ?_
     refine r_of rfl rfl (fun ⟨_, _, h⟩ => h) ?_
     refine s_val (v := .slice p n c) (wt0 rfl) rfl rfl (x_load1 H16 5 rfl rfl Tryz.underlying47 rfl rfl rfl) ?_
     refine r_one (i := 4) (by kernel_rfl) ?_
     refine r_of rfl rfl (fun ⟨_, _, h⟩ => h) ?_
     refine s_val (v := .pointer ((p).map fun q => q.add (((z.1).toNat) * 1))) (wt0 rfl) rfl rfl (x_idxR ((z.1).toNat) ((hYr _ (H16.takes [1] (by decide)))) rfl rfl rfl Tryz.underlying47 sz29 (by omega)) ?_
     refine r_one (i := 5) (by kernel_rfl) ?_
     refine r_of rfl rfl (fun ⟨_, _, h⟩ => h) ?_
     refine s_val (v := .slice z.2.p z.2.l.length z.2.c) (wt0 rfl) rfl rfl (x_loadR1 ((z.1).toNat) ((hYr _ (H16.takes [1] (by decide)))) (by omega) rfl rfl Tryz.underlying29 rfl (rowE.flAt1 hzi rfl)) ?_
     refine r_one (i := 6) (by kernel_rfl) ?_
     have H45 := S.big2 (A := [_, _]) (B := [_, _, _, _]) (H16.takes [5, 1, 0, 4, 2, 3, 6] (by decide))
     refine r_yield rfl (wt0 rfl) rfl rfl rfl rfl rfl (hY (pr.map Prod.snd) z.2 wq15 _ C hJ (by show l.reverse[(pr.map Prod.snd).length]? = _; rw [List.length_map]; exact hz1) H45) ?_
     rintro _ wq47 (⟨rfl, C9, hJ9, H46⟩ | ⟨rfl, C9, hJx9, H46⟩)
     ·
      refine ⟨_, rfl, ?_⟩
      have H48 := S.unbig2 (A := [_, _]) (B := [_, _, _, _]) H46
      refine r_one (i := 7) (by kernel_rfl) ?_
      refine r_of rfl rfl (fun ⟨_, _, h⟩ => h) ?_
      refine s_val (v := .bool false) (wt0 rfl) rfl rfl (x_not (b := true) rfl rfl) ?_
      refine r_done (by kernel_rfl) ?_
      refine g_then ?_
      refine R.g_cond_f rfl rfl ?_
      refine R.g_skip ?_
      refine g_in ?_
      have H49 := S.big (L := [_, _]) (H48.takes [2, 1, 0, 3, 4, 5, 6] (by decide))
      exact rj_next ⟨_, by rw [List.map_append]; exact hJ9, rfl⟩ (H49.takes [0, 3, 4, 2, 1, 5] (by decide))
     ·
      refine ⟨_, rfl, ?_⟩
      have H50 := S.unbig2 (A := [_, _]) (B := [_, _, _, _]) H46
      refine r_one (i := 7) (by kernel_rfl) ?_
      refine r_of rfl rfl (fun ⟨_, _, h⟩ => h) ?_
      refine s_val (v := .bool true) (wt0 rfl) rfl rfl (x_not (b := false) rfl rfl) ?_
      refine r_done (by kernel_rfl) ?_
      refine g_then ?_
      refine R.g_cond_t rfl rfl ?_
      refine R.g_ret ?_
      refine g_in_ret ?_
      have H51 := S.big (L := [_, _]) (H50.takes [2, 1, 0, 3, 4, 5, 6] (by decide))
      exact rj_ret ⟨rfl, _, by rw [List.map_append]; exact hJx9, rfl⟩ (H51.takes [0, 3, 4, 2, 1, 5] (by decide))
   ·
    refine r_of rfl rfl (fun ⟨_, _, h⟩ => h) ?_
    refine s_val (v := .slice p n c) (wt0 rfl) rfl rfl (x_load1 H16 5 rfl rfl Tryz.underlying47 rfl rfl rfl) ?_
    refine r_two (i := 0) (j := 3) (by kernel_rfl) ?_ ?_
    ·
     refine r_of rfl rfl (fun ⟨_, _, h⟩ => h) ?_
     refine s_val (v := .func (.yield l1) #[] #[]) (wt0 rfl) rfl rfl (x_load1 H16 4 rfl rfl Tryz.underlying115 rfl rfl rfl) ?_
     refine r_one (i := 3) (by kernel_rfl) ?_
     refine r_of rfl rfl (fun ⟨_, _, h⟩ => h) ?_
     refine s_val (v := .int .i64 (z.1)) (wt0 rfl) rfl rfl (x_move rfl rfl) ?_
     refine r_one (i := 4) (by kernel_rfl) ?_
     refine r_of rfl rfl (fun ⟨_, _, h⟩ => h) ?_
     refine s_val (v := .pointer ((p).map fun q => q.add (((z.1).toNat) * 1))) (wt0 rfl) rfl rfl (x_idxR ((z.1).toNat) ((hYr _ (H16.takes [1] (by decide)))) rfl rfl rfl Tryz.underlying47 sz29 (by omega)) ?_
     refine r_one (i := 5) (by kernel_rfl) ?_
     refine r_of rfl rfl (fun ⟨_, _, h⟩ => h) ?_
     refine s_val (v := .slice z.2.p z.2.l.length z.2.c) (wt0 rfl) rfl rfl (x_loadR1 ((z.1).toNat) ((hYr _ (H16.takes [1] (by decide)))) (by omega) rfl rfl Tryz.underlying29 rfl (rowE.flAt1 hzi rfl)) ?_
     refine r_one (i := 6) (by kernel_rfl) ?_
     have H52 := S.big2 (A := [_, _]) (B := [_, _, _, _]) (H16.takes [5, 1, 0, 4, 2, 3, 6] (by decide))
     refine r_yield rfl (wt0 rfl) rfl rfl rfl rfl rfl (hY (pr.map Prod.snd) z.2 wq15 _ C hJ (by show l.reverse[(pr.map Prod.snd).length]? = _; rw [List.length_map]; exact hz1) H52) ?_
     rintro _ wq54 (⟨rfl, C9, hJ9, H53⟩ | ⟨rfl, C9, hJx9, H53⟩)
     ·
      refine ⟨_, rfl, ?_⟩
      have H55 := S.unbig2 (A := [_, _]) (B := [_, _, _, _]) H53
      refine r_one (i := 7) (by kernel_rfl) ?_
      refine r_of rfl rfl (fun ⟨_, _, h⟩ => h) ?_
      refine s_val (v := .bool false) (wt0 rfl) rfl rfl (x_not (b := true) rfl rfl) ?_
      refine r_done (by kernel_rfl) ?_
      refine g_then ?_
      refine R.g_cond_f rfl rfl ?_
      refine R.g_skip ?_
      refine g_in ?_
      have H56 := S.big (L := [_, _]) (H55.takes [2, 1, 0, 3, 4, 5, 6] (by decide))
      exact rj_next ⟨_, by rw [List.map_append]; exact hJ9, rfl⟩ (H56.takes [0, 3, 4, 2, 1, 5] (by decide))
     ·
      refine ⟨_, rfl, ?_⟩
      have H57 := S.unbig2 (A := [_, _]) (B := [_, _, _, _]) H53
      refine r_one (i := 7) (by kernel_rfl) ?_
      refine r_of rfl rfl (fun ⟨_, _, h⟩ => h) ?_
      refine s_val (v := .bool true) (wt0 rfl) rfl rfl (x_not (b := false) rfl rfl) ?_
      refine r_done (by kernel_rfl) ?_
      refine g_then ?_
      refine R.g_cond_t rfl rfl ?_
      refine R.g_ret ?_
      refine g_in_ret ?_
      have H58 := S.big (L := [_, _]) (H57.takes [2, 1, 0, 3, 4, 5, 6] (by decide))
      exact rj_ret ⟨rfl, _, by rw [List.map_append]; exact hJx9, rfl⟩ (H58.takes [0, 3, 4, 2, 1, 5] (by decide))
    ·
     refine r_of rfl rfl (fun ⟨_, _, h⟩ => h) ?_
     refine s_val (v := .int .i64 (z.1)) (wt0 rfl) rfl rfl (x_move rfl rfl) ?_
     refine r_two (i := 0) (j := 4) (by kernel_rfl) ?_ ?_
     ·
      refine r_of rfl rfl (fun ⟨_, _, h⟩ => h) ?_
      refine s_val (v := .func (.yield l1) #[] #[]) (wt0 rfl) rfl rfl (x_load1 H16 4 rfl rfl Tryz.underlying115 rfl rfl rfl) ?_
      refine r_one (i := 4) (by kernel_rfl) ?_
      refine r_of rfl rfl (fun ⟨_, _, h⟩ => h) ?_
      refine s_val (v := .pointer ((p).map fun q => q.add (((z.1).toNat) * 1))) (wt0 rfl) rfl rfl (x_idxR ((z.1).toNat) ((hYr _ (H16.takes [1] (by decide)))) rfl rfl rfl Tryz.underlying47 sz29 (by omega)) ?_
      refine r_one (i := 5) (by kernel_rfl) ?_
      refine r_of rfl rfl (fun ⟨_, _, h⟩ => h) ?_
      refine s_val (v := .slice z.2.p z.2.l.length z.2.c) (wt0 rfl) rfl rfl (x_loadR1 ((z.1).toNat) ((hYr _ (H16.takes [1] (by decide)))) (by omega) rfl rfl Tryz.underlying29 rfl (rowE.flAt1 hzi rfl)) ?_
      refine r_one (i := 6) (by kernel_rfl) ?_
      have H59 := S.big2 (A := [_, _]) (B := [_, _, _, _]) (H16.takes [5, 1, 0, 4, 2, 3, 6] (by decide))
      refine r_yield rfl (wt0 rfl) rfl rfl rfl rfl rfl (hY (pr.map Prod.snd) z.2 wq15 _ C hJ (by show l.reverse[(pr.map Prod.snd).length]? = _; rw [List.length_map]; exact hz1) H59) ?_
      rintro _ wq61 (⟨rfl, C9, hJ9, H60⟩ | ⟨rfl, C9, hJx9, H60⟩)
      ·
       refine ⟨_, rfl, ?_⟩
       have H62 := S.unbig2 (A := [_, _]) (B := [_, _, _, _]) H60
       refine r_one (i := 7) (by kernel_rfl) ?_
       refine r_of rfl rfl (fun ⟨_, _, h⟩ => h) ?_
       refine s_val (v := .bool false) (wt0 rfl) rfl rfl (x_not (b := true) rfl rfl) ?_
       refine r_done (by kernel_rfl) ?_
       refine g_then ?_
       refine R.g_cond_f rfl rfl ?_
       refine R.g_skip ?_
       refine g_in ?_
       have H63 := S.big (L := [_, _]) (H62.takes [2, 1, 0, 3, 4, 5, 6] (by decide))
       exact rj_next ⟨_, by rw [List.map_append]; exact hJ9, rfl⟩ (H63.takes [0, 3, 4, 2, 1, 5] (by decide))
      ·
       refine ⟨_, rfl, ?_⟩
       have H64 := S.unbig2 (A := [_, _]) (B := [_, _, _, _]) H60
       refine r_one (i := 7) (by kernel_rfl) ?_
       refine r_of rfl rfl (fun ⟨_, _, h⟩ => h) ?_
       refine s_val (v := .bool true) (wt0 rfl) rfl rfl (x_not (b := false) rfl rfl) ?_
       refine r_done (by kernel_rfl) ?_
       refine g_then ?_
       refine R.g_cond_t rfl rfl ?_
       refine R.g_ret ?_
       refine g_in_ret ?_
       have H65 := S.big (L := [_, _]) (H64.takes [2, 1, 0, 3, 4, 5, 6] (by decide))
       exact rj_ret ⟨rfl, _, by rw [List.map_append]; exact hJx9, rfl⟩ (H65.takes [0, 3, 4, 2, 1, 5] (by decide))
     ·
      refine r_of rfl rfl (fun ⟨_, _, h⟩ => h) ?_
      refine s_val (v := .pointer ((p).map fun q => q.add (((z.1).toNat) * 1))) (wt0 rfl) rfl rfl (x_idxR ((z.1).toNat) ((hYr _ (H16.takes [1] (by decide)))) rfl rfl rfl Tryz.underlying47 sz29 (by omega)) ?_
      refine r_two (i := 0) (j := 5) (by kernel_rfl) ?_ ?_
      ·
       refine r_of rfl rfl (fun ⟨_, _, h⟩ => h) ?_
       refine s_val (v := .func (.yield l1) #[] #[]) (wt0 rfl) rfl rfl (x_load1 H16 4 rfl rfl Tryz.underlying115 rfl rfl rfl) ?_
       refine r_one (i := 5) (by kernel_rfl) ?_
       refine r_of rfl rfl (fun ⟨_, _, h⟩ => h) ?_
       refine s_val (v := .slice z.2.p z.2.l.length z.2.c) (wt0 rfl) rfl rfl (x_loadR1 ((z.1).toNat) ((hYr _ (H16.takes [1] (by decide)))) (by omega) rfl rfl Tryz.underlying29 rfl (rowE.flAt1 hzi rfl)) ?_
       refine r_one (i := 6) (by kernel_rfl) ?_
       have H66 := S.big2 (A := [_, _]) (B := [_, _, _, _]) (H16.takes [5, 1, 0, 4, 2, 3, 6] (by decide))
       refine r_yield rfl (wt0 rfl) rfl rfl rfl rfl rfl (hY (pr.map Prod.snd) z.2 wq15 _ C hJ (by show l.reverse[(pr.map Prod.snd).length]? = _; rw [List.length_map]; exact hz1) H66) ?_
       rintro _ wq68 (⟨rfl, C9, hJ9, H67⟩ | ⟨rfl, C9, hJx9, H67⟩)
       ·
        refine ⟨_, rfl, ?_⟩
        have H69 := S.unbig2 (A := [_, _]) (B := [_, _, _, _]) H67
        refine r_one (i := 7) (by kernel_rfl) ?_
        refine r_of rfl rfl (fun ⟨_, _, h⟩ => h) ?_
        refine s_val (v := .bool false) (wt0 rfl) rfl rfl (x_not (b := true) rfl rfl) ?_
        refine r_done (by kernel_rfl) ?_
        refine g_then ?_
        refine R.g_cond_f rfl rfl ?_
        refine R.g_skip ?_
        refine g_in ?_
        have H70 := S.big (L := [_, _]) (H69.takes [2, 1, 0, 3, 4, 5, 6] (by decide))
        exact rj_next ⟨_, by rw [List.map_append]; exact hJ9, rfl⟩ (H70.takes [0, 3, 4, 2, 1, 5] (by decide))
       ·
        refine ⟨_, rfl, ?_⟩
        have H71 := S.unbig2 (A := [_, _]) (B := [_, _, _, _]) H67
        refine r_one (i := 7) (by kernel_rfl) ?_
        refine r_of rfl rfl (fun ⟨_, _, h⟩ => h) ?_
        refine s_val (v := .bool true) (wt0 rfl) rfl rfl (x_not (b := false) rfl rfl) ?_
        refine r_done (by kernel_rfl) ?_
        refine g_then ?_
        refine R.g_cond_t rfl rfl ?_
        refine R.g_ret ?_
        refine g_in_ret ?_
        have H72 := S.big (L := [_, _]) (H71.takes [2, 1, 0, 3, 4, 5, 6] (by decide))
        exact rj_ret ⟨rfl, _, by rw [List.map_append]; exact hJx9, rfl⟩ (H72.takes [0, 3, 4, 2, 1, 5] (by decide))
      ·
       refine r_of rfl rfl (fun ⟨_, _, h⟩ => h) ?_
       refine s_val (v := .slice z.2.p z.2.l.length z.2.c) (wt0 rfl) rfl rfl (x_loadR1 ((z.1).toNat) ((hYr _ (H16.takes [1] (by decide)))) (by omega) rfl rfl Tryz.underlying29 rfl (rowE.flAt1 hzi rfl)) ?_
       refine r_one (i := 0) (by kernel_rfl) ?_
       refine r_of rfl rfl (fun ⟨_, _, h⟩ => h) ?_
       refine s_val (v := .func (.yield l1) #[] #[]) (wt0 rfl) rfl rfl (x_load1 H16 4 rfl rfl Tryz.underlying115 rfl rfl rfl) ?_
       refine r_one (i := 6) (by kernel_rfl) ?_
       have H73 := S.big2 (A := [_, _]) (B := [_, _, _, _]) (H16.takes [5, 1, 0, 4, 2, 3, 6] (by decide))
       refine r_yield rfl (wt0 rfl) rfl rfl rfl rfl rfl (hY (pr.map Prod.snd) z.2 wq15 _ C hJ (by show l.reverse[(pr.map Prod.snd).length]? = _; rw [List.length_map]; exact hz1) H73) ?_
       rintro _ wq75 (⟨rfl, C9, hJ9, H74⟩ | ⟨rfl, C9, hJx9, H74⟩)
       ·
        refine ⟨_, rfl, ?_⟩
        have H76 := S.unbig2 (A := [_, _]) (B := [_, _, _, _]) H74
        refine r_one (i := 7) (by kernel_rfl) ?_
        refine r_of rfl rfl (fun ⟨_, _, h⟩ => h) ?_
        refine s_val (v := .bool false) (wt0 rfl) rfl rfl (x_not (b := true) rfl rfl) ?_
        refine r_done (by kernel_rfl) ?_
        refine g_then ?_
        refine R.g_cond_f rfl rfl ?_
        refine R.g_skip ?_
        refine g_in ?_
        have H77 := S.big (L := [_, _]) (H76.takes [2, 1, 0, 3, 4, 5, 6] (by decide))
        exact rj_next ⟨_, by rw [List.map_append]; exact hJ9, rfl⟩ (H77.takes [0, 3, 4, 2, 1, 5] (by decide))
       ·
        refine ⟨_, rfl, ?_⟩
        have H78 := S.unbig2 (A := [_, _]) (B := [_, _, _, _]) H74
        refine r_one (i := 7) (by kernel_rfl) ?_
        refine r_of rfl rfl (fun ⟨_, _, h⟩ => h) ?_
        refine s_val (v := .bool true) (wt0 rfl) rfl rfl (x_not (b := false) rfl rfl) ?_
        refine r_done (by kernel_rfl) ?_
        refine g_then ?_
        refine R.g_cond_t rfl rfl ?_
        refine R.g_ret ?_
        refine g_in_ret ?_
        have H79 := S.big (L := [_, _]) (H78.takes [2, 1, 0, 3, 4, 5, 6] (by decide))
        exact rj_ret ⟨rfl, _, by rw [List.map_append]; exact hJx9, rfl⟩ (H79.takes [0, 3, 4, 2, 1, 5] (by decide))
   ·
    refine r_of rfl rfl (fun ⟨_, _, h⟩ => h) ?_
    refine s_val (v := .int .i64 (z.1)) (wt0 rfl) rfl rfl (x_move rfl rfl) ?_
    refine r_two (i := 0) (j := 2) (by kernel_rfl) ?_ ?_
    ·
     refine r_of rfl rfl (fun ⟨_, _, h⟩ => h) ?_
     refine s_val (v := .func (.yield l1) #[] #[]) (wt0 rfl) rfl rfl (x_load1 H16 4 rfl rfl Tryz.underlying115 rfl rfl rfl) ?_
     refine r_one (i := 2) (by kernel_rfl) ?_
     refine r_of rfl rfl (fun ⟨_, _, h⟩ => h) ?_
     refine s_val (v := .slice p n c) (wt0 rfl) rfl rfl (x_load1 H16 5 rfl rfl Tryz.underlying47 rfl rfl rfl) ?_
     refine r_one (i := 4) (by kernel_rfl) ?_
     refine r_of rfl rfl (fun ⟨_, _, h⟩ => h) ?_
     refine s_val (v := .pointer ((p).map fun q => q.add (((z.1).toNat) * 1))) (wt0 rfl) rfl rfl (x_idxR ((z.1).toNat) ((hYr _ (H16.takes [1] (by decide)))) rfl rfl rfl Tryz.underlying47 sz29 (by omega)) ?_
     refine r_one (i := 5) (by kernel_rfl) ?_
     refine r_of rfl rfl (fun ⟨_, _, h⟩ => h) ?_
     refine s_val (v := .slice z.2.p z.2.l.length z.2.c) (wt0 rfl) rfl rfl (x_loadR1 ((z.1).toNat) ((hYr _ (H16.takes [1] (by decide)))) (by omega) rfl rfl Tryz.underlying29 rfl (rowE.flAt1 hzi rfl)) ?_
     refine r_one (i := 6) (by kernel_rfl) ?_
     have H80 := S.big2 (A := [_, _]) (B := [_, _, _, _]) (H16.takes [5, 1, 0, 4, 2, 3, 6] (by decide))
     refine r_yield rfl (wt0 rfl) rfl rfl rfl rfl rfl (hY (pr.map Prod.snd) z.2 wq15 _ C hJ (by show l.reverse[(pr.map Prod.snd).length]? = _; rw [List.length_map]; exact hz1) H80) ?_
     rintro _ wq82 (⟨rfl, C9, hJ9, H81⟩ | ⟨rfl, C9, hJx9, H81⟩)
     ·
      refine ⟨_, rfl, ?_⟩
      have H83 := S.unbig2 (A := [_, _]) (B := [_, _, _, _]) H81
      refine r_one (i := 7) (by kernel_rfl) ?_
      refine r_of rfl rfl (fun ⟨_, _, h⟩ => h) ?_
      refine s_val (v := .bool false) (wt0 rfl) rfl rfl (x_not (b := true) rfl rfl) ?_
      refine r_done (by kernel_rfl) ?_
      refine g_then ?_
      refine R.g_cond_f rfl rfl ?_
      refine R.g_skip ?_
      refine g_in ?_
      have H84 := S.big (L := [_, _]) (H83.takes [2, 1, 0, 3, 4, 5, 6] (by decide))
      exact rj_next ⟨_, by rw [List.map_append]; exact hJ9, rfl⟩ (H84.takes [0, 3, 4, 2, 1, 5] (by decide))
     ·
      refine ⟨_, rfl, ?_⟩
      have H85 := S.unbig2 (A := [_, _]) (B := [_, _, _, _]) H81
      refine r_one (i := 7) (by kernel_rfl) ?_
      refine r_of rfl rfl (fun ⟨_, _, h⟩ => h) ?_
      refine s_val (v := .bool true) (wt0 rfl) rfl rfl (x_not (b := false) rfl rfl) ?_
      refine r_done (by kernel_rfl) ?_
      refine g_then ?_
      refine R.g_cond_t rfl rfl ?_
      refine R.g_ret ?_
      refine g_in_ret ?_
      have H86 := S.big (L := [_, _]) (H85.takes [2, 1, 0, 3, 4, 5, 6] (by decide))
      exact rj_ret ⟨rfl, _, by rw [List.map_append]; exact hJx9, rfl⟩ (H86.takes [0, 3, 4, 2, 1, 5] (by decide))
    ·
     refine r_of rfl rfl (fun ⟨_, _, h⟩ => h) ?_
     refine s_val (v := .slice p n c) (wt0 rfl) rfl rfl (x_load1 H16 5 rfl rfl Tryz.underlying47 rfl rfl rfl) ?_
     refine r_two (i := 0) (j := 4) (by kernel_rfl) ?_ ?_
     ·
      refine r_of rfl rfl (fun ⟨_, _, h⟩ => h) ?_
      refine s_val (v := .func (.yield l1) #[] #[]) (wt0 rfl) rfl rfl (x_load1 H16 4 rfl rfl Tryz.underlying115 rfl rfl rfl) ?_
      refine r_one (i := 4) (by kernel_rfl) ?_
      refine r_of rfl rfl (fun ⟨_, _, h⟩ => h) ?_
      refine s_val (v := .pointer ((p).map fun q => q.add (((z.1).toNat) * 1))) (wt0 rfl) rfl rfl (x_idxR ((z.1).toNat) ((hYr _ (H16.takes [1] (by decide)))) rfl rfl rfl Tryz.underlying47 sz29 (by omega)) ?_
      refine r_one (i := 5) (by kernel_rfl) ?_
      refine r_of rfl rfl (fun ⟨_, _, h⟩ => h) ?_
      refine s_val (v := .slice z.2.p z.2.l.length z.2.c) (wt0 rfl) rfl rfl (x_loadR1 ((z.1).toNat) ((hYr _ (H16.takes [1] (by decide)))) (by omega) rfl rfl Tryz.underlying29 rfl (rowE.flAt1 hzi rfl)) ?_
      refine r_one (i := 6) (by kernel_rfl) ?_
      have H87 := S.big2 (A := [_, _]) (B := [_, _, _, _]) (H16.takes [5, 1, 0, 4, 2, 3, 6] (by decide))
      refine r_yield rfl (wt0 rfl) rfl rfl rfl rfl rfl (hY (pr.map Prod.snd) z.2 wq15 _ C hJ (by show l.reverse[(pr.map Prod.snd).length]? = _; rw [List.length_map]; exact hz1) H87) ?_
      rintro _ wq89 (⟨rfl, C9, hJ9, H88⟩ | ⟨rfl, C9, hJx9, H88⟩)
      ·
       refine ⟨_, rfl, ?_⟩
       have H90 := S.unbig2 (A := [_, _]) (B := [_, _, _, _]) H88
       refine r_one (i := 7) (by kernel_rfl) ?_
       refine r_of rfl rfl (fun ⟨_, _, h⟩ => h) ?_
       refine s_val (v := .bool false) (wt0 rfl) rfl rfl (x_not (b := true) rfl rfl) ?_
       refine r_done (by kernel_rfl) ?_
       refine g_then ?_
       refine R.g_cond_f rfl rfl ?_
       refine R.g_skip ?_
       refine g_in ?_
       have H91 := S.big (L := [_, _]) (H90.takes [2, 1, 0, 3, 4, 5, 6] (by decide))
       exact rj_next ⟨_, by rw [List.map_append]; exact hJ9, rfl⟩ (H91.takes [0, 3, 4, 2, 1, 5] (by decide))
      ·
       refine ⟨_, rfl, ?_⟩
       have H92 := S.unbig2 (A := [_, _]) (B := [_, _, _, _]) H88
       refine r_one (i := 7) (by kernel_rfl) ?_
       refine r_of rfl rfl (fun ⟨_, _, h⟩ => h) ?_
       refine s_val (v := .bool true) (wt0 rfl) rfl rfl (x_not (b := false) rfl rfl) ?_
       refine r_done (by kernel_rfl) ?_
       refine g_then ?_
       refine R.g_cond_t rfl rfl ?_
       refine R.g_ret ?_
       refine g_in_ret ?_
       have H93 := S.big (L := [_, _]) (H92.takes [2, 1, 0, 3, 4, 5, 6] (by decide))
       exact rj_ret ⟨rfl, _, by rw [List.map_append]; exact hJx9, rfl⟩ (H93.takes [0, 3, 4, 2, 1, 5] (by decide))
     ·
      refine r_of rfl rfl (fun ⟨_, _, h⟩ => h) ?_
      refine s_val (v := .pointer ((p).map fun q => q.add (((z.1).toNat) * 1))) (wt0 rfl) rfl rfl (x_idxR ((z.1).toNat) ((hYr _ (H16.takes [1] (by decide)))) rfl rfl rfl Tryz.underlying47 sz29 (by omega)) ?_
      refine r_two (i := 0) (j := 5) (by kernel_rfl) ?_ ?_
      ·
       refine r_of rfl rfl (fun ⟨_, _, h⟩ => h) ?_
       refine s_val (v := .func (.yield l1) #[] #[]) (wt0 rfl) rfl rfl (x_load1 H16 4 rfl rfl Tryz.underlying115 rfl rfl rfl) ?_
       refine r_one (i := 5) (by kernel_rfl) ?_
       refine r_of rfl rfl (fun ⟨_, _, h⟩ => h) ?_
       refine s_val (v := .slice z.2.p z.2.l.length z.2.c) (wt0 rfl) rfl rfl (x_loadR1 ((z.1).toNat) ((hYr _ (H16.takes [1] (by decide)))) (by omega) rfl rfl Tryz.underlying29 rfl (rowE.flAt1 hzi rfl)) ?_
       refine r_one (i := 6) (by kernel_rfl) ?_
       have H94 := S.big2 (A := [_, _]) (B := [_, _, _, _]) (H16.takes [5, 1, 0, 4, 2, 3, 6] (by decide))
       refine r_yield rfl (wt0 rfl) rfl rfl rfl rfl rfl (hY (pr.map Prod.snd) z.2 wq15 _ C hJ (by show l.reverse[(pr.map Prod.snd).length]? = _; rw [List.length_map]; exact hz1) H94) ?_
       rintro _ wq96 (⟨rfl, C9, hJ9, H95⟩ | ⟨rfl, C9, hJx9, H95⟩)
       ·
        refine ⟨_, rfl, ?_⟩
        have H97 := S.unbig2 (A := [_, _]) (B := [_, _, _, _]) H95
        refine r_one (i := 7) (by kernel_rfl) ?_
        refine r_of rfl rfl (fun ⟨_, _, h⟩ => h) ?_
        refine s_val (v := .bool false) (wt0 rfl) rfl rfl (x_not (b := true) rfl rfl) ?_
        refine r_done (by kernel_rfl) ?_
        refine g_then ?_
        refine R.g_cond_f rfl rfl ?_
        refine R.g_skip ?_
        refine g_in ?_
        have H98 := S.big (L := [_, _]) (H97.takes [2, 1, 0, 3, 4, 5, 6] (by decide))
        exact rj_next ⟨_, by rw [List.map_append]; exact hJ9, rfl⟩ (H98.takes [0, 3, 4, 2, 1, 5] (by decide))
       ·
        refine ⟨_, rfl, ?_⟩
        have H99 := S.unbig2 (A := [_, _]) (B := [_, _, _, _]) H95
        refine r_one (i := 7) (by kernel_rfl) ?_
        refine r_of rfl rfl (fun ⟨_, _, h⟩ => h) ?_
        refine s_val (v := .bool true) (wt0 rfl) rfl rfl (x_not (b := false) rfl rfl) ?_
        refine r_done (by kernel_rfl) ?_
        refine g_then ?_
        refine R.g_cond_t rfl rfl ?_
        refine R.g_ret ?_
        refine g_in_ret ?_
        have H100 := S.big (L := [_, _]) (H99.takes [2, 1, 0, 3, 4, 5, 6] (by decide))
        exact rj_ret ⟨rfl, _, by rw [List.map_append]; exact hJx9, rfl⟩ (H100.takes [0, 3, 4, 2, 1, 5] (by decide))
      ·
       refine r_of rfl rfl (fun ⟨_, _, h⟩ => h) ?_
       refine s_val (v := .slice z.2.p z.2.l.length z.2.c) (wt0 rfl) rfl rfl (x_loadR1 ((z.1).toNat) ((hYr _ (H16.takes [1] (by decide)))) (by omega) rfl rfl Tryz.underlying29 rfl (rowE.flAt1 hzi rfl)) ?_
       refine r_one (i := 0) (by kernel_rfl) ?_
       refine r_of rfl rfl (fun ⟨_, _, h⟩ => h) ?_
       refine s_val (v := .func (.yield l1) #[] #[]) (wt0 rfl) rfl rfl (x_load1 H16 4 rfl rfl Tryz.underlying115 rfl rfl rfl) ?_
       refine r_one (i := 6) (by kernel_rfl) ?_
       have H101 := S.big2 (A := [_, _]) (B := [_, _, _, _]) (H16.takes [5, 1, 0, 4, 2, 3, 6] (by decide))
       refine r_yield rfl (wt0 rfl) rfl rfl rfl rfl rfl (hY (pr.map Prod.snd) z.2 wq15 _ C hJ (by show l.reverse[(pr.map Prod.snd).length]? = _; rw [List.length_map]; exact hz1) H101) ?_
       rintro _ wq103 (⟨rfl, C9, hJ9, H102⟩ | ⟨rfl, C9, hJx9, H102⟩)
       ·
        refine ⟨_, rfl, ?_⟩
        have H104 := S.unbig2 (A := [_, _]) (B := [_, _, _, _]) H102
        refine r_one (i := 7) (by kernel_rfl) ?_
        refine r_of rfl rfl (fun ⟨_, _, h⟩ => h) ?_
        refine s_val (v := .bool false) (wt0 rfl) rfl rfl (x_not (b := true) rfl rfl) ?_
        refine r_done (by kernel_rfl) ?_
        refine g_then ?_
        refine R.g_cond_f rfl rfl ?_
        refine R.g_skip ?_
        refine g_in ?_
        have H105 := S.big (L := [_, _]) (H104.takes [2, 1, 0, 3, 4, 5, 6] (by decide))
        exact rj_next ⟨_, by rw [List.map_append]; exact hJ9, rfl⟩ (H105.takes [0, 3, 4, 2, 1, 5] (by decide))
       ·
        refine ⟨_, rfl, ?_⟩
        have H106 := S.unbig2 (A := [_, _]) (B := [_, _, _, _]) H102
        refine r_one (i := 7) (by kernel_rfl) ?_
        refine r_of rfl rfl (fun ⟨_, _, h⟩ => h) ?_
        refine s_val (v := .bool true) (wt0 rfl) rfl rfl (x_not (b := false) rfl rfl) ?_
        refine r_done (by kernel_rfl) ?_
        refine g_then ?_
        refine R.g_cond_t rfl rfl ?_
        refine R.g_ret ?_
        refine g_in_ret ?_
        have H107 := S.big (L := [_, _]) (H106.takes [2, 1, 0, 3, 4, 5, 6] (by decide))
        exact rj_ret ⟨rfl, _, by rw [List.map_append]; exact hJx9, rfl⟩ (H107.takes [0, 3, 4, 2, 1, 5] (by decide))
  ·
   refine r_of rfl rfl (fun ⟨_, _, h⟩ => h) ?_
   refine s_val (v := .int .i64 (z.1)) (wt0 rfl) rfl rfl (x_move rfl rfl) ?_
   refine r_two (i := 0) (j := 1) (by kernel_rfl) ?_ ?_
   ·
    refine r_of rfl rfl (fun ⟨_, _, h⟩ => h) ?_
    refine s_val (v := .func (.yield l1) #[] #[]) (wt0 rfl) rfl rfl (x_load1 H16 4 rfl rfl Tryz.underlying115 rfl rfl rfl) ?_
    refine r_one (i := 1) (by kernel_rfl) ?_
    refine r_of rfl rfl (fun ⟨_, _, h⟩ => h) ?_
    refine s_val (v := .pointer (some ⟨b, 0, none⟩)) (wt0 rfl) rfl rfl (x_fieldAddr rfl rfl fo49_0 rfl) ?_
    refine r_one (i := 2) (by kernel_rfl) ?_
    refine r_of rfl rfl (fun ⟨_, _, h⟩ => h) ?_
    refine s_val (v := .slice p n c) (wt0 rfl) rfl rfl (x_load1 H16 5 rfl rfl Tryz.underlying47 rfl rfl rfl) ?_
    refine r_one (i := 4) (by kernel_rfl) ?_
    refine r_of rfl rfl (fun ⟨_, _, h⟩ => h) ?_
    refine s_val (v := .pointer ((p).map fun q => q.add (((z.1).toNat) * 1))) (wt0 rfl) rfl rfl (x_idxR ((z.1).toNat) ((hYr _ (H16.takes [1] (by decide)))) rfl rfl rfl Tryz.underlying47 sz29 (by omega)) ?_
    refine r_one (i := 5) (by kernel_rfl) ?_
    refine r_of rfl rfl (fun ⟨_, _, h⟩ => h) ?_
    refine s_val (v := .slice z.2.p z.2.l.length z.2.c) (wt0 rfl) rfl rfl (x_loadR1 ((z.1).toNat) ((hYr _ (H16.takes [1] (by decide)))) (by omega) rfl rfl Tryz.underlying29 rfl (rowE.flAt1 hzi rfl)) ?_
    refine r_one (i := 6) (by kernel_rfl) ?_
    have H108 := S.big2 (A := [_, _]) (B := [_, _, _, _]) (H16.takes [5, 1, 0, 4, 2, 3, 6] (by decide))
    refine r_yield rfl (wt0 rfl) rfl rfl rfl rfl rfl (hY (pr.map Prod.snd) z.2 wq15 _ C hJ (by show l.reverse[(pr.map Prod.snd).length]? = _; rw [List.length_map]; exact hz1) H108) ?_
    rintro _ wq110 (⟨rfl, C9, hJ9, H109⟩ | ⟨rfl, C9, hJx9, H109⟩)
    ·
     refine ⟨_, rfl, ?_⟩
     have H111 := S.unbig2 (A := [_, _]) (B := [_, _, _, _]) H109
     refine r_one (i := 7) (by kernel_rfl) ?_
     refine r_of rfl rfl (fun ⟨_, _, h⟩ => h) ?_
     refine s_val (v := .bool false) (wt0 rfl) rfl rfl (x_not (b := true) rfl rfl) ?_
     refine r_done (by kernel_rfl) ?_
     refine g_then ?_
     refine R.g_cond_f rfl rfl ?_
     refine R.g_skip ?_
     refine g_in ?_
     have H112 := S.big (L := [_, _]) (H111.takes [2, 1, 0, 3, 4, 5, 6] (by decide))
     exact rj_next ⟨_, by rw [List.map_append]; exact hJ9, rfl⟩ (H112.takes [0, 3, 4, 2, 1, 5] (by decide))
    ·
     refine ⟨_, rfl, ?_⟩
     have H113 := S.unbig2 (A := [_, _]) (B := [_, _, _, _]) H109
     refine r_one (i := 7) (by kernel_rfl) ?_
     refine r_of rfl rfl (fun ⟨_, _, h⟩ => h) ?_
     refine s_val (v := .bool true) (wt0 rfl) rfl rfl (x_not (b := false) rfl rfl) ?_
     refine r_done (by kernel_rfl) ?_
     refine g_then ?_
     refine R.g_cond_t rfl rfl ?_
     refine R.g_ret ?_
     refine g_in_ret ?_
     have H114 := S.big (L := [_, _]) (H113.takes [2, 1, 0, 3, 4, 5, 6] (by decide))
     exact rj_ret ⟨rfl, _, by rw [List.map_append]; exact hJx9, rfl⟩ (H114.takes [0, 3, 4, 2, 1, 5] (by decide))
   ·
    refine r_of rfl rfl (fun ⟨_, _, h⟩ => h) ?_
    refine s_val (v := .pointer (some ⟨b, 0, none⟩)) (wt0 rfl) rfl rfl (x_fieldAddr rfl rfl fo49_0 rfl) ?_
    refine r_two (i := 0) (j := 2) (by kernel_rfl) ?_ ?_
    ·
     refine r_of rfl rfl (fun ⟨_, _, h⟩ => h) ?_
     refine s_val (v := .func (.yield l1) #[] #[]) (wt0 rfl) rfl rfl (x_load1 H16 4 rfl rfl Tryz.underlying115 rfl rfl rfl) ?_
     refine r_one (i := 2) (by kernel_rfl) ?_
     refine r_of rfl rfl (fun ⟨_, _, h⟩ => h) ?_
     refine s_val (v := .slice p n c) (wt0 rfl) rfl rfl (x_load1 H16 5 rfl rfl Tryz.underlying47 rfl rfl rfl) ?_
     refine r_one (i := 4) (by kernel_rfl) ?_
     refine r_of rfl rfl (fun ⟨_, _, h⟩ => h) ?_
     refine s_val (v := .pointer ((p).map fun q => q.add (((z.1).toNat) * 1))) (wt0 rfl) rfl rfl (x_idxR ((z.1).toNat) ((hYr _ (H16.takes [1] (by decide)))) rfl rfl rfl Tryz.underlying47 sz29 (by omega)) ?_
     refine r_one (i := 5) (by kernel_rfl) ?_
     refine r_of rfl rfl (fun ⟨_, _, h⟩ => h) ?_
     refine s_val (v := .slice z.2.p z.2.l.length z.2.c) (wt0 rfl) rfl rfl (x_loadR1 ((z.1).toNat) ((hYr _ (H16.takes [1] (by decide)))) (by omega) rfl rfl Tryz.underlying29 rfl (rowE.flAt1 hzi rfl)) ?_
     refine r_one (i := 6) (by kernel_rfl) ?_
     have H115 := S.big2 (A := [_, _]) (B := [_, _, _, _]) (H16.takes [5, 1, 0, 4, 2, 3, 6] (by decide))
     refine r_yield rfl (wt0 rfl) rfl rfl rfl rfl rfl (hY (pr.map Prod.snd) z.2 wq15 _ C hJ (by show l.reverse[(pr.map Prod.snd).length]? = _; rw [List.length_map]; exact hz1) H115) ?_
     rintro _ wq117 (⟨rfl, C9, hJ9, H116⟩ | ⟨rfl, C9, hJx9, H116⟩)
     ·
      refine ⟨_, rfl, ?_⟩
      have H118 := S.unbig2 (A := [_, _]) (B := [_, _, _, _]) H116
      refine r_one (i := 7) (by kernel_rfl) ?_
      refine r_of rfl rfl (fun ⟨_, _, h⟩ => h) ?_
      refine s_val (v := .bool false) (wt0 rfl) rfl rfl (x_not (b := true) rfl rfl) ?_
      refine r_done (by kernel_rfl) ?_
      refine g_then ?_
      refine R.g_cond_f rfl rfl ?_
      refine R.g_skip ?_
      refine g_in ?_
      have H119 := S.big (L := [_, _]) (H118.takes [2, 1, 0, 3, 4, 5, 6] (by decide))
      exact rj_next ⟨_, by rw [List.map_append]; exact hJ9, rfl⟩ (H119.takes [0, 3, 4, 2, 1, 5] (by decide))
     ·
      refine ⟨_, rfl, ?_⟩
      have H120 := S.unbig2 (A := [_, _]) (B := [_, _, _, _]) H116
      refine r_one (i := 7) (by kernel_rfl) ?_
      refine r_of rfl rfl (fun ⟨_, _, h⟩ => h) ?_
      refine s_val (v := .bool true) (wt0 rfl) rfl rfl (x_not (b := false) rfl rfl) ?_
      refine r_done (by kernel_rfl) ?_
      refine g_then ?_
      refine R.g_cond_t rfl rfl ?_
      refine R.g_ret ?_
      refine g_in_ret ?_
      have H121 := S.big (L := [_, _]) (H120.takes [2, 1, 0, 3, 4, 5, 6] (by decide))
      exact rj_ret ⟨rfl, _, by rw [List.map_append]; exact hJx9, rfl⟩ (H121.takes [0, 3, 4, 2, 1, 5] (by decide))
    ·
     refine r_of rfl rfl (fun ⟨_, _, h⟩ => h) ?_
     refine s_val (v := .slice p n c) (wt0 rfl) rfl rfl (x_load1 H16 5 rfl rfl Tryz.underlying47 rfl rfl rfl) ?_
     refine r_two (i := 0) (j := 4) (by kernel_rfl) ?_ ?_
     ·
      refine r_of rfl rfl (fun ⟨_, _, h⟩ => h) ?_
      refine s_val (v := .func (.yield l1) #[] #[]) (wt0 rfl) rfl rfl (x_load1 H16 4 rfl rfl Tryz.underlying115 rfl rfl rfl) ?_
      refine r_one (i := 4) (by kernel_rfl) ?_
      refine r_of rfl rfl (fun ⟨_, _, h⟩ => h) ?_
      refine s_val (v := .pointer ((p).map fun q => q.add (((z.1).toNat) * 1))) (wt0 rfl) rfl rfl (x_idxR ((z.1).toNat) ((hYr _ (H16.takes [1] (by decide)))) rfl rfl rfl Tryz.underlying47 sz29 (by omega)) ?_
      refine r_one (i := 5) (by kernel_rfl) ?_
      refine r_of rfl rfl (fun ⟨_, _, h⟩ => h) ?_
      refine s_val (v := .slice z.2.p z.2.l.length z.2.c) (wt0 rfl) rfl rfl (x_loadR1 ((z.1).toNat) ((hYr _ (H16.takes [1] (by decide)))) (by omega) rfl rfl Tryz.underlying29 rfl (rowE.flAt1 hzi rfl)) ?_
      refine r_one (i := 6) (by kernel_rfl) ?_
      have H122 := S.big2 (A := [_, _]) (B := [_, _, _, _]) (H16.takes [5, 1, 0, 4, 2, 3, 6] (by decide))
      refine r_yield rfl (wt0 rfl) rfl rfl rfl rfl rfl (hY (pr.map Prod.snd) z.2 wq15 _ C hJ (by show l.reverse[(pr.map Prod.snd).length]? = _; rw [List.length_map]; exact hz1) H122) ?_
      rintro _ wq124 (⟨rfl, C9, hJ9, H123⟩ | ⟨rfl, C9, hJx9, H123⟩)
      ·
       refine ⟨_, rfl, ?_⟩
       have H125 := S.unbig2 (A := [_, _]) (B := [_, _, _, _]) H123
       refine r_one (i := 7) (by kernel_rfl) ?_
       refine r_of rfl rfl (fun ⟨_, _, h⟩ => h) ?_
       refine s_val (v := .bool false) (wt0 rfl) rfl rfl (x_not (b := true) rfl rfl) ?_
       refine r_done (by kernel_rfl) ?_
       refine g_then ?_
       refine R.g_cond_f rfl rfl ?_
       refine R.g_skip ?_
       refine g_in ?_
       have H126 := S.big (L := [_, _]) (H125.takes [2, 1, 0, 3, 4, 5, 6] (by decide))
       exact rj_next ⟨_, by rw [List.map_append]; exact hJ9, rfl⟩ (H126.takes [0, 3, 4, 2, 1, 5] (by decide))
      ·
       refine ⟨_, rfl, ?_⟩
       have H127 := S.unbig2 (A := [_, _]) (B := [_, _, _, _]) H123
       refine r_one (i := 7) (by kernel_rfl) ?_
       refine r_of rfl rfl (fun ⟨_, _, h⟩ => h) ?_
       refine s_val (v := .bool true) (wt0 rfl) rfl rfl (x_not (b := false) rfl rfl) ?_
       refine r_done (by kernel_rfl) ?_
       refine g_then ?_
       refine R.g_cond_t rfl rfl ?_
       refine R.g_ret ?_
       refine g_in_ret ?_
       have H128 := S.big (L := [_, _]) (H127.takes [2, 1, 0, 3, 4, 5, 6] (by decide))
       exact rj_ret ⟨rfl, _, by rw [List.map_append]; exact hJx9, rfl⟩ (H128.takes [0, 3, 4, 2, 1, 5] (by decide))
     ·
      refine r_of rfl rfl (fun ⟨_, _, h⟩ => h) ?_
      refine s_val (v := .pointer ((p).map fun q => q.add (((z.1).toNat) * 1))) (wt0 rfl) rfl rfl (x_idxR ((z.1).toNat) ((hYr _ (H16.takes [1] (by decide)))) rfl rfl rfl Tryz.underlying47 sz29 (by omega)) ?_
      refine r_two (i := 0) (j := 5) (by kernel_rfl) ?_ ?_
      ·
       refine r_of rfl rfl (fun ⟨_, _, h⟩ => h) ?_
       refine s_val (v := .func (.yield l1) #[] #[]) (wt0 rfl) rfl rfl (x_load1 H16 4 rfl rfl Tryz.underlying115 rfl rfl rfl) ?_
       refine r_one (i := 5) (by kernel_rfl) ?_
       refine r_of rfl rfl (fun ⟨_, _, h⟩ => h) ?_
       refine s_val (v := .slice z.2.p z.2.l.length z.2.c) (wt0 rfl) rfl rfl (x_loadR1 ((z.1).toNat) ((hYr _ (H16.takes [1] (by decide)))) (by omega) rfl rfl Tryz.underlying29 rfl (rowE.flAt1 hzi rfl)) ?_
       refine r_one (i := 6) (by kernel_rfl) ?_
       have H129 := S.big2 (A := [_, _]) (B := [_, _, _, _]) (H16.takes [5, 1, 0, 4, 2, 3, 6] (by decide))
       refine r_yield rfl (wt0 rfl) rfl rfl rfl rfl rfl (hY (pr.map Prod.snd) z.2 wq15 _ C hJ (by show l.reverse[(pr.map Prod.snd).length]? = _; rw [List.length_map]; exact hz1) H129) ?_
       rintro _ wq131 (⟨rfl, C9, hJ9, H130⟩ | ⟨rfl, C9, hJx9, H130⟩)
       ·
        refine ⟨_, rfl, ?_⟩
        have H132 := S.unbig2 (A := [_, _]) (B := [_, _, _, _]) H130
        refine r_one (i := 7) (by kernel_rfl) ?_
        refine r_of rfl rfl (fun ⟨_, _, h⟩ => h) ?_
        refine s_val (v := .bool false) (wt0 rfl) rfl rfl (x_not (b := true) rfl rfl) ?_
        refine r_done (by kernel_rfl) ?_
        refine g_then ?_
        refine R.g_cond_f rfl rfl ?_
        refine R.g_skip ?_
        refine g_in ?_
        have H133 := S.big (L := [_, _]) (H132.takes [2, 1, 0, 3, 4, 5, 6] (by decide))
        exact rj_next ⟨_, by rw [List.map_append]; exact hJ9, rfl⟩ (H133.takes [0, 3, 4, 2, 1, 5] (by decide))
       ·
        refine ⟨_, rfl, ?_⟩
        have H134 := S.unbig2 (A := [_, _]) (B := [_, _, _, _]) H130
        refine r_one (i := 7) (by kernel_rfl) ?_
        refine r_of rfl rfl (fun ⟨_, _, h⟩ => h) ?_
        refine s_val (v := .bool true) (wt0 rfl) rfl rfl (x_not (b := false) rfl rfl) ?_
        refine r_done (by kernel_rfl) ?_
        refine g_then ?_
        refine R.g_cond_t rfl rfl ?_
        refine R.g_ret ?_
        refine g_in_ret ?_
        have H135 := S.big (L := [_, _]) (H134.takes [2, 1, 0, 3, 4, 5, 6] (by decide))
        exact rj_ret ⟨rfl, _, by rw [List.map_append]; exact hJx9, rfl⟩ (H135.takes [0, 3, 4, 2, 1, 5] (by decide))
      ·
       refine r_of rfl rfl (fun ⟨_, _, h⟩ => h) ?_
       refine s_val (v := .slice z.2.p z.2.l.length z.2.c) (wt0 rfl) rfl rfl (x_loadR1 ((z.1).toNat) ((hYr _ (H16.takes [1] (by decide)))) (by omega) rfl rfl Tryz.underlying29 rfl (rowE.flAt1 hzi rfl)) ?_
       refine r_one (i := 0) (by kernel_rfl) ?_
       refine r_of rfl rfl (fun ⟨_, _, h⟩ => h) ?_
       refine s_val (v := .func (.yield l1) #[] #[]) (wt0 rfl) rfl rfl (x_load1 H16 4 rfl rfl Tryz.underlying115 rfl rfl rfl) ?_
       refine r_one (i := 6) (by kernel_rfl) ?_
       have H136 := S.big2 (A := [_, _]) (B := [_, _, _, _]) (H16.takes [5, 1, 0, 4, 2, 3, 6] (by decide))
       refine r_yield rfl (wt0 rfl) rfl rfl rfl rfl rfl (hY (pr.map Prod.snd) z.2 wq15 _ C hJ (by show l.reverse[(pr.map Prod.snd).length]? = _; rw [List.length_map]; exact hz1) H136) ?_
       rintro _ wq138 (⟨rfl, C9, hJ9, H137⟩ | ⟨rfl, C9, hJx9, H137⟩)
       ·
        refine ⟨_, rfl, ?_⟩
        have H139 := S.unbig2 (A := [_, _]) (B := [_, _, _, _]) H137
        refine r_one (i := 7) (by kernel_rfl) ?_
        refine r_of rfl rfl (fun ⟨_, _, h⟩ => h) ?_
        refine s_val (v := .bool false) (wt0 rfl) rfl rfl (x_not (b := true) rfl rfl) ?_
        refine r_done (by kernel_rfl) ?_
        refine g_then ?_
        refine R.g_cond_f rfl rfl ?_
        refine R.g_skip ?_
        refine g_in ?_
        have H140 := S.big (L := [_, _]) (H139.takes [2, 1, 0, 3, 4, 5, 6] (by decide))
        exact rj_next ⟨_, by rw [List.map_append]; exact hJ9, rfl⟩ (H140.takes [0, 3, 4, 2, 1, 5] (by decide))
       ·
        refine ⟨_, rfl, ?_⟩
        have H141 := S.unbig2 (A := [_, _]) (B := [_, _, _, _]) H137
        refine r_one (i := 7) (by kernel_rfl) ?_
        refine r_of rfl rfl (fun ⟨_, _, h⟩ => h) ?_
        refine s_val (v := .bool true) (wt0 rfl) rfl rfl (x_not (b := false) rfl rfl) ?_
        refine r_done (by kernel_rfl) ?_
        refine g_then ?_
        refine R.g_cond_t rfl rfl ?_
        refine R.g_ret ?_
        refine g_in_ret ?_
        have H142 := S.big (L := [_, _]) (H141.takes [2, 1, 0, 3, 4, 5, 6] (by decide))
        exact rj_ret ⟨rfl, _, by rw [List.map_append]; exact hJx9, rfl⟩ (H142.takes [0, 3, 4, 2, 1, 5] (by decide))
 ·
  rintro D xs _ W143 hxs ⟨C, hJ, rfl⟩ H144
  have H145 : S W143 [Ob bk4 (.cells #[.slice p n c] 47 (0, 0)), Y, Ob D (.deferred (some [])), Ob g1 (.cells #[.func (.yield l1) #[] #[]] 115 (0, 0)), Ob b (.cells #[.slice p n c] 49 (0, 0)), C] := S.unbig (H144.takes [1, 0, 2, 3, 4] (by decide))
  refine g_in ?_
  refine fin_mark H145 2 rfl [] [] rfl (fun wq146 H147 => ⟨trivial, ?_⟩)
  exact ⟨⟨_, rfl⟩, .inl ⟨_, _, hxs, hJ, (S.big (L := [_, _]) (H147.takes [4, 1, 5] (by decide)))⟩⟩
 ·
  rintro D cc pr _ W148 _ ⟨rfl, C, hJ, rfl⟩ H149
  have H150 : S W148 [Ob bk4 (.cells #[.slice p n c] 47 (0, 0)), Y, Ob D (.deferred (some [])), Ob g1 (.cells #[.func (.yield l1) #[] #[]] 115 (0, 0)), Ob b (.cells #[.slice p n c] 49 (0, 0)), C] := S.unbig (H149.takes [1, 0, 2, 3, 4] (by decide))
  refine gw_ret ?_
  refine g_in_ret ?_
  refine fin_mark H150 2 rfl [] [] rfl (fun wq151 H152 => ⟨trivial, ?_⟩)
  exact ⟨⟨_, rfl⟩, .inr ⟨_, _, trivial, hJ, (S.big (L := [_, _]) (H152.takes [4, 1, 5] (by decide)))⟩⟩
end Go.Proofs.YtpbjekdjebjbkaaGreat
