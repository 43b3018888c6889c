import Derived.Test.YtcjmdkklbbollaaAM
import Derived.Test.YtcjmdkklbbollaaEk
set_option linter.unusedSimpArgs false
set_option linter.unusedVariables false
namespace Go.Proofs.Ytcjmdkklbbollaa
open Go.RowKit

theorem fo106_0 : foO Try.prog 106 0 = some 0 := by kernel_rfl
set_option maxRecDepth 20000 in
set_option maxHeartbeats 4000000 in
theorem all_p (gr : Nat)  (w : World) : Calls Try.prog 74 #[.pointer (some ⟨gr, 0, none⟩)] w fun e w' => ∃ g, e = .returned (.func (.func 94) #[] #[.pointer (some ⟨g, 0, none⟩)]) ∧ S w' ([Ob g (.cells #[.pointer (some ⟨gr, 0, none⟩)] 129 (0, 0))] ++ [Old w no]) := by
  have H0 := S.old w
  refine enter 4 Try.func74 rfl rfl rfl ?_
  refine g_weak [(0, .pointer (some ⟨gr, 0, none⟩))] ⟨rfl, trivial⟩ ?_
  refine g_seq ?_
  refine g_region ?_
  refine l_of (s_box H0 (wt0 rfl) rfl rfl rfl rfl ?_)
  intro g1 wq2 H3
  refine l_of (s_val (v := .nilFunc) (wt0 rfl) rfl rfl (x_assign rfl rfl) ?_)
  refine g_nil ?_
  refine g_then ?_
  refine g_seq ?_
  refine g_region ?_
  refine l_of (s_val (v := .func (.func 94) #[] #[.pointer (some ⟨g1, 0, none⟩)]) (wt0 rfl) rfl rfl (x_makeFunc rfl rfl rfl) ?_)
  refine l_of (s_val (v := .func (.func 94) #[] #[.pointer (some ⟨g1, 0, none⟩)]) (wt0 rfl) rfl rfl (x_assign rfl rfl) ?_)
  refine g_nil ?_
  refine g_then ?_
  refine g_ret ?_
  refine fin_ret [.tmp 2] [.func (.func 94) #[] #[.pointer (some ⟨g1, 0, none⟩)]] rfl ⟨rfl, trivial⟩ ?_
  exact ⟨_, rfl, H3⟩
/-- A message's cells. -/
abbrev cellsL (m : M) : List Value := m.cells.toList
theorem cellsL_len (m : M) : (cellsL m).length = 8 := rfl
def msgsV (l : List M) : List Value := l.flatMap cellsL
/-- A message with its place. -/
abbrev Elt (l : List M) : Type := { x : Nat × M // l[x.1]? = some x.2 }
def enumE (l : List M) : List (Elt l) := List.ofFn (fun i : Fin l.length => (⟨(i.1, l[i.1]), List.getElem?_eq_getElem i.2⟩ : Elt l))
theorem enumE_len (l : List M) : (enumE l).length = l.length := List.length_ofFn
theorem enumE_next {l : List M} {k : Nat} {m : M} (h : l[k]? = some m) : (enumE l).take k ++ [(⟨(k, m), h⟩ : Elt l)] = (enumE l).take (k + 1) := by
  obtain ⟨hk, rfl⟩ := List.getElem?_eq_some_iff.1 h
  have hk' : k < (enumE l).length := by rw [enumE_len]; exact hk
  rw [List.take_succ_eq_append_getElem hk']
  congr 2
  simp [enumE]
def encE {l : List M} (x : Elt l) : Array Value := #[.int .i64 x.1.1, .agg x.1.2.cells]
theorem Reads.kept {w w' : World} {p : Option Addr} {n c size : Nat} {xs : List Value} (h : Reads w p n c size xs) (hs : Same (fun g => ∃ o, p = some ⟨g, o, none⟩) w w') (hp : ∀ a, p = some a → a.spot = none) : Reads w' p n c size xs := by
  obtain ⟨k1, k2, k3⟩ := h
  refine ⟨k1, k2, fun hn => ?_⟩
  obtain ⟨a, rfl, hc⟩ := k3 hn
  refine ⟨a, rfl, fun j u hu => ?_⟩
  have hb : (a.add j).block = a.block := by unfold Addr.add; split <;> rfl
  rw [World.cell?_of_block (hs.block _ ⟨a.off, by rw [hb]; have := hp a rfl; cases a; simp at this ⊢; exact this⟩)]
  exact hc j u hu
set_option maxRecDepth 20000 in
set_option maxHeartbeats 4000000 in
set_option maxRecDepth 20000 in
set_option maxHeartbeats 4000000 in
theorem all_walk {n0 l : Nat} {ms : List M} {gb gr n c : Nat} {p : Option Addr} {J Jx : List (Elt ms) → World → Prop} (w : World) (hn : n = ms.length) (hJ : AbidesFrom w.heap.size J)
    (hb : w.cell? ⟨gb, 0, none⟩ = some (.pointer (some ⟨gr, 0, none⟩))) (hg : w.cell? ⟨gr, 0, none⟩ = some (.slice p n c)) (hr : Reads w p n c 8 (msgsV ms)) (hn6 : n ≤ 9223372036854775807)
    (hY : ∀ pre x W1, J pre W1 → pre.length < n → YieldAt (WF none) (n0 - 1) Try.prog l (encE x) W1 fun e W' => (e = .returned (.bool true) ∧ J (pre ++ [x]) W' ∧ Same (fun g => ∃ o, p = some ⟨g, o, none⟩) W1 W') ∨ (e = .returned (.bool false) ∧ Jx (pre ++ [x]) W'))
    (hp : ∀ a, p = some a → a.spot = none) (h0 : J [] w) :
    CallsIn (WF none) n0 Try.prog 94 #[.func (.yield l) #[] #[], .pointer (some ⟨gb, 0, none⟩)] w fun e W' => (∃ v, e = .returned v) ∧ ((∃ xs, xs = enumE ms ∧ J xs W') ∨ (∃ pre, (∃ k, k < ms.length ∧ pre = (enumE ms).take (k + 1)) ∧ Jx pre W')) := by
  have H0 := S.old w
  refine enter_ci 21 Try.func94 rfl rfl rfl ?_
  have hL : ¬ LetsOut (bodyPost Try.prog Try.f94 fun e W' => (∃ v, e = .returned v) ∧ ((∃ xs, xs = enumE ms ∧ J xs W') ∨ (∃ pre, (∃ k, k < ms.length ∧ pre = (enumE ms).take (k + 1)) ∧ Jx pre W'))) := by
    rintro ⟨_, _, ⟨_, h⟩, _⟩
    cases h
  refine g_weak [(0, .func (.yield l) #[] #[]), (1, .pointer (some ⟨gb, 0, none⟩))] ⟨rfl, rfl, trivial⟩ ?_
  refine R.g_seq ?_
  refine R.g_region ?_
  refine R.l_of rfl (fun h => hL h) (s_val (v := .pointer (some ⟨gr, 0, none⟩)) (wt0 rfl) rfl rfl (x_loadC rfl rfl Try.underlying129 rfl (H0.oldCell (k := 0) rfl hb id)) ?_)
  refine R.l_of rfl (fun h => hL h) (s_val (v := .pointer (some ⟨gr, 0, none⟩)) (wt0 rfl) rfl rfl (x_nilCheck rfl rfl) ?_)
  refine R.l_of rfl (fun h => hL h) (s_val (v := .pointer (some ⟨gr, 0, none⟩)) (wt0 rfl) rfl rfl (x_fieldAddr rfl rfl fo106_0 rfl) ?_)
  refine R.l_of rfl (fun h => hL h) (s_val (v := .slice p n c) (wt0 rfl) rfl rfl (x_loadC rfl rfl Try.underlying46 rfl (H0.oldCell (k := 0) rfl hg id)) ?_)
  refine R.l_of rfl (fun h => hL h) (s_val (v := .int .i64 ((n : Int))) (wt0 rfl) rfl rfl (x_lenl rfl rfl Try.underlying46) ?_)
  refine R.l_of rfl (fun h => hL h) (s_val (v := .int .i64 0) (wt0 rfl) rfl rfl (x_move rfl rfl) ?_)
  refine R.g_nil ?_
  refine g_then ?_
  refine R.g_block ?_
  refine R.g_loop (ι := Nat × World) (fun (k, W0) => [(0, .func (.yield l) #[] #[]), (8, .slice p n c), (9, .int .i64 ((n : Int))), (10, .int .i64 ((k : Int)))]) (fun (k, W0) wx => (k ≤ n) ∧ (J ((enumE ms).take k) W0) ∧ (Reads W0 p n c 8 (msgsV ms)) ∧ S wx [Old W0 no]) (fun (k, W0) => n - k) (0, w) ⟨rfl, rfl, rfl, rfl, trivial⟩ ⟨Nat.zero_le _, h0, hr, H0⟩ ?_
  rintro ⟨k, W0⟩ wq1 ⟨hk, hJ0, hr, H2⟩
  replace H2 : S wq1 [Old W0 no] := H2
  refine g_weak [(0, .func (.yield l) #[] #[]), (8, .slice p n c), (9, .int .i64 ((n : Int))), (10, .int .i64 ((k : Int)))] ⟨rfl, rfl, rfl, rfl, trivial⟩ ?_
  refine R.g_seq ?_
  refine R.g_region ?_
  refine R.l_of rfl (fun h => hL h) (s_val (v := .bool (decide (((k : Int) : Int) < (n : Int)))) (wt0 rfl) rfl rfl (x_bin rfl rfl rfl b_lss) ?_)
  refine R.g_nil ?_
  refine g_then ?_
  refine R.g_seq ?_
  by_cases hb3 : ((k : Int) : Int) < (n : Int)
  · skip
    obtain ⟨m, hm⟩ : ∃ m, ms[k]? = some m := ⟨_, List.getElem?_eq_getElem (by omega)⟩
    refine R.g_cond_t rfl (decide_eq_true hb3) ?_
    refine R.g_skip ?_
    refine g_then ?_
    refine R.g_seq ?_
    refine R.g_block ?_
    refine R.g_seq ?_
    refine R.g_region ?_
    refine R.l_of rfl (fun h => hL h) (s_val (v := .int .i64 ((k : Int))) (wt0 rfl) rfl rfl (x_move rfl rfl) ?_)
    refine R.l_of rfl (fun h => hL h) (s_val (v := .pointer ((p).map fun q => q.add (k * 8))) (wt0 rfl) rfl rfl (x_idxR k (H2.oldReads (k := 0) rfl hr) rfl rfl rfl Try.underlying46 sz33 (by omega)) ?_)
    refine R.l_of rfl (fun h => hL h) (s_val (v := .agg m.cells) (wt0 rfl) rfl rfl (x_loadRA (vs := cellsL m) k (H2.oldReads (k := 0) rfl hr) (by omega) rfl rfl Try.underlying33 rfl sz33 (by rfl) (flat_at (fun a _ => cellsL_len a) hm)) ?_)
    refine R.l_of rfl (fun h => hL h) (s_alloc H2 (wt0 rfl) rfl rfl rfl ze33 ?_)
    intro g4 wq5 H6
    refine R.l_of rfl (fun h => hL h) (s_val (v := .int .i64 ((k : Int))) (wt0 rfl) rfl rfl (x_assign rfl rfl) ?_)
    refine R.l_of rfl (fun h => hL h) (s_store H6 0 (wt0 rfl) rfl rfl rfl rfl rfl sz33 rfl rfl (cs' := m.cells) rfl ?_)
    intro wq7 H8
    refine R.g_nil ?_
    refine g_then ?_
    refine R.g_seq ?_
    refine R.g_region ?_
    refine R.l_of rfl (fun h => hL h) (s_val (v := .func (.yield l) #[] #[]) (wt0 rfl) rfl rfl (x_move rfl rfl) ?_)
    refine R.l_of rfl (fun h => hL h) (s_val (v := .int .i64 ((k : Int))) (wt0 rfl) rfl rfl (x_move rfl rfl) ?_)
    refine R.l_of rfl (fun h => hL h) (s_val (v := .agg m.cells) (wt0 rfl) rfl rfl (x_loadA H8 0 rfl rfl Try.underlying33 rfl sz33 rfl rfl rfl) ?_)
    have hJ1 := hJ _ _ _ none hJ0 (H8.grownOld (k := 1) rfl) (fun r h => by cases h)
    have hr1 : Reads wq7 p n c 8 (msgsV ms) := H8.oldReads (k := 1) rfl hr
    refine l_yield (wt0 rfl) rfl rfl rfl rfl rfl (hY _ ⟨(k, m), hm⟩ wq7 hJ1 (by rw [List.length_take, enumE_len]; omega)) ?_
    rintro _ wq9 (⟨rfl, hJ2, hK⟩ | ⟨rfl, hJx⟩)
    · skip
      refine ⟨_, rfl, ?_⟩
      have H10 := S.old wq9
      rw [enumE_next hm] at hJ2
      have hr2 := hr1.kept hK hp
      refine R.l_of rfl (fun h => hL h) (s_val (v := .bool false) (wt0 rfl) rfl rfl (x_not (b := true) rfl rfl) ?_)
      refine R.g_nil ?_
      refine g_then ?_
      refine R.g_cond_f rfl rfl ?_
      refine R.g_skip ?_
      refine g_in ?_
      refine g_then ?_
      refine R.g_region ?_
      refine R.l_of rfl (fun h => hL h) (s_val (v := .int .i64 ((k : Int) + 1)) (wt0 rfl) rfl rfl (x_bin rfl rfl rfl (b_add (w64 (by omega)))) ?_)
      refine R.l_of rfl (fun h => hL h) (s_val (v := .int .i64 ((k : Int) + 1)) (wt0 rfl) rfl rfl (x_move rfl rfl) ?_)
      refine R.g_nil ?_
      refine g_then ?_
      refine g_round (i := (k, W0)) (k + 1, wq9) ?_ ?_ ?_
      · exact ⟨rfl, rfl, rfl, rfl, trivial⟩
      · exact ⟨by omega, hJ2, hr2, H10⟩
      · (try dsimp only); omega
    · skip
      refine ⟨_, rfl, ?_⟩
      have H11 := S.old wq9
      rw [enumE_next hm] at hJx
      refine R.l_of rfl (fun h => hL h) (s_val (v := .bool true) (wt0 rfl) rfl rfl (x_not (b := false) rfl rfl) ?_)
      refine R.g_nil ?_
      refine g_then ?_
      refine R.g_cond_t rfl rfl ?_
      refine R.g_ret ?_
      refine g_in_ret ?_
      refine g_then_ret ?_
      refine g_then_ret ?_
      refine g_in_ret ?_
      refine fin_ret [] [] rfl trivial ?_
      exact ⟨⟨_, rfl⟩, .inr ⟨_, ⟨k, by omega, rfl⟩, hJx⟩⟩
  · skip
    refine R.g_cond_f rfl (decide_eq_false hb3) ?_
    refine R.g_exit ?_
    refine g_then_exit ?_
    refine g_then_exit ?_
    refine g_in_hit ?_
    refine fin_end [] [] rfl trivial ?_
    have hk : k = ms.length := by omega
    have hJ1 := hJ _ _ _ none hJ0 (H2.grownOld (k := 0) rfl) (fun r h => by cases h)
    exact ⟨⟨_, rfl⟩, .inl ⟨_, rfl, by rw [hk, ← enumE_len, List.take_length] at hJ1; exact hJ1⟩⟩
end Go.Proofs.Ytcjmdkklbbollaa
namespace Go.Proofs.Ytcjmdkklbbollaa
open Go.RowKit

/-- A reader, as it stands. -/
structure Rdr where
  ms : List M
  zs : List Int
  bytes : Int
  greet : Bool
  hello : Hs
  told : Bool
  left : ByteArray
  done : Int
  wrong : Int
def zsV (l : List Int) : List Value := l.flatMap fun z => [Value.int .i64 z]
def Rdr.cells (r : Rdr) (p1 : Option Addr) (c1 : Nat) (p2 : Option Addr) (c2 : Nat) : Array Value :=
  #[.slice p1 r.ms.length c1, .slice p2 r.ms.length c2, .int .i64 r.bytes, .bool r.greet, .bool r.hello.e, .bool r.hello.f, .bool r.hello.n, .string r.hello.name, .string r.hello.peer, .bool r.told, .string r.left, .int .i64 r.done, .int .i64 r.wrong]
/-- The blocks of a reader. -/
def rdL (g : Nat) (r : Rdr) (p1 : Option Addr) (c1 : Nat) (p2 : Option Addr) (c2 : Nat) : List Item :=
  [Ob g (.cells (r.cells p1 c1 p2 c2) 108 (0, 0)), Rw 33 8 p1 r.ms.length c1 (msgsV r.ms), Rw 3 1 p2 r.ms.length c2 (zsV r.zs)]
structure Rdr.Ok (r : Rdr) (B : Nat) : Prop where
  big : B ≤ 1099511627776
  len : r.zs.length = r.ms.length
  bytes : r.bytes = r.zs.sum
  sizes : ∀ z ∈ r.zs, 0 ≤ z
  room : r.bytes + r.left.size ≤ B
  done : 0 ≤ r.done ∧ r.done + r.left.size ≤ B
  many : 4 * r.ms.length + r.left.size ≤ B
  left : r.left.size ≤ 65536
theorem sum_nonneg : ∀ {l : List Int}, (∀ z ∈ l, 0 ≤ z) → 0 ≤ l.sum
  | [], _ => by simp
  | a :: l, h => by
    have h1 := h a (List.mem_cons_self ..)
    have h2 := sum_nonneg (l := l) (fun z hz => h z (List.mem_cons_of_mem _ hz))
    rw [List.sum_cons]; omega
theorem le_sum : ∀ {l : List Int} {x : Int}, (∀ z ∈ l, 0 ≤ z) → x ∈ l → x ≤ l.sum
  | a :: l, x, h, hx => by
    have h1 := h a (List.mem_cons_self ..)
    have h2 := sum_nonneg (l := l) (fun z hz => h z (List.mem_cons_of_mem _ hz))
    rw [List.sum_cons]
    rcases List.mem_cons.1 hx with rfl | hx
    · omega
    · have := le_sum (l := l) (fun z hz => h z (List.mem_cons_of_mem _ hz)) hx
      omega
theorem Rdr.Ok.bb {r : Rdr} {B : Nat} (h : r.Ok B) : 0 ≤ r.bytes ∧ r.bytes ≤ 1099511627776 := by
  have h1 := sum_nonneg h.sizes
  rw [← h.bytes] at h1
  have h2 := h.room
  have h3 := h.big
  omega
theorem Rdr.Ok.zb {r : Rdr} {B : Nat} (h : r.Ok B) {z : Int} (hz : z ∈ r.zs) : 0 ≤ z ∧ z ≤ 1099511627776 := by
  have h1 := le_sum h.sizes hz
  rw [← h.bytes] at h1
  have h2 := h.bb
  have h3 := h.sizes z hz
  omega
def nextR (r : Rdr) : Rdr × M × Bool :=
  match r.ms, r.zs with
  | m :: ms, z :: zs => ({ r with ms, zs, bytes := r.bytes - z }, m, true)
  | _, _ => (r, Zm, false)
theorem zsV_at {l : List Int} {i : Nat} {z : Int} (h : l[i]? = some z) : (zsV l)[i * 1]? = some (.int .i64 z) := by
  have := flat_at (f := fun z => [Value.int .i64 z]) (size := 1) (fun a _ => rfl) h 0 (.int .i64 z) rfl
  exact this
theorem zsV_drop (l : List Int) (i : Nat) : (zsV l).drop (i * 1) = zsV (l.drop i) := flat_drop i (fun _ _ => rfl)
theorem msgsV_drop (l : List M) (i : Nat) : (msgsV l).drop (i * 8) = msgsV (l.drop i) := flat_drop i (fun a _ => cellsL_len a)
theorem okL_nil {B : Nat} : ∀ it ∈ ([] : List Item), it.okB B := fun _ h => by cases h
theorem okL_cons {B : Nat} {it : Item} {L : List Item} (h : it.okB B) (hL : ∀ it ∈ L, it.okB B) : ∀ x ∈ it :: L, x.okB B := fun x hx => by
  rcases List.mem_cons.1 hx with rfl | hx
  · exact h
  · exact hL x hx
theorem msgsV_snoc (l : List M) (m : M) : msgsV (l ++ [m]) = msgsV l ++ cellsL m := by unfold msgsV; rw [List.flatMap_append]; simp
theorem zsV_snoc (l : List Int) (z : Int) : zsV (l ++ [z]) = zsV l ++ [.int .i64 z] := by unfold zsV; rw [List.flatMap_append]; simp
theorem rdL_eq (g : Nat) (r : Rdr) (p1 : Option Addr) (c1 : Nat) (p2 : Option Addr) (c2 : Nat) {n : Nat} {xs ys : List Value} (hn : r.ms.length = n) (hx : msgsV r.ms = xs) (hy : zsV r.zs = ys) :
    rdL g r p1 c1 p2 c2 = [Ob g (.cells #[.slice p1 n c1, .slice p2 n c2, .int .i64 r.bytes, .bool r.greet, .bool r.hello.e, .bool r.hello.f, .bool r.hello.n, .string r.hello.name, .string r.hello.peer, .bool r.told, .string r.left, .int .i64 r.done, .int .i64 r.wrong] 108 (0, 0)), Rw 33 8 p1 n c1 xs, Rw 3 1 p2 n c2 ys] := by
  subst hn hx hy; rfl
theorem S.rwSome {w : World} {L : List Item} {k e size n c : Nat} {p : Option Addr} {xs : List Value} (h : S w L) (hk : L[k]? = some (Rw e size p n c xs)) (hn : 0 < n) : ∃ a, p = some a := by
  obtain ⟨a, h1, _⟩ := (h.rwReads hk).2.2 hn
  exact ⟨a, h1⟩
theorem S.rwSpot {w : World} {L : List Item} {k e size n c : Nat} {p : Option Addr} {xs : List Value} (h : S w L) (hk : L[k]? = some (Rw e size p n c xs)) : ∀ a, p = some a → a.spot = none := fun a ha => by
  rcases (h.rw hk).2.2.2 with ⟨h1, _⟩ | ⟨g, o, cur, h1, _⟩
  · rw [h1] at ha; cases ha
  · rw [h1] at ha; cases ha; rfl
theorem below_cell {w w' : World} (hW : Below w.heap.size w w') {p : Addr} {v : Value} (h : w.cell? p = some v) : w'.cell? p = some v := (S.of_below hW).oldCell (k := 0) rfl h id
/-- The iterator over the messages that wait: what it gives, and when it stops. -/
theorem all_seq {n0 : Nat} {ms : List M} {gb gr n c : Nat} {p : Option Addr} {w : World} (hn : n = ms.length)
    (hb : w.cell? ⟨gb, 0, none⟩ = some (.pointer (some ⟨gr, 0, none⟩))) (hg : w.cell? ⟨gr, 0, none⟩ = some (.slice p n c)) (hr : Reads w p n c 8 (msgsV ms)) (hn6 : n ≤ 9223372036854775807) (hp : ∀ a, p = some a → a.spot = none) :
    SeqStopsK (WF none) n0 Try.prog 94 #[.pointer (some ⟨gb, 0, none⟩)] (encE (l := ms)) (Same (fun g => ∃ o, p = some ⟨g, o, none⟩)) (fun xs => xs = enumE ms) (fun pre => ∃ k, k < ms.length ∧ pre = (enumE ms).take (k + 1)) n w :=
  fun l J Jx W hW hJ hJx hY h0 => all_walk (gb := gb) (gr := gr) (c := c) W hn hJ (below_cell hW hb) (below_cell hW hg) ((S.of_below hW).oldReads (k := 0) rfl hr) hn6 hY hp h0
theorem same_kb {w : World} {L : List Item} {k e size n c : Nat} {p : Option Addr} {xs : List Value} (H : S w L) (hk : L[k]? = some (Rw e size p n c xs)) (W : World) (l : Nat) (o o' : Obj) (hl : w.heap.size ≤ l) (_ : W.heap[l]? = some o) (_ : o.isCells = false) (_ : o.isWalk = false) : Same (fun g => ∃ o, p = some ⟨g, o, none⟩) W (W.putObj l o') :=
  (same_putObj W l o').less fun g hg e => by have := H.lt hk hg; omega
end Go.Proofs.Ytcjmdkklbbollaa
namespace Go.Proofs.Ytcjmdkklbbollaa
open Go.RowKit

theorem cl74 : callable Try.prog 74 = true := by kernel_rfl
theorem cl94 : callable Try.prog 94 = true := by kernel_rfl
theorem fo106_1 : foO Try.prog 106 1 = some 1 := by kernel_rfl
theorem fo106_2 : foO Try.prog 106 2 = some 2 := by kernel_rfl
theorem fo108_0 : foO Try.prog 108 0 = some 0 := by kernel_rfl
theorem sz4 : szO Try.prog 4 = some 1 := by kernel_rfl
theorem sz46 : szO Try.prog 46 = some 1 := by kernel_rfl
theorem sz60 : szO Try.prog 60 = some 1 := by kernel_rfl
theorem ze4 : zeO Try.prog 4 = some (.bool false) := by kernel_rfl
theorem nextR_nil {r : Rdr} (h : r.ms = []) : nextR r = (r, Zm, false) := by
  unfold nextR; rw [h]
theorem nextR_at {r : Rdr} {B : Nat} (hr : r.Ok B) {m : M} (hm : r.ms[0]? = some m) : nextR r = ({ r with ms := r.ms.drop 1, zs := r.zs.drop 1, bytes := r.bytes - r.zs.getD 0 0 }, m, true) := by
  obtain ⟨ms, zs, b, g, h, t, l, d, wr⟩ := r
  have hl : zs.length = ms.length := hr.len
  match ms, zs, hm, hl with
  | m' :: ms, z :: zs, hm, hl =>
    simp only [List.getElem?_cons_zero, Option.some.injEq] at hm
    subst hm
    rfl
theorem enumE_head {l : List M} {x : Elt l} {k : Nat} (h : [x] = (enumE l).take (k + 1)) : x.1.1 = 0 := by
  have h1 := congrArg (fun q => q[0]?) h
  simp only [List.getElem?_cons_zero, List.getElem?_take] at h1
  rw [if_pos (by omega)] at h1
  unfold enumE at h1
  rw [List.getElem?_ofFn] at h1
  split at h1
  · simp only [Option.some.injEq] at h1
    rw [h1]
  · cases h1
set_option maxRecDepth 20000 in
set_option maxHeartbeats 4000000 in
set_option maxRecDepth 20000 in
set_option maxHeartbeats 4000000 in
theorem next_p (gr : Nat) (r : Rdr) {B : Nat} (hr : r.Ok B) (p1 p2 : Option Addr) (c1 c2 : Nat) (w : World) (HB : S w (rdL gr r p1 c1 p2 c2)) :
    Calls Try.prog 35 #[.pointer (some ⟨gr, 0, none⟩)] w fun e w' => e = .returned (.tuple #[.agg (nextR r).2.1.cells, .bool (nextR r).2.2]) ∧ ∃ p1' c1' p2' c2', S w' (rdL gr (nextR r).1 p1' c1' p2' c2' ++ [Old w (fps (rdL gr r p1 c1 p2 c2))]) := by
  have H0 : S w [Ob gr (.cells #[.slice p1 r.ms.length c1, .slice p2 r.ms.length c2, .int .i64 (r.bytes), .bool r.greet, .bool r.hello.e, .bool r.hello.f, .bool r.hello.n, .string (r.hello.name), .string (r.hello.peer), .bool r.told, .string (r.left), .int .i64 (r.done), .int .i64 (r.wrong)] 108 (0, 0)), Rw 33 8 p1 r.ms.length c1 (msgsV r.ms), Rw 3 1 p2 r.ms.length c2 (zsV r.zs), Old w (fps (rdL gr r p1 c1 p2 c2))] := HB.beginI
  refine enter_m 58 Try.func35 rfl rfl rfl ?_
  have hL : ¬ LetsOut (bodyPostM (WF none) 9 Try.prog Try.f35 fun e w' => e = .returned (.tuple #[.agg (nextR r).2.1.cells, .bool (nextR r).2.2]) ∧ ∃ p1' c1' p2' c2', S w' (rdL gr (nextR r).1 p1' c1' p2' c2' ++ [Old w (fps (rdL gr r p1 c1 p2 c2))])) := by
    rintro ⟨_, _, h, _⟩
    cases h
  refine g_weak [(0, .pointer (some ⟨gr, 0, none⟩))] ⟨rfl, trivial⟩ ?_
  refine R.g_seq ?_
  refine R.g_region ?_
  refine R.l_of rfl (fun h => hL h) (s_box H0 (wt0 rfl) rfl rfl rfl rfl ?_)
  intro g1 wq2 H3
  refine R.l_of rfl (fun h => hL h) (s_alloc H3 (wt0 rfl) rfl rfl rfl ze33 ?_)
  intro g4 wq5 H6
  refine R.l_of rfl (fun h => hL h) (s_alloc H6 (wt0 rfl) rfl rfl rfl ze4 ?_)
  intro g7 wq8 H9
  refine R.g_nil ?_
  refine g_then ?_
  refine R.g_seq ?_
  refine R.g_seq ?_
  refine R.g_region ?_
  refine R.l_of rfl (fun h => hL h) (s_val (v := .pointer (some ⟨gr, 0, none⟩)) (wt0 rfl) rfl rfl (x_load1 H9 2 rfl rfl Try.underlying48 rfl rfl rfl) ?_)
  refine R.l_of rfl (fun h => hL h) (s_val (v := .bool false) (wt0 rfl) rfl rfl (x_bin rfl rfl rfl (b_eqN (r := false) Try.underlying48 rfl)) ?_)
  refine R.g_nil ?_
  refine g_then ?_
  refine R.g_cond_f rfl rfl ?_
  refine R.g_skip ?_
  refine g_then ?_
  refine R.g_seq ?_
  refine R.g_seq ?_
  refine R.g_region ?_
  refine R.l_of rfl (fun h => hL h) (s_val (v := .pointer (some ⟨gr, 0, none⟩)) (wt0 rfl) rfl rfl (x_load1 H9 2 rfl rfl Try.underlying48 rfl rfl rfl) ?_)
  refine R.l_of rfl (fun h => hL h) (s_val (v := .pointer (some ⟨gr, 0, none⟩)) (wt0 rfl) rfl rfl (x_nilCheck rfl rfl) ?_)
  refine R.l_of rfl (fun h => hL h) (s_val (v := .pointer (some ⟨gr, 0, none⟩)) (wt0 rfl) rfl rfl (x_fieldAddr rfl rfl fo108_0 rfl) ?_)
  refine R.l_of rfl (fun h => hL h) (s_call (wt0 rfl) (x_call' rfl rfl cl74) (all_p _ _) ?_)
  rintro _ wq11 ⟨g10, rfl, H12⟩
  replace H12 : S wq11 [Ob g10 (.cells #[.pointer (some ⟨gr, 0, none⟩)] 129 (0, 0)), Ob g7 (.cells #[.bool false] 4 (0, 0)), Ob g4 (.cells #[.int .i64 0, .int .i64 0, .int .i64 0, .int .i64 0, .int .i64 0, .int .i64 0, .string (⟨#[]⟩), .string (⟨#[]⟩)] 33 (0, 0)), Ob g1 (.cells #[.pointer (some ⟨gr, 0, none⟩)] 48 (0, 0)), Ob gr (.cells #[.slice p1 r.ms.length c1, .slice p2 r.ms.length c2, .int .i64 (r.bytes), .bool r.greet, .bool r.hello.e, .bool r.hello.f, .bool r.hello.n, .string (r.hello.name), .string (r.hello.peer), .bool r.told, .string (r.left), .int .i64 (r.done), .int .i64 (r.wrong)] 108 (0, 0)), Rw 33 8 p1 r.ms.length c1 (msgsV r.ms), Rw 3 1 p2 r.ms.length c2 (zsV r.zs), Old w (fps (rdL gr r p1 c1 p2 c2))] := H9.absorb (new := [Ob g10 (.cells #[.pointer (some ⟨gr, 0, none⟩)] 129 (0, 0))]) H12
  refine b_ret rfl rfl ?_
  refine R.g_nil ?_
  refine g_then ?_
  refine R.g_block ?_
  have hsz : w.heap.size ≤ wq11.heap.size := (show Same _ w wq11 from H12.at (k := 7) rfl).size
  refine g_range (n := 9) (α := Elt r.ms) (ι := Nat) (encs := encE) (Kp := Same (fun g => ∃ o, p1 = some ⟨g, o, none⟩)) (S' := fun xs => xs = enumE r.ms) (Sp := fun pre => ∃ k, k < r.ms.length ∧ pre = (enumE r.ms).take (k + 1)) (M := r.ms.length) (by omega) rfl cl94
    (all_seq (gr := gr) (c := c1) rfl (H12.cell (k := 0) rfl rfl) (H12.cell (k := 4) rfl rfl) (H12.rwReads (k := 5) rfl) (by have := (H12.rw (k := 5) rfl).2; unfold maxLen at this; omega) (H12.rwSpot (k := 5) rfl))
    (fun h k => h.trans k) (same_kb H12 (k := 5) rfl) (fun _ => rfl) rfl (fun pre Lx => pre = [] ∧ Lx = [Ob g10 (.cells #[.pointer (some ⟨gr, 0, none⟩)] 129 (0, 0)), Ob g7 (.cells #[.bool false] 4 (0, 0)), Ob g4 (.cells #[.int .i64 0, .int .i64 0, .int .i64 0, .int .i64 0, .int .i64 0, .int .i64 0, .string (⟨#[]⟩), .string (⟨#[]⟩)] 33 (0, 0)), Ob g1 (.cells #[.pointer (some ⟨gr, 0, none⟩)] 48 (0, 0)), Ob gr (.cells #[.slice p1 r.ms.length c1, .slice p2 r.ms.length c2, .int .i64 (r.bytes), .bool r.greet, .bool r.hello.e, .bool r.hello.f, .bool r.hello.n, .string (r.hello.name), .string (r.hello.peer), .bool r.told, .string (r.left), .int .i64 (r.done), .int .i64 (r.wrong)] 108 (0, 0)), Rw 33 8 p1 r.ms.length c1 (msgsV r.ms), Rw 3 1 p2 r.ms.length c2 (zsV r.zs), Old w (fps (rdL gr r p1 c1 p2 c2))]) (fun pre Lx => ∃ x : Elt r.ms, pre = [x] ∧ Lx = [Ob g10 (.cells #[.pointer (some ⟨gr, 0, none⟩)] 129 (0, 0)), Ob g7 (.cells #[.bool true] 4 (0, 0)), Ob g4 (.cells x.1.2.cells 33 (0, 0)), Ob g1 (.cells #[.pointer (some ⟨gr, 0, none⟩)] 48 (0, 0)), Ob gr (.cells #[.slice (cutP p1 (x.1.1 + 1) c1 8) (r.ms.length - (x.1.1 + 1)) (c1 - (x.1.1 + 1)), .slice (cutP p2 (x.1.1 + 1) c2 1) (r.ms.length - (x.1.1 + 1)) (c2 - (x.1.1 + 1)), .int .i64 (r.bytes - (r.zs.getD x.1.1 0)), .bool r.greet, .bool r.hello.e, .bool r.hello.f, .bool r.hello.n, .string (r.hello.name), .string (r.hello.peer), .bool r.told, .string (r.left), .int .i64 (r.done), .int .i64 (r.wrong)] 108 (0, 0)), Rw 33 8 (cutP p1 (x.1.1 + 1) c1 8) (r.ms.length - (x.1.1 + 1)) (c1 - (x.1.1 + 1)) ((msgsV r.ms).drop ((x.1.1 + 1) * 8)), Rw 3 1 (cutP p2 (x.1.1 + 1) c2 1) (r.ms.length - (x.1.1 + 1)) (c2 - (x.1.1 + 1)) ((zsV r.zs).drop ((x.1.1 + 1) * 1)), Old w (fps (rdL gr r p1 c1 p2 c2))]) (fun x gx => [(1, .pointer (some ⟨g1, 0, none⟩)), (2, .pointer (some ⟨g4, 0, none⟩)), (3, .pointer (some ⟨g7, 0, none⟩)), (4, .int .i64 ((x.1.1 : Int))), (5, .pointer (some ⟨gx, 0, none⟩))]) (fun x gx => Ob gx (.cells x.1.2.cells 33 (0, 0)) :: [Ob g10 (.cells #[.pointer (some ⟨gr, 0, none⟩)] 129 (0, 0)), Ob g7 (.cells #[.bool false] 4 (0, 0)), Ob g4 (.cells #[.int .i64 0, .int .i64 0, .int .i64 0, .int .i64 0, .int .i64 0, .int .i64 0, .string (⟨#[]⟩), .string (⟨#[]⟩)] 33 (0, 0)), Ob g1 (.cells #[.pointer (some ⟨gr, 0, none⟩)] 48 (0, 0)), Ob gr (.cells #[.slice p1 r.ms.length c1, .slice p2 r.ms.length c2, .int .i64 (r.bytes), .bool r.greet, .bool r.hello.e, .bool r.hello.f, .bool r.hello.n, .string (r.hello.name), .string (r.hello.peer), .bool r.told, .string (r.left), .int .i64 (r.done), .int .i64 (r.wrong)] 108 (0, 0)), Rw 33 8 p1 r.ms.length c1 (msgsV r.ms), Rw 3 1 p2 r.ms.length c2 (zsV r.zs), Old w (fps (rdL gr r p1 c1 p2 c2))]) ?_ ?_ ?_ (L0 := [Ob g10 (.cells #[.pointer (some ⟨gr, 0, none⟩)] 129 (0, 0)), Ob g7 (.cells #[.bool false] 4 (0, 0)), Ob g4 (.cells #[.int .i64 0, .int .i64 0, .int .i64 0, .int .i64 0, .int .i64 0, .int .i64 0, .string (⟨#[]⟩), .string (⟨#[]⟩)] 33 (0, 0)), Ob g1 (.cells #[.pointer (some ⟨gr, 0, none⟩)] 48 (0, 0)), Ob gr (.cells #[.slice p1 r.ms.length c1, .slice p2 r.ms.length c2, .int .i64 (r.bytes), .bool r.greet, .bool r.hello.e, .bool r.hello.f, .bool r.hello.n, .string (r.hello.name), .string (r.hello.peer), .bool r.told, .string (r.left), .int .i64 (r.done), .int .i64 (r.wrong)] 108 (0, 0)), Rw 33 8 p1 r.ms.length c1 (msgsV r.ms), Rw 3 1 p2 r.ms.length c2 (zsV r.zs), Old w (fps (rdL gr r p1 c1 p2 c2))]) ⟨rfl, rfl⟩ H12 ?_ ?_ ?_ ?_
  · rintro _ _ ⟨_, rfl⟩; exact (okL_cons (okB_ob _ _ _ _ _) (okL_cons (okB_ob _ _ _ _ _) (okL_cons (okB_ob _ _ _ _ _) (okL_cons (okB_ob _ _ _ _ _) (okL_cons (okB_ob _ _ _ _ _) (okL_cons (okB_rw _ _ _ _ _ _ _) (okL_cons (okB_rw _ _ _ _ _ _ _) (okL_cons (okB_old _ _ _ hsz) okL_nil))))))))
  · rintro _ _ ⟨_, _, rfl⟩; exact (okL_cons (okB_ob _ _ _ _ _) (okL_cons (okB_ob _ _ _ _ _) (okL_cons (okB_ob _ _ _ _ _) (okL_cons (okB_ob _ _ _ _ _) (okL_cons (okB_ob _ _ _ _ _) (okL_cons (okB_rw _ _ _ _ _ _ _) (okL_cons (okB_rw _ _ _ _ _ _ _) (okL_cons (okB_old _ _ _ hsz) okL_nil))))))))
  · intro _ _; exact okL_cons (okB_ob _ _ _ _ _) (okL_cons (okB_ob _ _ _ _ _) (okL_cons (okB_ob _ _ _ _ _) (okL_cons (okB_ob _ _ _ _ _) (okL_cons (okB_ob _ _ _ _ _) (okL_cons (okB_ob _ _ _ _ _) (okL_cons (okB_rw _ _ _ _ _ _ _) (okL_cons (okB_rw _ _ _ _ _ _ _) (okL_cons (okB_old _ _ _ hsz) okL_nil))))))))
  · rintro l pre ⟨⟨i, m⟩, hm⟩ _ W13 ⟨rfl, rfl⟩ H14
    have H15 := S.old W13
    have hL : ¬ LetsOut (fun (_ : Exit) (_ : Act) (_ : World) => False) := fun ⟨_, _, h⟩ => h
    refine g_weak [(1, .pointer (some ⟨g1, 0, none⟩)), (2, .pointer (some ⟨g4, 0, none⟩)), (3, .pointer (some ⟨g7, 0, none⟩)), (13, .int .i64 ((i : Int))), (14, .agg m.cells)] ⟨rfl, rfl, rfl, rfl, rfl, trivial⟩ ?_
    refine R.g_seq ?_
    refine R.g_region ?_
    refine R.l_of rfl (fun h => hL h) (s_val (v := .int .i64 ((i : Int))) (wt0 rfl) rfl rfl (x_assign rfl rfl) ?_)
    refine R.g_nil ?_
    refine g_then ?_
    refine R.g_region ?_
    refine R.l_of rfl (fun h => hL h) (s_alloc H15 (wt0 rfl) rfl rfl rfl ze33 ?_)
    intro g16 wq17 H18
    refine R.l_of rfl (fun h => hL h) (s_store H18 0 (wt0 rfl) rfl rfl rfl rfl rfl sz33 rfl rfl (cs' := m.cells) rfl ?_)
    intro wq19 H20
    refine R.g_nil ?_
    refine g_then ?_
    have H21 := H14.absorb (new := [Ob g16 (.cells m.cells 33 (0, 0))]) H20
    exact r_assign g16 1 H21 rfl ⟨rfl, rfl, rfl, rfl, rfl, trivial⟩ ((show Same _ W13 wq19 from H20.at (k := 1) rfl).less (fun g hg => ⟨H14.lt (k := 6) rfl hg, id⟩)) ⟨rfl, rfl⟩ (H21.mask [false, false, true, true, true, true, true, true, true, true]) (H21.mask [true, false, true, true, true, true, true, true, true, true])
  · rintro l pre ⟨⟨i, m⟩, hm⟩ gx _ W22 ⟨rfl, rfl⟩ hlt H23
    have hml : r.ms.length ≤ 9223372036854775807 := by have h1 := (H23.rw (k := 7) rfl).2.1; have h2 := (H23.rw (k := 7) rfl).2.2.1; unfold maxLen at h2; omega
    have hi : i < r.ms.length := (List.getElem?_eq_some_iff.1 hm).1
    have hil : i < r.zs.length := by rw [hr.len]; exact hi
    have hz : r.zs[i]? = some (r.zs.getD i 0) := by rw [List.getD_eq_getElem?_getD, List.getElem?_eq_getElem hil]; rfl
    have hzb := hr.zb (List.mem_of_getElem? hz)
    have hbb := hr.bb
    replace H23 : S W22 [NC wq11.heap.size W22, Ob gx (.cells m.cells 33 (0, 0)), Ob g10 (.cells #[.pointer (some ⟨gr, 0, none⟩)] 129 (0, 0)), Ob g7 (.cells #[.bool false] 4 (0, 0)), Ob g4 (.cells #[.int .i64 0, .int .i64 0, .int .i64 0, .int .i64 0, .int .i64 0, .int .i64 0, .string (⟨#[]⟩), .string (⟨#[]⟩)] 33 (0, 0)), Ob g1 (.cells #[.pointer (some ⟨gr, 0, none⟩)] 48 (0, 0)), Ob gr (.cells #[.slice p1 r.ms.length c1, .slice p2 r.ms.length c2, .int .i64 (r.bytes), .bool r.greet, .bool r.hello.e, .bool r.hello.f, .bool r.hello.n, .string (r.hello.name), .string (r.hello.peer), .bool r.told, .string (r.left), .int .i64 (r.done), .int .i64 (r.wrong)] 108 (0, 0)), Rw 33 8 p1 r.ms.length c1 (msgsV r.ms), Rw 3 1 p2 r.ms.length c2 (zsV r.zs), Old w (fps (rdL gr r p1 c1 p2 c2))] := H23
    have hsp1 := H23.rwSome (k := 7) rfl (by omega)
    have hsp2 := H23.rwSome (k := 8) rfl (by omega)
    refine g_weak [(1, .pointer (some ⟨g1, 0, none⟩)), (2, .pointer (some ⟨g4, 0, none⟩)), (3, .pointer (some ⟨g7, 0, none⟩)), (4, .int .i64 ((i : Int))), (5, .pointer (some ⟨gx, 0, none⟩))] ⟨rfl, rfl, rfl, rfl, rfl, trivial⟩ ?_
    refine R.g_block ?_
    refine R.g_seq ?_
    refine R.g_anyY [] (fun wx => S wx [NC wq11.heap.size W22, Ob gx (.cells m.cells 33 (0, 0)), Ob g10 (.cells #[.pointer (some ⟨gr, 0, none⟩)] 129 (0, 0)), Ob g7 (.cells #[.bool false] 4 (0, 0)), Ob g4 (.cells #[.int .i64 0, .int .i64 0, .int .i64 0, .int .i64 0, .int .i64 0, .int .i64 0, .string (⟨#[]⟩), .string (⟨#[]⟩)] 33 (0, 0)), Ob g1 (.cells #[.pointer (some ⟨gr, 0, none⟩)] 48 (0, 0)), Ob gr (.cells #[.slice p1 r.ms.length c1, .slice p2 r.ms.length c2, .int .i64 (r.bytes), .bool r.greet, .bool r.hello.e, .bool r.hello.f, .bool r.hello.n, .string (r.hello.name), .string (r.hello.peer), .bool r.told, .string (r.left), .int .i64 (r.done), .int .i64 (r.wrong)] 108 (0, 0)), Rw 33 8 p1 r.ms.length c1 (msgsV r.ms), Rw 3 1 p2 r.ms.length c2 (zsV r.zs), Old w (fps (rdL gr r p1 c1 p2 c2))]) (fun wx => S wx [NC wq11.heap.size W22, Ob gx (.cells m.cells 33 (0, 0)), Ob g10 (.cells #[.pointer (some ⟨gr, 0, none⟩)] 129 (0, 0)), Ob g7 (.cells #[.bool false] 4 (0, 0)), Ob g4 (.cells #[.int .i64 0, .int .i64 0, .int .i64 0, .int .i64 0, .int .i64 0, .int .i64 0, .string (⟨#[]⟩), .string (⟨#[]⟩)] 33 (0, 0)), Ob g1 (.cells #[.pointer (some ⟨gr, 0, none⟩)] 48 (0, 0)), Rw 33 8 p1 r.ms.length c1 (msgsV r.ms), Rw 3 1 p2 r.ms.length c2 (zsV r.zs), Old w (fps (rdL gr r p1 c1 p2 c2))]) [17] (by kernel_rfl) (by kernel_rfl) (fun ⟨_, _, h⟩ => h) H23 (fun wq24 H25 => ?_)
    refine y_take (v := .pointer (some ⟨gr, 0, none⟩)) 0 rfl (wt0 rfl) rfl rfl rfl (by kernel_rfl) (by kernel_rfl) (by kernel_rfl) (by kernel_rfl) (by kernel_rfl) H25 (fun wx H => x_load1 H 5 rfl rfl Try.underlying48 rfl rfl rfl) ?_
    refine y_pure (v := .pointer (some ⟨gr, 0, none⟩)) 1 rfl (wt0 rfl) rfl rfl rfl (by kernel_rfl) (by kernel_rfl) (by kernel_rfl) (by kernel_rfl) (fun wx => x_nilCheck rfl rfl) ?_
    refine y_pure (v := .pointer (some ⟨gr, 0, none⟩)) 2 rfl (wt0 rfl) rfl rfl rfl (by kernel_rfl) (by kernel_rfl) (by kernel_rfl) (by kernel_rfl) (fun wx => x_fieldAddr rfl rfl fo108_0 rfl) ?_
    refine y_pure (v := .pointer (some ⟨gr, 2, none⟩)) 3 rfl (wt0 rfl) rfl rfl rfl (by kernel_rfl) (by kernel_rfl) (by kernel_rfl) (by kernel_rfl) (fun wx => x_fieldAddr rfl rfl fo106_2 rfl) ?_
    refine y_take (v := .int .i64 (r.bytes)) 4 rfl (wt0 rfl) rfl rfl rfl (by kernel_rfl) (by kernel_rfl) (by kernel_rfl) (by kernel_rfl) (by kernel_rfl) H25 (fun wx H => x_load1 H 6 rfl rfl Try.underlying3 rfl rfl rfl) ?_
    refine y_take (v := .pointer (some ⟨gr, 0, none⟩)) 5 rfl (wt0 rfl) rfl rfl rfl (by kernel_rfl) (by kernel_rfl) (by kernel_rfl) (by kernel_rfl) (by kernel_rfl) H25 (fun wx H => x_load1 H 5 rfl rfl Try.underlying48 rfl rfl rfl) ?_
    refine y_pure (v := .pointer (some ⟨gr, 0, none⟩)) 6 rfl (wt0 rfl) rfl rfl rfl (by kernel_rfl) (by kernel_rfl) (by kernel_rfl) (by kernel_rfl) (fun wx => x_nilCheck rfl rfl) ?_
    refine y_pure (v := .pointer (some ⟨gr, 0, none⟩)) 7 rfl (wt0 rfl) rfl rfl rfl (by kernel_rfl) (by kernel_rfl) (by kernel_rfl) (by kernel_rfl) (fun wx => x_fieldAddr rfl rfl fo108_0 rfl) ?_
    refine y_pure (v := .pointer (some ⟨gr, 1, none⟩)) 8 rfl (wt0 rfl) rfl rfl rfl (by kernel_rfl) (by kernel_rfl) (by kernel_rfl) (by kernel_rfl) (fun wx => x_fieldAddr rfl rfl fo106_1 rfl) ?_
    refine y_take (v := .slice p2 r.ms.length c2) 9 rfl (wt0 rfl) rfl rfl rfl (by kernel_rfl) (by kernel_rfl) (by kernel_rfl) (by kernel_rfl) (by kernel_rfl) H25 (fun wx H => x_load1 H 6 rfl rfl Try.underlying60 rfl rfl rfl) ?_
    refine y_pure (v := .int .i64 ((i : Int))) 10 rfl (wt0 rfl) rfl rfl rfl (by kernel_rfl) (by kernel_rfl) (by kernel_rfl) (by kernel_rfl) (fun wx => x_move rfl rfl) ?_
    refine y_pure (v := .pointer ((p2).map fun q => q.add (i * 1))) 11 rfl (wt0 rfl) rfl rfl rfl (by kernel_rfl) (by kernel_rfl) (by kernel_rfl) (by kernel_rfl) (fun wx => x_idxP i (hsp2) rfl rfl rfl Try.underlying60 sz3 (by omega)) ?_
    refine y_take (v := .int .i64 ((r.zs.getD i 0))) 12 rfl (wt0 rfl) rfl rfl rfl (by kernel_rfl) (by kernel_rfl) (by kernel_rfl) (by kernel_rfl) (by kernel_rfl) H25 (fun wx H => x_loadR1 i (H.rwReads (k := 8) rfl) (by omega) rfl rfl Try.underlying3 rfl (zsV_at hz)) ?_
    refine y_pure (v := .int .i64 (r.bytes - (r.zs.getD i 0))) 13 rfl (wt0 rfl) rfl rfl rfl (by kernel_rfl) (by kernel_rfl) (by kernel_rfl) (by kernel_rfl) (fun wx => x_bin rfl rfl rfl (b_sub (w64 (by omega)))) ?_
    refine y_pure (v := .pointer (some ⟨gr, 0, none⟩)) 14 rfl (wt0 rfl) rfl rfl rfl (by kernel_rfl) (by kernel_rfl) (by kernel_rfl) (by kernel_rfl) (fun wx => x_nilCheck rfl rfl) ?_
    refine y_pure (v := .pointer (some ⟨gr, 0, none⟩)) 15 rfl (wt0 rfl) rfl rfl rfl (by kernel_rfl) (by kernel_rfl) (by kernel_rfl) (by kernel_rfl) (fun wx => x_fieldAddr rfl rfl fo108_0 rfl) ?_
    refine y_pure (v := .pointer (some ⟨gr, 2, none⟩)) 16 rfl (wt0 rfl) rfl rfl rfl (by kernel_rfl) (by kernel_rfl) (by kernel_rfl) (by kernel_rfl) (fun wx => x_fieldAddr rfl rfl fo106_2 rfl) ?_
    refine y_one (i := 17) (by kernel_rfl) rfl ?_
    refine s_store H25 6 (wt0 rfl) rfl rfl rfl rfl rfl sz3 rfl rfl (cs' := #[.slice p1 r.ms.length c1, .slice p2 r.ms.length c2, .int .i64 (r.bytes - (r.zs.getD i 0)), .bool r.greet, .bool r.hello.e, .bool r.hello.f, .bool r.hello.n, .string (r.hello.name), .string (r.hello.peer), .bool r.told, .string (r.left), .int .i64 (r.done), .int .i64 (r.wrong)]) rfl ?_
    intro wq26 H27
    refine y_kt rfl (H27.mask [true, true, true, true, true, true, false, true, true, true]) ?_
    refine y_done (by kernel_rfl) ?_
    refine g_then ?_
    refine g_weak [(1, .pointer (some ⟨g1, 0, none⟩)), (2, .pointer (some ⟨g4, 0, none⟩)), (3, .pointer (some ⟨g7, 0, none⟩)), (4, .int .i64 ((i : Int))), (5, .pointer (some ⟨gx, 0, none⟩))] ⟨rfl, rfl, rfl, rfl, rfl, trivial⟩ ?_
    refine R.g_seq ?_
    refine R.g_anyY [] (fun wx => S wx [Ob g1 (.cells #[.pointer (some ⟨gr, 0, none⟩)] 48 (0, 0)), Ob gr (.cells #[.slice p1 r.ms.length c1, .slice p2 r.ms.length c2, .int .i64 (r.bytes - (r.zs.getD i 0)), .bool r.greet, .bool r.hello.e, .bool r.hello.f, .bool r.hello.n, .string (r.hello.name), .string (r.hello.peer), .bool r.told, .string (r.left), .int .i64 (r.done), .int .i64 (r.wrong)] 108 (0, 0))]) (fun wx => S wx [Ob g1 (.cells #[.pointer (some ⟨gr, 0, none⟩)] 48 (0, 0))]) [21, 25] (by kernel_rfl) (by kernel_rfl) (fun ⟨_, _, h⟩ => h) H27 (fun wq28 H29 => ?_)
    refine y_take (v := .pointer (some ⟨gr, 0, none⟩)) 0 rfl (wt0 rfl) rfl rfl rfl (by kernel_rfl) (by kernel_rfl) (by kernel_rfl) (by kernel_rfl) (by kernel_rfl) (H29.mask [false, false, false, false, false, true, true, false, false, false]) (fun wx H => x_load1 H 0 rfl rfl Try.underlying48 rfl rfl rfl) ?_
    refine y_take0 (v := .pointer (some ⟨gr, 0, none⟩)) 1 rfl (wt0 rfl) rfl rfl rfl (by kernel_rfl) (by kernel_rfl) (by kernel_rfl) (by kernel_rfl) (H29.mask [false, false, false, false, false, true, false, false, false, false]) (fun wx H => x_load1 H 0 rfl rfl Try.underlying48 rfl rfl rfl) ?_
    refine y_take (v := .pointer (some ⟨gr, 0, none⟩)) 2 rfl (wt0 rfl) rfl rfl rfl (by kernel_rfl) (by kernel_rfl) (by kernel_rfl) (by kernel_rfl) (by kernel_rfl) (H29.mask [false, false, false, false, false, true, true, false, false, false]) (fun wx H => x_load1 H 0 rfl rfl Try.underlying48 rfl rfl rfl) ?_
    refine y_pure (v := .pointer (some ⟨gr, 0, none⟩)) 3 rfl (wt0 rfl) rfl rfl rfl (by kernel_rfl) (by kernel_rfl) (by kernel_rfl) (by kernel_rfl) (fun wx => x_nilCheck rfl rfl) ?_
    refine y_pure (v := .pointer (some ⟨gr, 0, none⟩)) 4 rfl (wt0 rfl) rfl rfl rfl (by kernel_rfl) (by kernel_rfl) (by kernel_rfl) (by kernel_rfl) (fun wx => x_fieldAddr rfl rfl fo108_0 rfl) ?_
    refine y_pure (v := .pointer (some ⟨gr, 0, none⟩)) 5 rfl (wt0 rfl) rfl rfl rfl (by kernel_rfl) (by kernel_rfl) (by kernel_rfl) (by kernel_rfl) (fun wx => x_fieldAddr rfl rfl fo106_0 rfl) ?_
    refine y_take (v := .slice p1 r.ms.length c1) 6 rfl (wt0 rfl) rfl rfl rfl (by kernel_rfl) (by kernel_rfl) (by kernel_rfl) (by kernel_rfl) (by kernel_rfl) (H29.mask [false, false, false, false, false, true, true, false, false, false]) (fun wx H => x_load1 H 1 rfl rfl Try.underlying46 rfl rfl rfl) ?_
    refine y_pure (v := .int .i64 ((i : Int))) 7 rfl (wt0 rfl) rfl rfl rfl (by kernel_rfl) (by kernel_rfl) (by kernel_rfl) (by kernel_rfl) (fun wx => x_move rfl rfl) ?_
    refine y_pure (v := .int .i64 ((i : Int) + 1)) 8 rfl (wt0 rfl) rfl rfl rfl (by kernel_rfl) (by kernel_rfl) (by kernel_rfl) (by kernel_rfl) (fun wx => x_bin rfl rfl rfl (b_add (w64 (by omega)))) ?_
    refine y_pure (v := .slice (cutP p1 (i + 1) c1 8) (r.ms.length - (i + 1)) (c1 - (i + 1))) 9 rfl (wt0 rfl) rfl rfl rfl (by kernel_rfl) (by kernel_rfl) (by kernel_rfl) (by kernel_rfl) (fun wx => x_cut (i + 1) rfl rfl rfl Try.underlying46 sz33 (by omega)) ?_
    refine y_take (v := .pointer (some ⟨gr, 0, none⟩)) 10 rfl (wt0 rfl) rfl rfl rfl (by kernel_rfl) (by kernel_rfl) (by kernel_rfl) (by kernel_rfl) (by kernel_rfl) (H29.mask [false, false, false, false, false, true, true, false, false, false]) (fun wx H => x_load1 H 0 rfl rfl Try.underlying48 rfl rfl rfl) ?_
    refine y_pure (v := .pointer (some ⟨gr, 0, none⟩)) 11 rfl (wt0 rfl) rfl rfl rfl (by kernel_rfl) (by kernel_rfl) (by kernel_rfl) (by kernel_rfl) (fun wx => x_nilCheck rfl rfl) ?_
    refine y_pure (v := .pointer (some ⟨gr, 0, none⟩)) 12 rfl (wt0 rfl) rfl rfl rfl (by kernel_rfl) (by kernel_rfl) (by kernel_rfl) (by kernel_rfl) (fun wx => x_fieldAddr rfl rfl fo108_0 rfl) ?_
    refine y_pure (v := .pointer (some ⟨gr, 1, none⟩)) 13 rfl (wt0 rfl) rfl rfl rfl (by kernel_rfl) (by kernel_rfl) (by kernel_rfl) (by kernel_rfl) (fun wx => x_fieldAddr rfl rfl fo106_1 rfl) ?_
    refine y_take (v := .slice p2 r.ms.length c2) 14 rfl (wt0 rfl) rfl rfl rfl (by kernel_rfl) (by kernel_rfl) (by kernel_rfl) (by kernel_rfl) (by kernel_rfl) (H29.mask [false, false, false, false, false, true, true, false, false, false]) (fun wx H => x_load1 H 1 rfl rfl Try.underlying60 rfl rfl rfl) ?_
    refine y_pure (v := .int .i64 ((i : Int))) 15 rfl (wt0 rfl) rfl rfl rfl (by kernel_rfl) (by kernel_rfl) (by kernel_rfl) (by kernel_rfl) (fun wx => x_move rfl rfl) ?_
    refine y_pure (v := .int .i64 ((i : Int) + 1)) 16 rfl (wt0 rfl) rfl rfl rfl (by kernel_rfl) (by kernel_rfl) (by kernel_rfl) (by kernel_rfl) (fun wx => x_bin rfl rfl rfl (b_add (w64 (by omega)))) ?_
    refine y_pure (v := .slice (cutP p2 (i + 1) c2 1) (r.ms.length - (i + 1)) (c2 - (i + 1))) 17 rfl (wt0 rfl) rfl rfl rfl (by kernel_rfl) (by kernel_rfl) (by kernel_rfl) (by kernel_rfl) (fun wx => x_cut (i + 1) rfl rfl rfl Try.underlying60 sz3 (by omega)) ?_
    refine y_pure (v := .pointer (some ⟨gr, 0, none⟩)) 18 rfl (wt0 rfl) rfl rfl rfl (by kernel_rfl) (by kernel_rfl) (by kernel_rfl) (by kernel_rfl) (fun wx => x_nilCheck rfl rfl) ?_
    refine y_pure (v := .pointer (some ⟨gr, 0, none⟩)) 19 rfl (wt0 rfl) rfl rfl rfl (by kernel_rfl) (by kernel_rfl) (by kernel_rfl) (by kernel_rfl) (fun wx => x_fieldAddr rfl rfl fo108_0 rfl) ?_
    refine y_pure (v := .pointer (some ⟨gr, 0, none⟩)) 20 rfl (wt0 rfl) rfl rfl rfl (by kernel_rfl) (by kernel_rfl) (by kernel_rfl) (by kernel_rfl) (fun wx => x_fieldAddr rfl rfl fo106_0 rfl) ?_
    refine y_one (i := 21) (by kernel_rfl) rfl ?_
    refine s_store H29 6 (wt0 rfl) rfl rfl rfl rfl rfl sz46 rfl rfl (cs' := #[.slice (cutP p1 (i + 1) c1 8) (r.ms.length - (i + 1)) (c1 - (i + 1)), .slice p2 r.ms.length c2, .int .i64 (r.bytes - (r.zs.getD i 0)), .bool r.greet, .bool r.hello.e, .bool r.hello.f, .bool r.hello.n, .string (r.hello.name), .string (r.hello.peer), .bool r.told, .string (r.left), .int .i64 (r.done), .int .i64 (r.wrong)]) rfl ?_
    intro wq30 H31
    refine y_kt rfl (H31.mask [false, false, false, false, false, true, false, false, false, false]) ?_
    refine y_pure (v := .pointer (some ⟨gr, 0, none⟩)) 22 rfl (wt0 rfl) rfl rfl rfl (by kernel_rfl) (by kernel_rfl) (by kernel_rfl) (by kernel_rfl) (fun wx => x_nilCheck rfl rfl) ?_
    refine y_pure (v := .pointer (some ⟨gr, 0, none⟩)) 23 rfl (wt0 rfl) rfl rfl rfl (by kernel_rfl) (by kernel_rfl) (by kernel_rfl) (by kernel_rfl) (fun wx => x_fieldAddr rfl rfl fo108_0 rfl) ?_
    refine y_pure (v := .pointer (some ⟨gr, 1, none⟩)) 24 rfl (wt0 rfl) rfl rfl rfl (by kernel_rfl) (by kernel_rfl) (by kernel_rfl) (by kernel_rfl) (fun wx => x_fieldAddr rfl rfl fo106_1 rfl) ?_
    refine y_one (i := 25) (by kernel_rfl) rfl ?_
    refine s_store H31 6 (wt0 rfl) rfl rfl rfl rfl rfl sz60 rfl rfl (cs' := #[.slice (cutP p1 (i + 1) c1 8) (r.ms.length - (i + 1)) (c1 - (i + 1)), .slice (cutP p2 (i + 1) c2 1) (r.ms.length - (i + 1)) (c2 - (i + 1)), .int .i64 (r.bytes - (r.zs.getD i 0)), .bool r.greet, .bool r.hello.e, .bool r.hello.f, .bool r.hello.n, .string (r.hello.name), .string (r.hello.peer), .bool r.told, .string (r.left), .int .i64 (r.done), .int .i64 (r.wrong)]) rfl ?_
    intro wq32 H33
    refine y_kt rfl (H33.mask [false, false, false, false, false, true, false, false, false, false]) ?_
    refine y_done (by kernel_rfl) ?_
    refine g_then ?_
    refine g_weak [(2, .pointer (some ⟨g4, 0, none⟩)), (3, .pointer (some ⟨g7, 0, none⟩)), (5, .pointer (some ⟨gx, 0, none⟩))] ⟨rfl, rfl, rfl, trivial⟩ ?_
    refine R.g_seq ?_
    refine R.g_region ?_
    refine R.l_of rfl (fun ⟨_, _, h⟩ => h) (s_val (v := .agg m.cells) (wt0 rfl) rfl rfl (x_loadA H33 1 rfl rfl Try.underlying33 rfl sz33 rfl rfl rfl) ?_)
    refine R.l_of rfl (fun ⟨_, _, h⟩ => h) (s_store H33 4 (wt0 rfl) rfl rfl rfl rfl rfl sz33 rfl rfl (cs' := m.cells) rfl ?_)
    intro wq34 H35
    refine R.l_of rfl (fun ⟨_, _, h⟩ => h) (s_store H35 3 (wt0 rfl) rfl rfl rfl rfl rfl sz4 rfl rfl (cs' := #[.bool true]) rfl ?_)
    intro wq36 H37
    refine R.g_nil ?_
    refine g_then ?_
    refine R.g_ret ?_
    refine g_in_ret ?_
    have H38 := (H37.rwDrop (k := 7) rfl (i + 1) (by omega)).rwDrop (k := 8) rfl (i + 1) (by omega)
    exact r_stop 0 H38 rfl ⟨⟨(i, m), hm⟩, rfl, rfl⟩ (H38.mask [false, false, true, true, true, true, true, true, true, true])
  · rintro D _ _ W39 hD hS ⟨rfl, rfl⟩ H40
    have hms : r.ms = [] := by have := congrArg List.length hS; rw [enumE_len] at this; exact List.eq_nil_of_length_eq_zero this.symm
    replace H40 : S W39 [Ob D (.deferred (some [])), Ob g10 (.cells #[.pointer (some ⟨gr, 0, none⟩)] 129 (0, 0)), Ob g7 (.cells #[.bool false] 4 (0, 0)), Ob g4 (.cells #[.int .i64 0, .int .i64 0, .int .i64 0, .int .i64 0, .int .i64 0, .int .i64 0, .string (⟨#[]⟩), .string (⟨#[]⟩)] 33 (0, 0)), Ob g1 (.cells #[.pointer (some ⟨gr, 0, none⟩)] 48 (0, 0)), Ob gr (.cells #[.slice p1 r.ms.length c1, .slice p2 r.ms.length c2, .int .i64 (r.bytes), .bool r.greet, .bool r.hello.e, .bool r.hello.f, .bool r.hello.n, .string (r.hello.name), .string (r.hello.peer), .bool r.told, .string (r.left), .int .i64 (r.done), .int .i64 (r.wrong)] 108 (0, 0)), Rw 33 8 p1 r.ms.length c1 (msgsV r.ms), Rw 3 1 p2 r.ms.length c2 (zsV r.zs), Old w (fps (rdL gr r p1 c1 p2 c2))] := H40
    refine g_in ?_
    refine g_then ?_
    refine R.g_seq ?_
    refine R.g_region ?_
    refine R.l_of rfl (fun h => hL h) (s_val (v := .agg #[.int .i64 0, .int .i64 0, .int .i64 0, .int .i64 0, .int .i64 0, .int .i64 0, .string (⟨#[]⟩), .string (⟨#[]⟩)]) (wt0 rfl) rfl rfl (x_build (vs := []) rfl rfl (cells := #[.int .i64 0, .int .i64 0, .int .i64 0, .int .i64 0, .int .i64 0, .int .i64 0, .string (⟨#[]⟩), .string (⟨#[]⟩)]) (by kernel_rfl)) ?_)
    refine R.l_of rfl (fun h => hL h) (s_store H40 3 (wt0 rfl) rfl rfl rfl rfl rfl sz33 rfl rfl (cs' := #[.int .i64 0, .int .i64 0, .int .i64 0, .int .i64 0, .int .i64 0, .int .i64 0, .string (⟨#[]⟩), .string (⟨#[]⟩)]) rfl ?_)
    intro wq41 H42
    refine R.l_of rfl (fun h => hL h) (s_store H42 2 (wt0 rfl) rfl rfl rfl rfl rfl sz4 rfl rfl (cs' := #[.bool false]) rfl ?_)
    intro wq43 H44
    refine R.g_nil ?_
    refine g_then ?_
    refine R.g_ret ?_
    refine fin_mark H44 0 rfl [.cell 2 33, .cell 3 4] [.agg #[.int .i64 0, .int .i64 0, .int .i64 0, .int .i64 0, .int .i64 0, .int .i64 0, .string (⟨#[]⟩), .string (⟨#[]⟩)], .bool false] rfl (fun wq45 H46 => ⟨⟨⟨_, rfl, run_loadA (H46.ob (k := 3) rfl) Try.underlying33 rfl sz33 rfl rfl⟩, ⟨_, rfl, run_load1 Try.underlying4 rfl (H46.cell (k := 2) rfl rfl)⟩, trivial⟩, ?_⟩)
    replace H46 : S wq45 [Ob D (.deferred none), Ob g10 (.cells #[.pointer (some ⟨gr, 0, none⟩)] 129 (0, 0)), Ob g7 (.cells #[.bool false] 4 (0, 0)), Ob g4 (.cells #[.int .i64 0, .int .i64 0, .int .i64 0, .int .i64 0, .int .i64 0, .int .i64 0, .string (⟨#[]⟩), .string (⟨#[]⟩)] 33 (0, 0)), Ob g1 (.cells #[.pointer (some ⟨gr, 0, none⟩)] 48 (0, 0)), Ob gr (.cells #[.slice p1 r.ms.length c1, .slice p2 r.ms.length c2, .int .i64 (r.bytes), .bool r.greet, .bool r.hello.e, .bool r.hello.f, .bool r.hello.n, .string (r.hello.name), .string (r.hello.peer), .bool r.told, .string (r.left), .int .i64 (r.done), .int .i64 (r.wrong)] 108 (0, 0)), Rw 33 8 p1 r.ms.length c1 (msgsV r.ms), Rw 3 1 p2 r.ms.length c2 (zsV r.zs), Old w (fps (rdL gr r p1 c1 p2 c2))] := H46
    rw [nextR_nil hms]
    exact ⟨rfl, p1, c1, p2, c2, H46.mask [false, false, false, false, false, true, true, true, true]⟩
  · rintro D _ _ W47 hD ⟨k, hk, hpre⟩ ⟨x, rfl, rfl⟩ H48
    have hx0 := enumE_head hpre
    obtain ⟨⟨i, m⟩, hm⟩ := x
    simp only at hx0
    subst hx0
    replace H48 : S W47 [Ob D (.deferred (some [])), Ob g10 (.cells #[.pointer (some ⟨gr, 0, none⟩)] 129 (0, 0)), Ob g7 (.cells #[.bool true] 4 (0, 0)), Ob g4 (.cells m.cells 33 (0, 0)), Ob g1 (.cells #[.pointer (some ⟨gr, 0, none⟩)] 48 (0, 0)), Ob gr (.cells #[.slice (cutP p1 (0 + 1) c1 8) (r.ms.length - (0 + 1)) (c1 - (0 + 1)), .slice (cutP p2 (0 + 1) c2 1) (r.ms.length - (0 + 1)) (c2 - (0 + 1)), .int .i64 (r.bytes - (r.zs.getD 0 0)), .bool r.greet, .bool r.hello.e, .bool r.hello.f, .bool r.hello.n, .string (r.hello.name), .string (r.hello.peer), .bool r.told, .string (r.left), .int .i64 (r.done), .int .i64 (r.wrong)] 108 (0, 0)), Rw 33 8 (cutP p1 (0 + 1) c1 8) (r.ms.length - (0 + 1)) (c1 - (0 + 1)) ((msgsV r.ms).drop ((0 + 1) * 8)), Rw 3 1 (cutP p2 (0 + 1) c2 1) (r.ms.length - (0 + 1)) (c2 - (0 + 1)) ((zsV r.zs).drop ((0 + 1) * 1)), Old w (fps (rdL gr r p1 c1 p2 c2))] := H48
    refine g_in_ret ?_
    refine g_then_ret ?_
    refine fin_mark H48 0 rfl [.cell 2 33, .cell 3 4] [.agg m.cells, .bool true] rfl (fun wq49 H50 => ⟨⟨⟨_, rfl, run_loadA (H50.ob (k := 3) rfl) Try.underlying33 rfl sz33 rfl rfl⟩, ⟨_, rfl, run_load1 Try.underlying4 rfl (H50.cell (k := 2) rfl rfl)⟩, trivial⟩, ?_⟩)
    replace H50 : S wq49 [Ob D (.deferred none), Ob g10 (.cells #[.pointer (some ⟨gr, 0, none⟩)] 129 (0, 0)), Ob g7 (.cells #[.bool true] 4 (0, 0)), Ob g4 (.cells m.cells 33 (0, 0)), Ob g1 (.cells #[.pointer (some ⟨gr, 0, none⟩)] 48 (0, 0)), Ob gr (.cells #[.slice (cutP p1 (0 + 1) c1 8) (r.ms.length - (0 + 1)) (c1 - (0 + 1)), .slice (cutP p2 (0 + 1) c2 1) (r.ms.length - (0 + 1)) (c2 - (0 + 1)), .int .i64 (r.bytes - (r.zs.getD 0 0)), .bool r.greet, .bool r.hello.e, .bool r.hello.f, .bool r.hello.n, .string (r.hello.name), .string (r.hello.peer), .bool r.told, .string (r.left), .int .i64 (r.done), .int .i64 (r.wrong)] 108 (0, 0)), Rw 33 8 (cutP p1 (0 + 1) c1 8) (r.ms.length - (0 + 1)) (c1 - (0 + 1)) ((msgsV r.ms).drop ((0 + 1) * 8)), Rw 3 1 (cutP p2 (0 + 1) c2 1) (r.ms.length - (0 + 1)) (c2 - (0 + 1)) ((zsV r.zs).drop ((0 + 1) * 1)), Old w (fps (rdL gr r p1 c1 p2 c2))] := H50
    rw [nextR_at hr hm]
    have HF := H50.mask [false, false, false, false, false, true, true, true, true]
    have e1 : r.ms.length - (0 + 1) = (r.ms.drop 1).length := by rw [List.length_drop]
    refine ⟨rfl, cutP p1 1 c1 8, c1 - 1, cutP p2 1 c2 1, c2 - 1, ?_⟩
    have e2 := msgsV_drop r.ms 1
    have e3 := zsV_drop r.zs 1
    simp only [mask, Nat.zero_add] at HF e1
    rw [e1, e2, e3] at HF
    exact HF
end Go.Proofs.Ytcjmdkklbbollaa
namespace Go.Proofs.Ytcjmdkklbbollaa
open Go.RowKit

/-- One step of a reader: what is whole is taken from the front. -/
def stepR (r : Rdr) : Rdr × Bool :=
  if r.greet = true then
    if (readR r.left).2.2.2 = 12 then ({ r with hello := (readR r.left).1, wrong := r.done + (readR r.left).2.2.1, left := ⟨#[]⟩ }, false)
    else if (readR r.left).2.2.2 = 0 then ({ r with hello := (readR r.left).1, greet := false, told := true, left := r.left.extract ((readR r.left).2.1).toNat r.left.size, done := r.done + (readR r.left).2.1 }, true)
    else ({ r with hello := (readR r.left).1 }, false)
  else
    if (decS r.left).2.2.2 = 12 then ({ r with wrong := r.done + (decS r.left).2.2.1, left := ⟨#[]⟩ }, false)
    else if (decS r.left).2.2.2 = 0 then ({ r with ms := r.ms ++ [(decS r.left).1], zs := r.zs ++ [(decS r.left).2.1], bytes := r.bytes + (decS r.left).2.1, left := r.left.extract ((decS r.left).2.1).toNat r.left.size, done := r.done + (decS r.left).2.1 }, true)
    else (r, false)
/-- What Decode used, and where the wrong byte is. -/
theorem dec_used (s : ByteArray) (hs : s.size ≤ 65536) : ((decS s).2.2.2 = 0 → 4 ≤ (decS s).2.1 ∧ (decS s).2.1 ≤ s.size) ∧ ((decS s).2.2.2 = 12 → 0 ≤ (decS s).2.2.1 ∧ (decS s).2.2.1 ≤ s.size) := by
  have hl := stop_law s hs
  unfold stopS at hl
  refine ⟨fun h => ⟨?_, ?_⟩, fun h => ?_⟩
  · rw [decS_less s hs] at h ⊢
    by_cases hb : (4200 : Int) < rd4 s
    · rw [if_pos hb] at h; cases h
    rw [if_neg hb] at h ⊢
    by_cases h4 : (s.size : Int) < 4
    · rw [if_pos h4] at h; cases h
    rw [if_neg h4] at h ⊢
    by_cases h0 : (rd4 s : Int) = 0
    · rw [if_pos h0]; show (4 : Int) ≤ 4; omega
    rw [if_neg h0] at h ⊢
    by_cases h5 : (s.size : Int) < 5
    · rw [if_pos h5] at h; cases h
    rw [if_neg h5] at h ⊢
    unfold restS at h ⊢
    by_cases hk : (kindP (bt' s 4) : Int) = 0
    · rw [if_pos hk] at h; cases h
    rw [if_neg hk] at h ⊢
    by_cases hm : mayP (fields (kindP (bt' s 4))) ((rd4 s : Int) - 1) = true
    · rw [if_pos hm] at h ⊢
      unfold tailS at h ⊢
      by_cases hr : (0 : Int) ≤ rangedP (kindP (bt' s 4)) (s.extract 0 (min (s.size : Int) (4 + rd4 s)).toNat)
      · rw [if_pos hr] at h; cases h
      rw [if_neg hr] at h ⊢
      by_cases hz : (s.size : Int) < 4 + rd4 s
      · rw [if_pos hz] at h; cases h
      rw [if_neg hz]; show (4 : Int) ≤ 4 + rd4 s; omega
    · rw [if_neg hm] at h; cases h
  · have h2 := hl.2.1
    rw [if_neg (by omega)] at h2; exact h2.2
  · have h2 := hl.2.1
    rw [if_pos h] at h2; exact h2
theorem badAt_lt {s : ByteArray} {i : Nat} (h : badAt s = some i) : i < s.size ∧ i < 28 := by
  unfold badAt at h
  have := List.mem_of_find?_eq_some h
  rw [List.mem_range] at this
  omega
theorem read_used (s : ByteArray) (hs : s.size ≤ 65536) : ((readR s).2.2.2 = 0 ∨ (readR s).2.2.2 = 8 ∨ (readR s).2.2.2 = 12) ∧ ((readR s).2.2.2 = 0 → (readR s).2.1 = 68 ∧ 68 ≤ s.size) ∧ ((readR s).2.2.2 = 12 → 0 ≤ (readR s).2.2.1 ∧ (readR s).2.2.1 ≤ s.size) := by
  unfold readR
  rw [if_neg (by omega)]
  cases hb : badAt s with
  | some i =>
    have := badAt_lt hb
    refine ⟨.inr (.inr rfl), fun h => ?_, fun _ => ?_⟩
    · cases h
    · show (0 : Int) ≤ (i : Int) ∧ (i : Int) ≤ _; omega
  | none =>
    by_cases h : s.size < 68
    · simp only [if_pos h]
      refine ⟨by simp, fun h => by simp at h, fun h => by simp at h⟩
    · simp only [if_neg h]
      refine ⟨by simp, fun _ => ⟨by simp, by omega⟩, fun h => by simp at h⟩
theorem step_ok {r : Rdr} {B : Nat} (h : r.Ok B) : (stepR r).1.Ok B ∧ ((stepR r).2 = true → (stepR r).1.left.size < r.left.size) := by
  obtain ⟨h1, h2, h3, h4, h5, h6, h7, h8⟩ := h
  have hd := dec_used r.left h8
  have hh := read_used r.left h8
  have e0 : (⟨#[]⟩ : ByteArray).size = 0 := rfl
  unfold stepR
  by_cases hg : r.greet = true
  · rw [if_pos hg]
    by_cases h12 : (readR r.left).2.2.2 = 12
    · rw [if_pos h12]
      refine ⟨⟨h1, h2, h3, h4, ?_, ?_, ?_, ?_⟩, fun h => by cases h⟩ <;> simp only [e0] <;> omega
    · rw [if_neg h12]
      by_cases h0 : (readR r.left).2.2.2 = 0
      · rw [if_pos h0]
        obtain ⟨u1, u2⟩ := hh.2.1 h0
        have es : ((r.left.extract ((readR r.left).2.1).toNat r.left.size).size : Int) = r.left.size - (readR r.left).2.1 := by rw [ByteArray.size_extract]; omega
        refine ⟨⟨h1, h2, h3, h4, ?_, ?_, ?_, ?_⟩, fun _ => ?_⟩ <;> simp only <;> omega
      · rw [if_neg h0]
        exact ⟨⟨h1, h2, h3, h4, h5, h6, h7, h8⟩, fun h => by cases h⟩
  · rw [if_neg hg]
    by_cases h12 : (decS r.left).2.2.2 = 12
    · rw [if_pos h12]
      refine ⟨⟨h1, h2, h3, h4, ?_, ?_, ?_, ?_⟩, fun h => by cases h⟩ <;> simp only [e0] <;> omega
    · rw [if_neg h12]
      by_cases h0 : (decS r.left).2.2.2 = 0
      · rw [if_pos h0]
        obtain ⟨u1, u2⟩ := hd.1 h0
        have es : ((r.left.extract ((decS r.left).2.1).toNat r.left.size).size : Int) = r.left.size - (decS r.left).2.1 := by rw [ByteArray.size_extract]; omega
        refine ⟨⟨h1, ?_, ?_, ?_, ?_, ?_, ?_, ?_⟩, fun _ => ?_⟩
        · simp only [List.length_append, h2]; rfl
        · simp only [List.sum_append, h3]; simp
        · intro z hz
          rcases List.mem_append.1 hz with hz | hz
          · exact h4 z hz
          · rw [List.mem_singleton] at hz; omega
        · simp only; omega
        · simp only; omega
        · simp only [List.length_append, List.length_singleton]; omega
        · simp only; omega
        · simp only; omega
      · rw [if_neg h0]
        exact ⟨⟨h1, h2, h3, h4, h5, h6, h7, h8⟩, fun h => by cases h⟩
end Go.Proofs.Ytcjmdkklbbollaa
