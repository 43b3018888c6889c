import Derived.Test.YtcjmdkklbbollaaAR
set_option linter.unusedSimpArgs false
set_option linter.unusedVariables false
namespace Go.Proofs.Ytcjmdkklbbollaa
open Go.RowKit

theorem cl13 : callable Try.prog 13 = true := by kernel_rfl
theorem cl20 : callable Try.prog 20 = true := by kernel_rfl
theorem fo108_1 : foO Try.prog 108 1 = some 3 := by kernel_rfl
theorem fo108_2 : foO Try.prog 108 2 = some 4 := by kernel_rfl
theorem fo108_3 : foO Try.prog 108 3 = some 9 := by kernel_rfl
theorem fo108_4 : foO Try.prog 108 4 = some 10 := by kernel_rfl
theorem fo108_5 : foO Try.prog 108 5 = some 11 := by kernel_rfl
theorem fo108_6 : foO Try.prog 108 6 = some 12 := by kernel_rfl
theorem inf3 : infO Try.prog 3 = some (some (.int .i64 0), 1, 8) := by kernel_rfl
theorem inf33 : infO Try.prog 33 = some (some (.agg #[.int .i64 0, .int .i64 0, .int .i64 0, .int .i64 0, .int .i64 0, .int .i64 0, .string (⟨#[]⟩), .string (⟨#[]⟩)]), 8, 80) := by kernel_rfl
theorem sz23 : szO Try.prog 23 = some 5 := by kernel_rfl
set_option maxRecDepth 20000 in
set_option maxHeartbeats 4000000 in
set_option maxRecDepth 20000 in
set_option maxHeartbeats 4000000 in
theorem step_p (gr : Nat) (r : Rdr) {B : Nat} (hr : r.Ok B) (p1 p2 : Option Addr) (c1 c2 : Nat) (w : World) (HB : S w (rdL gr r p1 c1 p2 c2)) :
    Calls Try.prog 73 #[.pointer (some ⟨gr, 0, none⟩)] w fun e w' => e = .returned (.bool (stepR r).2) ∧ ∃ p1' c1' p2' c2', S w' (rdL gr (stepR r).1 p1' c1' p2' c2' ++ [Old w (fps (rdL gr r p1 c1 p2 c2))]) := by
  have H0 : S w [Ob gr (.cells #[.slice p1 r.ms.length c1, .slice p2 r.ms.length c2, .int .i64 (r.bytes), .bool r.greet, .bool r.hello.e, .bool r.hello.f, .bool r.hello.n, .string (r.hello.name), .string (r.hello.peer), .bool r.told, .string (r.left), .int .i64 (r.done), .int .i64 (r.wrong)] 108 (0, 0)), Rw 33 8 p1 r.ms.length c1 (msgsV r.ms), Rw 3 1 p2 r.ms.length c2 (zsV r.zs), Old w (fps (rdL gr r p1 c1 p2 c2))] := HB.beginI
  refine enter 111 Try.func73 rfl rfl rfl ?_
  have hd := dec_used r.left hr.left
  have hh := read_used r.left hr.left
  have hq1 := hr.room
  have hq2 := hr.done
  have hq3 := hr.many
  have hq4 := hr.left
  have hq5 := hr.big
  have hq6 := hr.bb
  refine g_weak [(0, .pointer (some ⟨gr, 0, none⟩))] ⟨rfl, trivial⟩ ?_
  refine g_seq ?_
  refine g_region ?_
  refine l_of (s_val (v := .bool false) (wt0 rfl) rfl rfl (x_assign rfl rfl) ?_)
  refine g_nil ?_
  refine g_then ?_
  refine g_seq ?_
  refine g_region ?_
  refine l_of (s_alloc H0 (wt0 rfl) rfl rfl rfl ze33 ?_)
  intro g1 wq2 H3
  refine g_nil ?_
  refine g_then ?_
  refine g_seq ?_
  refine g_region ?_
  refine l_of (s_val (v := .int .i64 0) (wt0 rfl) rfl rfl (x_assign rfl rfl) ?_)
  refine l_of (s_val (v := .int .i64 0) (wt0 rfl) rfl rfl (x_assign rfl rfl) ?_)
  refine g_nil ?_
  refine g_then ?_
  refine g_seq ?_
  refine g_region ?_
  refine l_of (s_val (v := .int .i64 0) (wt0 rfl) rfl rfl (x_assign rfl rfl) ?_)
  refine g_nil ?_
  refine g_then ?_
  refine g_seq ?_
  refine g_seq ?_
  refine g_region ?_
  refine l_of (s_val (v := .pointer (some ⟨gr, 0, none⟩)) (wt0 rfl) rfl rfl (x_move rfl rfl) ?_)
  refine l_of (s_val (v := .pointer (some ⟨gr, 0, none⟩)) (wt0 rfl) rfl rfl (x_nilCheck rfl rfl) ?_)
  refine l_of (s_val (v := .pointer (some ⟨gr, 3, none⟩)) (wt0 rfl) rfl rfl (x_fieldAddr rfl rfl fo108_1 rfl) ?_)
  refine l_of (s_val (v := .bool r.greet) (wt0 rfl) rfl rfl (x_load1 H3 1 rfl rfl Try.underlying4 rfl rfl rfl) ?_)
  refine g_nil ?_
  refine g_then ?_
  rcases Bool.eq_false_or_eq_true (r.greet) with hb4 | hb4
  · skip
    refine g_cond_t rfl hb4 ?_
    refine g_region ?_
    refine l_of (s_val (v := .pointer (some ⟨gr, 0, none⟩)) (wt0 rfl) rfl rfl (x_move rfl rfl) ?_)
    refine l_of (s_val (v := .pointer (some ⟨gr, 0, none⟩)) (wt0 rfl) rfl rfl (x_move rfl rfl) ?_)
    refine l_of (s_val (v := .pointer (some ⟨gr, 0, none⟩)) (wt0 rfl) rfl rfl (x_nilCheck rfl rfl) ?_)
    refine l_of (s_val (v := .pointer (some ⟨gr, 10, none⟩)) (wt0 rfl) rfl rfl (x_fieldAddr rfl rfl fo108_4 rfl) ?_)
    refine l_of (s_val (v := .string (r.left)) (wt0 rfl) rfl rfl (x_load1 H3 1 rfl rfl Try.underlying9 rfl rfl rfl) ?_)
    refine l_of (s_call (wt0 rfl) (x_call' rfl rfl cl13) (readHello_p _ _) ?_)
    rintro _ wq5 ⟨rfl, H6⟩
    replace H6 : S wq5 [Ob g1 (.cells #[.int .i64 0, .int .i64 0, .int .i64 0, .int .i64 0, .int .i64 0, .int .i64 0, .string (⟨#[]⟩), .string (⟨#[]⟩)] 33 (0, 0)), Ob gr (.cells #[.slice p1 r.ms.length c1, .slice p2 r.ms.length c2, .int .i64 (r.bytes), .bool r.greet, .bool r.hello.e, .bool r.hello.f, .bool r.hello.n, .string (r.hello.name), .string (r.hello.peer), .bool r.told, .string (r.left), .int .i64 (r.done), .int .i64 (r.wrong)] 108 (0, 0)), Rw 33 8 p1 r.ms.length c1 (msgsV r.ms), Rw 3 1 p2 r.ms.length c2 (zsV r.zs), Old w (fps (rdL gr r p1 c1 p2 c2))] := H3.absorb (new := []) (S.of_below H6)
    refine b_ret rfl rfl ?_
    refine l_of (s_val (v := .tuple #[.agg #[.bool ((readR r.left).1.e), .bool ((readR r.left).1.f), .bool ((readR r.left).1.n), .string ((readR r.left).1.name), .string ((readR r.left).1.peer)], .int .i64 ((readR r.left).2.1), .int .i64 ((readR r.left).2.2.1), .int .i64 ((readR r.left).2.2.2)]) (wt0 rfl) rfl rfl (x_move rfl rfl) ?_)
    refine l_of (s_val (v := .agg #[.bool ((readR r.left).1.e), .bool ((readR r.left).1.f), .bool ((readR r.left).1.n), .string ((readR r.left).1.name), .string ((readR r.left).1.peer)]) (wt0 rfl) rfl rfl (x_extract rfl rfl rfl) ?_)
    refine l_of (s_val (v := .int .i64 ((readR r.left).2.1)) (wt0 rfl) rfl rfl (x_extract rfl rfl rfl) ?_)
    refine l_of (s_val (v := .int .i64 ((readR r.left).2.2.1)) (wt0 rfl) rfl rfl (x_extract rfl rfl rfl) ?_)
    refine l_of (s_val (v := .int .i64 ((readR r.left).2.2.2)) (wt0 rfl) rfl rfl (x_extract rfl rfl rfl) ?_)
    refine l_of (s_val (v := .pointer (some ⟨gr, 0, none⟩)) (wt0 rfl) rfl rfl (x_nilCheck rfl rfl) ?_)
    refine l_of (s_val (v := .pointer (some ⟨gr, 4, none⟩)) (wt0 rfl) rfl rfl (x_fieldAddr rfl rfl fo108_2 rfl) ?_)
    refine l_of (s_store H6 1 (wt0 rfl) rfl rfl rfl rfl rfl sz23 rfl rfl (cs' := #[.slice p1 r.ms.length c1, .slice p2 r.ms.length c2, .int .i64 (r.bytes), .bool r.greet, .bool ((readR r.left).1.e), .bool ((readR r.left).1.f), .bool ((readR r.left).1.n), .string ((readR r.left).1.name), .string ((readR r.left).1.peer), .bool r.told, .string (r.left), .int .i64 (r.done), .int .i64 (r.wrong)]) rfl ?_)
    intro wq7 H8
    refine l_of (s_val (v := .int .i64 ((readR r.left).2.1)) (wt0 rfl) rfl rfl (x_assign rfl rfl) ?_)
    refine l_of (s_val (v := .int .i64 ((readR r.left).2.2.1)) (wt0 rfl) rfl rfl (x_assign rfl rfl) ?_)
    refine l_of (s_val (v := .int .i64 ((readR r.left).2.2.2)) (wt0 rfl) rfl rfl (x_assign rfl rfl) ?_)
    refine g_nil ?_
    refine g_then ?_
    refine g_weak [(0, .pointer (some ⟨gr, 0, none⟩)), (3, .pointer (some ⟨g1, 0, none⟩)), (4, .int .i64 ((readR r.left).2.1)), (5, .int .i64 ((readR r.left).2.2.1)), (6, .int .i64 ((readR r.left).2.2.2))] ⟨rfl, rfl, rfl, rfl, rfl, trivial⟩ ?_
    refine g_seq ?_
    refine g_seq ?_
    refine g_region ?_
    refine l_of (s_val (v := .int .i64 ((readR r.left).2.2.2)) (wt0 rfl) rfl rfl (x_move rfl rfl) ?_)
    refine l_of (s_val (v := .bool (decide (((readR r.left).2.2.2 : Int) = 12))) (wt0 rfl) rfl rfl (x_bin rfl rfl rfl b_eql) ?_)
    refine g_nil ?_
    refine g_then ?_
    by_cases hb9 : ((readR r.left).2.2.2 : Int) = 12
    · skip
      refine g_cond_t rfl (decide_eq_true hb9) ?_
      refine g_region ?_
      refine l_of (s_val (v := .pointer (some ⟨gr, 0, none⟩)) (wt0 rfl) rfl rfl (x_move rfl rfl) ?_)
      refine l_of (s_val (v := .pointer (some ⟨gr, 0, none⟩)) (wt0 rfl) rfl rfl (x_move rfl rfl) ?_)
      refine l_of (s_val (v := .pointer (some ⟨gr, 0, none⟩)) (wt0 rfl) rfl rfl (x_move rfl rfl) ?_)
      refine l_of (s_val (v := .pointer (some ⟨gr, 0, none⟩)) (wt0 rfl) rfl rfl (x_nilCheck rfl rfl) ?_)
      refine l_of (s_val (v := .pointer (some ⟨gr, 11, none⟩)) (wt0 rfl) rfl rfl (x_fieldAddr rfl rfl fo108_5 rfl) ?_)
      refine l_of (s_val (v := .int .i64 (r.done)) (wt0 rfl) rfl rfl (x_load1 H8 1 rfl rfl Try.underlying3 rfl rfl rfl) ?_)
      refine l_of (s_val (v := .int .i64 ((readR r.left).2.2.1)) (wt0 rfl) rfl rfl (x_move rfl rfl) ?_)
      refine l_of (s_val (v := .int .i64 (r.done + ((readR r.left).2.2.1))) (wt0 rfl) rfl rfl (x_bin rfl rfl rfl (b_add (w64 (by omega)))) ?_)
      refine l_of (s_val (v := .pointer (some ⟨gr, 0, none⟩)) (wt0 rfl) rfl rfl (x_nilCheck rfl rfl) ?_)
      refine l_of (s_val (v := .pointer (some ⟨gr, 12, none⟩)) (wt0 rfl) rfl rfl (x_fieldAddr rfl rfl fo108_6 rfl) ?_)
      refine l_of (s_store H8 1 (wt0 rfl) rfl rfl rfl rfl rfl sz3 rfl rfl (cs' := #[.slice p1 r.ms.length c1, .slice p2 r.ms.length c2, .int .i64 (r.bytes), .bool r.greet, .bool ((readR r.left).1.e), .bool ((readR r.left).1.f), .bool ((readR r.left).1.n), .string ((readR r.left).1.name), .string ((readR r.left).1.peer), .bool r.told, .string (r.left), .int .i64 (r.done), .int .i64 (r.done + ((readR r.left).2.2.1))]) rfl ?_)
      intro wq10 H11
      refine l_of (s_val (v := .pointer (some ⟨gr, 0, none⟩)) (wt0 rfl) rfl rfl (x_nilCheck rfl rfl) ?_)
      refine l_of (s_val (v := .pointer (some ⟨gr, 10, none⟩)) (wt0 rfl) rfl rfl (x_fieldAddr rfl rfl fo108_4 rfl) ?_)
      refine l_of (s_store H11 1 (wt0 rfl) rfl rfl rfl rfl rfl sz9 rfl rfl (cs' := #[.slice p1 r.ms.length c1, .slice p2 r.ms.length c2, .int .i64 (r.bytes), .bool r.greet, .bool ((readR r.left).1.e), .bool ((readR r.left).1.f), .bool ((readR r.left).1.n), .string ((readR r.left).1.name), .string ((readR r.left).1.peer), .bool r.told, .string (⟨#[]⟩), .int .i64 (r.done), .int .i64 (r.done + ((readR r.left).2.2.1))]) rfl ?_)
      intro wq12 H13
      refine g_nil ?_
      refine g_then ?_
      refine g_weak [(0, .pointer (some ⟨gr, 0, none⟩)), (3, .pointer (some ⟨g1, 0, none⟩)), (4, .int .i64 ((readR r.left).2.1)), (6, .int .i64 ((readR r.left).2.2.2))] ⟨rfl, rfl, rfl, rfl, trivial⟩ ?_
      refine g_seq ?_
      refine g_seq ?_
      refine g_region ?_
      refine l_of (s_val (v := .int .i64 ((readR r.left).2.2.2)) (wt0 rfl) rfl rfl (x_move rfl rfl) ?_)
      refine l_of (s_val (v := .bool (!decide (((readR r.left).2.2.2 : Int) = 0))) (wt0 rfl) rfl rfl (x_bin rfl rfl rfl b_neq) ?_)
      refine g_nil ?_
      refine g_then ?_
      refine g_cond_t rfl (nt (by omega)) ?_
      refine g_seq ?_
      refine g_region ?_
      refine l_of (s_val (v := .bool false) (wt0 rfl) rfl rfl (x_assign rfl rfl) ?_)
      refine g_nil ?_
      refine g_then ?_
      refine g_ret ?_
      refine g_then_ret ?_
      refine fin_ret [.tmp 2] [.bool false] rfl ⟨rfl, trivial⟩ ?_
      unfold stepR
      rw [if_pos hb4, if_pos hb9]
      refine ⟨rfl, p1, c1, p2, c2, ?_⟩
      have HF := H13.mask [false, true, true, true, true]
      exact HF
    · skip
      refine g_cond_f rfl (decide_eq_false hb9) ?_
      refine g_skip ?_
      refine g_then ?_
      refine g_seq ?_
      refine g_seq ?_
      refine g_region ?_
      refine l_of (s_val (v := .int .i64 ((readR r.left).2.2.2)) (wt0 rfl) rfl rfl (x_move rfl rfl) ?_)
      refine l_of (s_val (v := .bool (!decide (((readR r.left).2.2.2 : Int) = 0))) (wt0 rfl) rfl rfl (x_bin rfl rfl rfl b_neq) ?_)
      refine g_nil ?_
      refine g_then ?_
      by_cases hb14 : ((readR r.left).2.2.2 : Int) = 0
      · skip
        refine g_cond_f rfl (nf hb14) ?_
        refine g_skip ?_
        refine g_then ?_
        refine g_seq ?_
        refine g_seq ?_
        refine g_region ?_
        refine l_of (s_val (v := .pointer (some ⟨gr, 0, none⟩)) (wt0 rfl) rfl rfl (x_move rfl rfl) ?_)
        refine l_of (s_val (v := .pointer (some ⟨gr, 0, none⟩)) (wt0 rfl) rfl rfl (x_nilCheck rfl rfl) ?_)
        refine l_of (s_val (v := .pointer (some ⟨gr, 3, none⟩)) (wt0 rfl) rfl rfl (x_fieldAddr rfl rfl fo108_1 rfl) ?_)
        refine l_of (s_val (v := .bool r.greet) (wt0 rfl) rfl rfl (x_load1 H8 1 rfl rfl Try.underlying4 rfl rfl rfl) ?_)
        refine g_nil ?_
        refine g_then ?_
        refine g_cond_t rfl hb4 ?_
        refine g_region ?_
        refine l_of (s_val (v := .pointer (some ⟨gr, 0, none⟩)) (wt0 rfl) rfl rfl (x_move rfl rfl) ?_)
        refine l_of (s_val (v := .pointer (some ⟨gr, 0, none⟩)) (wt0 rfl) rfl rfl (x_move rfl rfl) ?_)
        refine l_of (s_val (v := .pointer (some ⟨gr, 0, none⟩)) (wt0 rfl) rfl rfl (x_nilCheck rfl rfl) ?_)
        refine l_of (s_val (v := .pointer (some ⟨gr, 3, none⟩)) (wt0 rfl) rfl rfl (x_fieldAddr rfl rfl fo108_1 rfl) ?_)
        refine l_of (s_store H8 1 (wt0 rfl) rfl rfl rfl rfl rfl sz4 rfl rfl (cs' := #[.slice p1 r.ms.length c1, .slice p2 r.ms.length c2, .int .i64 (r.bytes), .bool false, .bool ((readR r.left).1.e), .bool ((readR r.left).1.f), .bool ((readR r.left).1.n), .string ((readR r.left).1.name), .string ((readR r.left).1.peer), .bool r.told, .string (r.left), .int .i64 (r.done), .int .i64 (r.wrong)]) rfl ?_)
        intro wq15 H16
        refine l_of (s_val (v := .pointer (some ⟨gr, 0, none⟩)) (wt0 rfl) rfl rfl (x_nilCheck rfl rfl) ?_)
        refine l_of (s_val (v := .pointer (some ⟨gr, 9, none⟩)) (wt0 rfl) rfl rfl (x_fieldAddr rfl rfl fo108_3 rfl) ?_)
        refine l_of (s_store H16 1 (wt0 rfl) rfl rfl rfl rfl rfl sz4 rfl rfl (cs' := #[.slice p1 r.ms.length c1, .slice p2 r.ms.length c2, .int .i64 (r.bytes), .bool false, .bool ((readR r.left).1.e), .bool ((readR r.left).1.f), .bool ((readR r.left).1.n), .string ((readR r.left).1.name), .string ((readR r.left).1.peer), .bool true, .string (r.left), .int .i64 (r.done), .int .i64 (r.wrong)]) rfl ?_)
        intro wq17 H18
        refine g_nil ?_
        refine g_then ?_
        refine g_weak [(0, .pointer (some ⟨gr, 0, none⟩)), (4, .int .i64 ((readR r.left).2.1))] ⟨rfl, rfl, trivial⟩ ?_
        refine g_seq ?_
        refine g_region ?_
        refine l_of (s_val (v := .pointer (some ⟨gr, 0, none⟩)) (wt0 rfl) rfl rfl (x_move rfl rfl) ?_)
        refine l_of (s_val (v := .pointer (some ⟨gr, 0, none⟩)) (wt0 rfl) rfl rfl (x_move rfl rfl) ?_)
        refine l_of (s_val (v := .pointer (some ⟨gr, 0, none⟩)) (wt0 rfl) rfl rfl (x_nilCheck rfl rfl) ?_)
        refine l_of (s_val (v := .pointer (some ⟨gr, 10, none⟩)) (wt0 rfl) rfl rfl (x_fieldAddr rfl rfl fo108_4 rfl) ?_)
        refine l_of (s_val (v := .string (r.left)) (wt0 rfl) rfl rfl (x_load1 H18 1 rfl rfl Try.underlying9 rfl rfl rfl) ?_)
        refine l_of (s_val (v := .int .i64 ((readR r.left).2.1)) (wt0 rfl) rfl rfl (x_move rfl rfl) ?_)
        have hsz19 : (r.left.extract (((readR r.left).2.1).toNat) r.left.size).size = r.left.size - (((readR r.left).2.1).toNat) := by rw [ByteArray.size_extract]; omega
        refine l_of (s_val (v := .string (r.left.extract (((readR r.left).2.1).toNat) r.left.size)) (wt0 rfl) rfl rfl (x_slices (((readR r.left).2.1).toNat) r.left.size rfl rfl Try.underlying9 (.inr ⟨_, _, _, rfl, rfl, by omega⟩) (.inl ⟨rfl, rfl⟩) (by omega)) ?_)
        refine l_of (s_val (v := .pointer (some ⟨gr, 0, none⟩)) (wt0 rfl) rfl rfl (x_nilCheck rfl rfl) ?_)
        refine l_of (s_val (v := .pointer (some ⟨gr, 10, none⟩)) (wt0 rfl) rfl rfl (x_fieldAddr rfl rfl fo108_4 rfl) ?_)
        refine l_of (s_store H18 1 (wt0 rfl) rfl rfl rfl rfl rfl sz9 rfl rfl (cs' := #[.slice p1 r.ms.length c1, .slice p2 r.ms.length c2, .int .i64 (r.bytes), .bool false, .bool ((readR r.left).1.e), .bool ((readR r.left).1.f), .bool ((readR r.left).1.n), .string ((readR r.left).1.name), .string ((readR r.left).1.peer), .bool true, .string (r.left.extract (((readR r.left).2.1).toNat) r.left.size), .int .i64 (r.done), .int .i64 (r.wrong)]) rfl ?_)
        intro wq20 H21
        refine g_nil ?_
        refine g_then ?_
        refine g_seq ?_
        refine g_region ?_
        refine l_of (s_val (v := .pointer (some ⟨gr, 0, none⟩)) (wt0 rfl) rfl rfl (x_move rfl rfl) ?_)
        refine l_of (s_val (v := .pointer (some ⟨gr, 0, none⟩)) (wt0 rfl) rfl rfl (x_nilCheck rfl rfl) ?_)
        refine l_of (s_val (v := .pointer (some ⟨gr, 11, none⟩)) (wt0 rfl) rfl rfl (x_fieldAddr rfl rfl fo108_5 rfl) ?_)
        refine l_of (s_val (v := .int .i64 (r.done)) (wt0 rfl) rfl rfl (x_load1 H21 1 rfl rfl Try.underlying3 rfl rfl rfl) ?_)
        refine l_of (s_val (v := .int .i64 ((readR r.left).2.1)) (wt0 rfl) rfl rfl (x_move rfl rfl) ?_)
        refine l_of (s_val (v := .int .i64 (r.done + ((readR r.left).2.1))) (wt0 rfl) rfl rfl (x_bin rfl rfl rfl (b_add (w64 (by omega)))) ?_)
        refine l_of (s_val (v := .pointer (some ⟨gr, 0, none⟩)) (wt0 rfl) rfl rfl (x_nilCheck rfl rfl) ?_)
        refine l_of (s_val (v := .pointer (some ⟨gr, 11, none⟩)) (wt0 rfl) rfl rfl (x_fieldAddr rfl rfl fo108_5 rfl) ?_)
        refine l_of (s_store H21 1 (wt0 rfl) rfl rfl rfl rfl rfl sz3 rfl rfl (cs' := #[.slice p1 r.ms.length c1, .slice p2 r.ms.length c2, .int .i64 (r.bytes), .bool false, .bool ((readR r.left).1.e), .bool ((readR r.left).1.f), .bool ((readR r.left).1.n), .string ((readR r.left).1.name), .string ((readR r.left).1.peer), .bool true, .string (r.left.extract (((readR r.left).2.1).toNat) r.left.size), .int .i64 (r.done + ((readR r.left).2.1)), .int .i64 (r.wrong)]) rfl ?_)
        intro wq22 H23
        refine g_nil ?_
        refine g_then ?_
        refine g_weak [] trivial ?_
        refine g_seq ?_
        refine g_region ?_
        refine l_of (s_val (v := .bool true) (wt0 rfl) rfl rfl (x_assign rfl rfl) ?_)
        refine g_nil ?_
        refine g_then ?_
        refine g_ret ?_
        refine fin_ret [.tmp 2] [.bool true] rfl ⟨rfl, trivial⟩ ?_
        unfold stepR
        rw [if_pos hb4, if_neg hb9, if_pos hb14]
        refine ⟨rfl, p1, c1, p2, c2, ?_⟩
        have HF := H23.mask [false, true, true, true, true]
        exact HF
      · skip
        refine g_cond_t rfl (nt hb14) ?_
        refine g_seq ?_
        refine g_region ?_
        refine l_of (s_val (v := .bool false) (wt0 rfl) rfl rfl (x_assign rfl rfl) ?_)
        refine g_nil ?_
        refine g_then ?_
        refine g_ret ?_
        refine g_then_ret ?_
        refine fin_ret [.tmp 2] [.bool false] rfl ⟨rfl, trivial⟩ ?_
        unfold stepR
        rw [if_pos hb4, if_neg hb9, if_neg hb14]
        refine ⟨rfl, p1, c1, p2, c2, ?_⟩
        have HF := H8.mask [false, true, true, true, true]
        exact HF
  · skip
    refine g_cond_f rfl hb4 ?_
    refine g_region ?_
    refine l_of (s_val (v := .pointer (some ⟨gr, 0, none⟩)) (wt0 rfl) rfl rfl (x_move rfl rfl) ?_)
    refine l_of (s_val (v := .pointer (some ⟨gr, 0, none⟩)) (wt0 rfl) rfl rfl (x_nilCheck rfl rfl) ?_)
    refine l_of (s_val (v := .pointer (some ⟨gr, 10, none⟩)) (wt0 rfl) rfl rfl (x_fieldAddr rfl rfl fo108_4 rfl) ?_)
    refine l_of (s_val (v := .string (r.left)) (wt0 rfl) rfl rfl (x_load1 H3 1 rfl rfl Try.underlying9 rfl rfl rfl) ?_)
    refine l_of (s_call (wt0 rfl) (x_call' rfl rfl cl20) (decode_p _ _) ?_)
    rintro _ wq24 ⟨rfl, H25⟩
    replace H25 : S wq24 [Ob g1 (.cells #[.int .i64 0, .int .i64 0, .int .i64 0, .int .i64 0, .int .i64 0, .int .i64 0, .string (⟨#[]⟩), .string (⟨#[]⟩)] 33 (0, 0)), Ob gr (.cells #[.slice p1 r.ms.length c1, .slice p2 r.ms.length c2, .int .i64 (r.bytes), .bool r.greet, .bool r.hello.e, .bool r.hello.f, .bool r.hello.n, .string (r.hello.name), .string (r.hello.peer), .bool r.told, .string (r.left), .int .i64 (r.done), .int .i64 (r.wrong)] 108 (0, 0)), Rw 33 8 p1 r.ms.length c1 (msgsV r.ms), Rw 3 1 p2 r.ms.length c2 (zsV r.zs), Old w (fps (rdL gr r p1 c1 p2 c2))] := H3.absorb (new := []) H25
    refine b_ret rfl rfl ?_
    refine l_of (s_val (v := .tuple #[.agg (decS r.left).1.cells, .int .i64 ((decS r.left).2.1), .int .i64 ((decS r.left).2.2.1), .int .i64 ((decS r.left).2.2.2)]) (wt0 rfl) rfl rfl (x_move rfl rfl) ?_)
    refine l_of (s_val (v := .agg (decS r.left).1.cells) (wt0 rfl) rfl rfl (x_extract rfl rfl rfl) ?_)
    refine l_of (s_val (v := .int .i64 ((decS r.left).2.1)) (wt0 rfl) rfl rfl (x_extract rfl rfl rfl) ?_)
    refine l_of (s_val (v := .int .i64 ((decS r.left).2.2.1)) (wt0 rfl) rfl rfl (x_extract rfl rfl rfl) ?_)
    refine l_of (s_val (v := .int .i64 ((decS r.left).2.2.2)) (wt0 rfl) rfl rfl (x_extract rfl rfl rfl) ?_)
    refine l_of (s_store H25 0 (wt0 rfl) rfl rfl rfl rfl rfl sz33 rfl rfl (cs' := (decS r.left).1.cells) rfl ?_)
    intro wq26 H27
    refine l_of (s_val (v := .int .i64 ((decS r.left).2.1)) (wt0 rfl) rfl rfl (x_assign rfl rfl) ?_)
    refine l_of (s_val (v := .int .i64 ((decS r.left).2.2.1)) (wt0 rfl) rfl rfl (x_assign rfl rfl) ?_)
    refine l_of (s_val (v := .int .i64 ((decS r.left).2.2.2)) (wt0 rfl) rfl rfl (x_assign rfl rfl) ?_)
    refine g_nil ?_
    refine g_then ?_
    refine g_weak [(0, .pointer (some ⟨gr, 0, none⟩)), (3, .pointer (some ⟨g1, 0, none⟩)), (4, .int .i64 ((decS r.left).2.1)), (5, .int .i64 ((decS r.left).2.2.1)), (6, .int .i64 ((decS r.left).2.2.2))] ⟨rfl, rfl, rfl, rfl, rfl, trivial⟩ ?_
    refine g_seq ?_
    refine g_seq ?_
    refine g_region ?_
    refine l_of (s_val (v := .int .i64 ((decS r.left).2.2.2)) (wt0 rfl) rfl rfl (x_move rfl rfl) ?_)
    refine l_of (s_val (v := .bool (decide (((decS r.left).2.2.2 : Int) = 12))) (wt0 rfl) rfl rfl (x_bin rfl rfl rfl b_eql) ?_)
    refine g_nil ?_
    refine g_then ?_
    by_cases hb28 : ((decS r.left).2.2.2 : Int) = 12
    · skip
      refine g_cond_t rfl (decide_eq_true hb28) ?_
      refine g_region ?_
      refine l_of (s_val (v := .pointer (some ⟨gr, 0, none⟩)) (wt0 rfl) rfl rfl (x_move rfl rfl) ?_)
      refine l_of (s_val (v := .pointer (some ⟨gr, 0, none⟩)) (wt0 rfl) rfl rfl (x_move rfl rfl) ?_)
      refine l_of (s_val (v := .pointer (some ⟨gr, 0, none⟩)) (wt0 rfl) rfl rfl (x_move rfl rfl) ?_)
      refine l_of (s_val (v := .pointer (some ⟨gr, 0, none⟩)) (wt0 rfl) rfl rfl (x_nilCheck rfl rfl) ?_)
      refine l_of (s_val (v := .pointer (some ⟨gr, 11, none⟩)) (wt0 rfl) rfl rfl (x_fieldAddr rfl rfl fo108_5 rfl) ?_)
      refine l_of (s_val (v := .int .i64 (r.done)) (wt0 rfl) rfl rfl (x_load1 H27 1 rfl rfl Try.underlying3 rfl rfl rfl) ?_)
      refine l_of (s_val (v := .int .i64 ((decS r.left).2.2.1)) (wt0 rfl) rfl rfl (x_move rfl rfl) ?_)
      refine l_of (s_val (v := .int .i64 (r.done + ((decS r.left).2.2.1))) (wt0 rfl) rfl rfl (x_bin rfl rfl rfl (b_add (w64 (by omega)))) ?_)
      refine l_of (s_val (v := .pointer (some ⟨gr, 0, none⟩)) (wt0 rfl) rfl rfl (x_nilCheck rfl rfl) ?_)
      refine l_of (s_val (v := .pointer (some ⟨gr, 12, none⟩)) (wt0 rfl) rfl rfl (x_fieldAddr rfl rfl fo108_6 rfl) ?_)
      refine l_of (s_store H27 1 (wt0 rfl) rfl rfl rfl rfl rfl sz3 rfl rfl (cs' := #[.slice p1 r.ms.length c1, .slice p2 r.ms.length c2, .int .i64 (r.bytes), .bool r.greet, .bool r.hello.e, .bool r.hello.f, .bool r.hello.n, .string (r.hello.name), .string (r.hello.peer), .bool r.told, .string (r.left), .int .i64 (r.done), .int .i64 (r.done + ((decS r.left).2.2.1))]) rfl ?_)
      intro wq29 H30
      refine l_of (s_val (v := .pointer (some ⟨gr, 0, none⟩)) (wt0 rfl) rfl rfl (x_nilCheck rfl rfl) ?_)
      refine l_of (s_val (v := .pointer (some ⟨gr, 10, none⟩)) (wt0 rfl) rfl rfl (x_fieldAddr rfl rfl fo108_4 rfl) ?_)
      refine l_of (s_store H30 1 (wt0 rfl) rfl rfl rfl rfl rfl sz9 rfl rfl (cs' := #[.slice p1 r.ms.length c1, .slice p2 r.ms.length c2, .int .i64 (r.bytes), .bool r.greet, .bool r.hello.e, .bool r.hello.f, .bool r.hello.n, .string (r.hello.name), .string (r.hello.peer), .bool r.told, .string (⟨#[]⟩), .int .i64 (r.done), .int .i64 (r.done + ((decS r.left).2.2.1))]) rfl ?_)
      intro wq31 H32
      refine g_nil ?_
      refine g_then ?_
      refine g_weak [(0, .pointer (some ⟨gr, 0, none⟩)), (3, .pointer (some ⟨g1, 0, none⟩)), (4, .int .i64 ((decS r.left).2.1)), (6, .int .i64 ((decS r.left).2.2.2))] ⟨rfl, rfl, rfl, rfl, trivial⟩ ?_
      refine g_seq ?_
      refine g_seq ?_
      refine g_region ?_
      refine l_of (s_val (v := .int .i64 ((decS r.left).2.2.2)) (wt0 rfl) rfl rfl (x_move rfl rfl) ?_)
      refine l_of (s_val (v := .bool (!decide (((decS r.left).2.2.2 : Int) = 0))) (wt0 rfl) rfl rfl (x_bin rfl rfl rfl b_neq) ?_)
      refine g_nil ?_
      refine g_then ?_
      refine g_cond_t rfl (nt (by omega)) ?_
      refine g_seq ?_
      refine g_region ?_
      refine l_of (s_val (v := .bool false) (wt0 rfl) rfl rfl (x_assign rfl rfl) ?_)
      refine g_nil ?_
      refine g_then ?_
      refine g_ret ?_
      refine g_then_ret ?_
      refine fin_ret [.tmp 2] [.bool false] rfl ⟨rfl, trivial⟩ ?_
      unfold stepR
      rw [if_neg (by rw [hb4]; exact Bool.false_ne_true), if_pos hb28]
      refine ⟨rfl, p1, c1, p2, c2, ?_⟩
      have HF := H32.mask [false, true, true, true, true]
      exact HF
    · skip
      refine g_cond_f rfl (decide_eq_false hb28) ?_
      refine g_skip ?_
      refine g_then ?_
      refine g_seq ?_
      refine g_seq ?_
      refine g_region ?_
      refine l_of (s_val (v := .int .i64 ((decS r.left).2.2.2)) (wt0 rfl) rfl rfl (x_move rfl rfl) ?_)
      refine l_of (s_val (v := .bool (!decide (((decS r.left).2.2.2 : Int) = 0))) (wt0 rfl) rfl rfl (x_bin rfl rfl rfl b_neq) ?_)
      refine g_nil ?_
      refine g_then ?_
      by_cases hb33 : ((decS r.left).2.2.2 : Int) = 0
      · skip
        refine g_cond_f rfl (nf hb33) ?_
        refine g_skip ?_
        refine g_then ?_
        refine g_seq ?_
        refine g_seq ?_
        refine g_region ?_
        refine l_of (s_val (v := .pointer (some ⟨gr, 0, none⟩)) (wt0 rfl) rfl rfl (x_move rfl rfl) ?_)
        refine l_of (s_val (v := .pointer (some ⟨gr, 0, none⟩)) (wt0 rfl) rfl rfl (x_nilCheck rfl rfl) ?_)
        refine l_of (s_val (v := .pointer (some ⟨gr, 3, none⟩)) (wt0 rfl) rfl rfl (x_fieldAddr rfl rfl fo108_1 rfl) ?_)
        refine l_of (s_val (v := .bool r.greet) (wt0 rfl) rfl rfl (x_load1 H27 1 rfl rfl Try.underlying4 rfl rfl rfl) ?_)
        refine g_nil ?_
        refine g_then ?_
        refine g_cond_f rfl hb4 ?_
        refine g_seq ?_
        refine g_anyY [] (fun wx => S wx [Ob g1 (.cells (decS r.left).1.cells 33 (0, 0)), Ob gr (.cells #[.slice p1 r.ms.length c1, .slice p2 r.ms.length c2, .int .i64 (r.bytes), .bool r.greet, .bool r.hello.e, .bool r.hello.f, .bool r.hello.n, .string (r.hello.name), .string (r.hello.peer), .bool r.told, .string (r.left), .int .i64 (r.done), .int .i64 (r.wrong)] 108 (0, 0))]) (fun wx => S wx [Ob g1 (.cells (decS r.left).1.cells 33 (0, 0))]) [21, 25] (by kernel_rfl) H27 (fun wq34 H35 => ?_)
        refine y_pure (v := .pointer (some ⟨gr, 0, none⟩)) 0 rfl (wt0 rfl) rfl rfl rfl (by kernel_rfl) (by kernel_rfl) (by kernel_rfl) (by kernel_rfl) (fun wx => x_move rfl rfl) ?_
        refine y_pure (v := .pointer (some ⟨gr, 0, none⟩)) 1 rfl (wt0 rfl) rfl rfl rfl (by kernel_rfl) (by kernel_rfl) (by kernel_rfl) (by kernel_rfl) (fun wx => x_move rfl rfl) ?_
        refine y_pure (v := .pointer (some ⟨gr, 0, none⟩)) 2 rfl (wt0 rfl) rfl rfl rfl (by kernel_rfl) (by kernel_rfl) (by kernel_rfl) (by kernel_rfl) (fun wx => x_move rfl rfl) ?_
        refine y_pure (v := .pointer (some ⟨gr, 0, none⟩)) 3 rfl (wt0 rfl) rfl rfl rfl (by kernel_rfl) (by kernel_rfl) (by kernel_rfl) (by kernel_rfl) (fun wx => x_nilCheck rfl rfl) ?_
        refine y_pure (v := .pointer (some ⟨gr, 0, none⟩)) 4 rfl (wt0 rfl) rfl rfl rfl (by kernel_rfl) (by kernel_rfl) (by kernel_rfl) (by kernel_rfl) (fun wx => x_fieldAddr rfl rfl fo108_0 rfl) ?_
        refine y_pure (v := .pointer (some ⟨gr, 0, none⟩)) 5 rfl (wt0 rfl) rfl rfl rfl (by kernel_rfl) (by kernel_rfl) (by kernel_rfl) (by kernel_rfl) (fun wx => x_fieldAddr rfl rfl fo106_0 rfl) ?_
        refine y_take (v := .slice p1 r.ms.length c1) 6 rfl (wt0 rfl) rfl rfl rfl (by kernel_rfl) (by kernel_rfl) (by kernel_rfl) (by kernel_rfl) (by kernel_rfl) (H35.mask [true, true, false, false, false]) (fun wx H => x_load1 H 1 rfl rfl Try.underlying46 rfl rfl rfl) ?_
        refine y_take (v := .agg (decS r.left).1.cells) 7 rfl (wt0 rfl) rfl rfl rfl (by kernel_rfl) (by kernel_rfl) (by kernel_rfl) (by kernel_rfl) (by kernel_rfl) (H35.mask [true, true, false, false, false]) (fun wx H => x_loadA H 0 rfl rfl Try.underlying33 rfl sz33 rfl rfl rfl) ?_
        refine y_pure (v := .pointer (some ⟨gr, 0, none⟩)) 10 rfl (wt0 rfl) rfl rfl rfl (by kernel_rfl) (by kernel_rfl) (by kernel_rfl) (by kernel_rfl) (fun wx => x_move rfl rfl) ?_
        refine y_pure (v := .pointer (some ⟨gr, 0, none⟩)) 11 rfl (wt0 rfl) rfl rfl rfl (by kernel_rfl) (by kernel_rfl) (by kernel_rfl) (by kernel_rfl) (fun wx => x_nilCheck rfl rfl) ?_
        refine y_pure (v := .pointer (some ⟨gr, 0, none⟩)) 12 rfl (wt0 rfl) rfl rfl rfl (by kernel_rfl) (by kernel_rfl) (by kernel_rfl) (by kernel_rfl) (fun wx => x_fieldAddr rfl rfl fo108_0 rfl) ?_
        refine y_pure (v := .pointer (some ⟨gr, 1, none⟩)) 13 rfl (wt0 rfl) rfl rfl rfl (by kernel_rfl) (by kernel_rfl) (by kernel_rfl) (by kernel_rfl) (fun wx => x_fieldAddr rfl rfl fo106_1 rfl) ?_
        refine y_take (v := .slice p2 r.ms.length c2) 14 rfl (wt0 rfl) rfl rfl rfl (by kernel_rfl) (by kernel_rfl) (by kernel_rfl) (by kernel_rfl) (by kernel_rfl) (H35.mask [true, true, false, false, false]) (fun wx H => x_load1 H 1 rfl rfl Try.underlying60 rfl rfl rfl) ?_
        refine y_pure (v := .int .i64 ((decS r.left).2.1)) 15 rfl (wt0 rfl) rfl rfl rfl (by kernel_rfl) (by kernel_rfl) (by kernel_rfl) (by kernel_rfl) (fun wx => x_move rfl rfl) ?_
        refine y_two (i := 8) (j := 16) (by kernel_rfl) rfl rfl ?_ ?_
        · skip
          refine s_buildSlice H35 (wt0 rfl) rfl rfl rfl (vs := [.agg (decS r.left).1.cells]) rfl Try.underlying46 sz33 ze33 rfl rfl (cells := (decS r.left).1.cells) (by kernel_rfl) ?_
          intro g36 wq37 H38
          refine y_k (H38.mask [false, true, true, false, false, false]) (H38.mask [false, true, false, false, false, false]) ?_
          refine y_two (i := 9) (j := 16) (by kernel_rfl) rfl rfl ?_ ?_
          · skip
            refine s_appendR (n := r.ms.length) (m := 1) (sc := c1) (xs := (msgsV r.ms)) (news := ((decS r.left).1.cells).toList) (p := p1) (ad := ⟨g36, 0, none⟩) H38 3 (wt0 rfl) rfl rfl rfl rfl rfl rfl Try.underlying46 inf33 rfl (by decide) (by decide) rfl (by decide) (news_ob H38 (j0 := 0) rfl) rfl (by omega) ?_
            intro p39 c40 wq41 (H42 : S wq41 [Ob g36 (.cells (decS r.left).1.cells 33 (0, 0)), Ob g1 (.cells (decS r.left).1.cells 33 (0, 0)), Ob gr (.cells #[.slice p1 r.ms.length c1, .slice p2 r.ms.length c2, .int .i64 (r.bytes), .bool r.greet, .bool r.hello.e, .bool r.hello.f, .bool r.hello.n, .string (r.hello.name), .string (r.hello.peer), .bool r.told, .string (r.left), .int .i64 (r.done), .int .i64 (r.wrong)] 108 (0, 0)), Rw 33 8 p39 (r.ms.length + 1) c40 ((msgsV r.ms) ++ ((decS r.left).1.cells).toList), Rw 3 1 p2 r.ms.length c2 (zsV r.zs), Old w (fps (rdL gr r p1 c1 p2 c2))])
            refine y_k (H42.mask [false, true, true, false, false, false]) (H42.mask [false, true, false, false, false, false]) ?_
            refine y_one (i := 16) (by kernel_rfl) rfl ?_
            refine s_buildSlice H42 (wt0 rfl) rfl rfl rfl (vs := [.int .i64 ((decS r.left).2.1)]) rfl Try.underlying60 sz3 ze3 rfl rfl (cells := #[.int .i64 ((decS r.left).2.1)]) (by kernel_rfl) ?_
            intro g43 wq44 H45
            refine y_k (H45.mask [false, false, true, true, false, false, false]) (H45.mask [false, false, true, false, false, false, false]) ?_
            refine y_one (i := 17) (by kernel_rfl) rfl ?_
            refine s_appendR (n := r.ms.length) (m := 1) (sc := c2) (xs := (zsV r.zs)) (news := [.int .i64 ((decS r.left).2.1)]) (p := p2) (ad := ⟨g43, 0, none⟩) H45 5 (wt0 rfl) rfl rfl rfl rfl rfl rfl Try.underlying60 inf3 rfl (by decide) (by decide) rfl (by decide) (news_ob H45 (j0 := 0) rfl) rfl (by omega) ?_
            intro p46 c47 wq48 (H49 : S wq48 [Ob g43 (.cells #[.int .i64 ((decS r.left).2.1)] 3 (0, 0)), Ob g36 (.cells (decS r.left).1.cells 33 (0, 0)), Ob g1 (.cells (decS r.left).1.cells 33 (0, 0)), Ob gr (.cells #[.slice p1 r.ms.length c1, .slice p2 r.ms.length c2, .int .i64 (r.bytes), .bool r.greet, .bool r.hello.e, .bool r.hello.f, .bool r.hello.n, .string (r.hello.name), .string (r.hello.peer), .bool r.told, .string (r.left), .int .i64 (r.done), .int .i64 (r.wrong)] 108 (0, 0)), Rw 33 8 p39 (r.ms.length + 1) c40 ((msgsV r.ms) ++ ((decS r.left).1.cells).toList), Rw 3 1 p46 (r.ms.length + 1) c47 ((zsV r.zs) ++ [.int .i64 ((decS r.left).2.1)]), Old w (fps (rdL gr r p1 c1 p2 c2))])
            refine y_k (H49.mask [false, false, true, true, false, false, false]) (H49.mask [false, false, true, false, false, false, false]) ?_
            refine y_pure (v := .pointer (some ⟨gr, 0, none⟩)) 18 rfl (wt0 rfl) rfl rfl rfl (by kernel_rfl) (by kernel_rfl) (by kernel_rfl) (by kernel_rfl) (fun wx => x_nilCheck rfl rfl) ?_
            refine y_pure (v := .pointer (some ⟨gr, 0, none⟩)) 19 rfl (wt0 rfl) rfl rfl rfl (by kernel_rfl) (by kernel_rfl) (by kernel_rfl) (by kernel_rfl) (fun wx => x_fieldAddr rfl rfl fo108_0 rfl) ?_
            refine y_pure (v := .pointer (some ⟨gr, 0, none⟩)) 20 rfl (wt0 rfl) rfl rfl rfl (by kernel_rfl) (by kernel_rfl) (by kernel_rfl) (by kernel_rfl) (fun wx => x_fieldAddr rfl rfl fo106_0 rfl) ?_
            refine y_one (i := 21) (by kernel_rfl) rfl ?_
            refine s_store H49 3 (wt0 rfl) rfl rfl rfl rfl rfl sz46 rfl rfl (cs' := #[.slice p39 (r.ms.length + 1) c40, .slice p2 r.ms.length c2, .int .i64 (r.bytes), .bool r.greet, .bool r.hello.e, .bool r.hello.f, .bool r.hello.n, .string (r.hello.name), .string (r.hello.peer), .bool r.told, .string (r.left), .int .i64 (r.done), .int .i64 (r.wrong)]) rfl ?_
            intro wq50 H51
            refine y_kt rfl (H51.mask [false, false, true, false, false, false, false]) ?_
            refine y_pure (v := .pointer (some ⟨gr, 0, none⟩)) 22 rfl (wt0 rfl) rfl rfl rfl (by kernel_rfl) (by kernel_rfl) (by kernel_rfl) (by kernel_rfl) (fun wx => x_nilCheck rfl rfl) ?_
            refine y_pure (v := .pointer (some ⟨gr, 0, none⟩)) 23 rfl (wt0 rfl) rfl rfl rfl (by kernel_rfl) (by kernel_rfl) (by kernel_rfl) (by kernel_rfl) (fun wx => x_fieldAddr rfl rfl fo108_0 rfl) ?_
            refine y_pure (v := .pointer (some ⟨gr, 1, none⟩)) 24 rfl (wt0 rfl) rfl rfl rfl (by kernel_rfl) (by kernel_rfl) (by kernel_rfl) (by kernel_rfl) (fun wx => x_fieldAddr rfl rfl fo106_1 rfl) ?_
            refine y_one (i := 25) (by kernel_rfl) rfl ?_
            refine s_store H51 3 (wt0 rfl) rfl rfl rfl rfl rfl sz60 rfl rfl (cs' := #[.slice p39 (r.ms.length + 1) c40, .slice p46 (r.ms.length + 1) c47, .int .i64 (r.bytes), .bool r.greet, .bool r.hello.e, .bool r.hello.f, .bool r.hello.n, .string (r.hello.name), .string (r.hello.peer), .bool r.told, .string (r.left), .int .i64 (r.done), .int .i64 (r.wrong)]) rfl ?_
            intro wq52 H53
            refine y_kt rfl (H53.mask [false, false, true, false, false, false, false]) ?_
            refine y_done (by kernel_rfl) ?_
            refine g_then ?_
            refine g_weak [(0, .pointer (some ⟨gr, 0, none⟩)), (4, .int .i64 ((decS r.left).2.1))] ⟨rfl, rfl, trivial⟩ ?_
            refine g_region ?_
            refine l_of (s_val (v := .pointer (some ⟨gr, 0, none⟩)) (wt0 rfl) rfl rfl (x_move rfl rfl) ?_)
            refine l_of (s_val (v := .pointer (some ⟨gr, 0, none⟩)) (wt0 rfl) rfl rfl (x_nilCheck rfl rfl) ?_)
            refine l_of (s_val (v := .pointer (some ⟨gr, 0, none⟩)) (wt0 rfl) rfl rfl (x_fieldAddr rfl rfl fo108_0 rfl) ?_)
            refine l_of (s_val (v := .pointer (some ⟨gr, 2, none⟩)) (wt0 rfl) rfl rfl (x_fieldAddr rfl rfl fo106_2 rfl) ?_)
            refine l_of (s_val (v := .int .i64 (r.bytes)) (wt0 rfl) rfl rfl (x_load1 H53 3 rfl rfl Try.underlying3 rfl rfl rfl) ?_)
            refine l_of (s_val (v := .int .i64 ((decS r.left).2.1)) (wt0 rfl) rfl rfl (x_move rfl rfl) ?_)
            refine l_of (s_val (v := .int .i64 (r.bytes + ((decS r.left).2.1))) (wt0 rfl) rfl rfl (x_bin rfl rfl rfl (b_add (w64 (by omega)))) ?_)
            refine l_of (s_val (v := .pointer (some ⟨gr, 0, none⟩)) (wt0 rfl) rfl rfl (x_nilCheck rfl rfl) ?_)
            refine l_of (s_val (v := .pointer (some ⟨gr, 0, none⟩)) (wt0 rfl) rfl rfl (x_fieldAddr rfl rfl fo108_0 rfl) ?_)
            refine l_of (s_val (v := .pointer (some ⟨gr, 2, none⟩)) (wt0 rfl) rfl rfl (x_fieldAddr rfl rfl fo106_2 rfl) ?_)
            refine l_of (s_store H53 3 (wt0 rfl) rfl rfl rfl rfl rfl sz3 rfl rfl (cs' := #[.slice p39 (r.ms.length + 1) c40, .slice p46 (r.ms.length + 1) c47, .int .i64 (r.bytes + ((decS r.left).2.1)), .bool r.greet, .bool r.hello.e, .bool r.hello.f, .bool r.hello.n, .string (r.hello.name), .string (r.hello.peer), .bool r.told, .string (r.left), .int .i64 (r.done), .int .i64 (r.wrong)]) rfl ?_)
            intro wq54 H55
            refine g_nil ?_
            refine g_then ?_
            refine g_seq ?_
            refine g_region ?_
            refine l_of (s_val (v := .pointer (some ⟨gr, 0, none⟩)) (wt0 rfl) rfl rfl (x_move rfl rfl) ?_)
            refine l_of (s_val (v := .pointer (some ⟨gr, 0, none⟩)) (wt0 rfl) rfl rfl (x_move rfl rfl) ?_)
            refine l_of (s_val (v := .pointer (some ⟨gr, 0, none⟩)) (wt0 rfl) rfl rfl (x_nilCheck rfl rfl) ?_)
            refine l_of (s_val (v := .pointer (some ⟨gr, 10, none⟩)) (wt0 rfl) rfl rfl (x_fieldAddr rfl rfl fo108_4 rfl) ?_)
            refine l_of (s_val (v := .string (r.left)) (wt0 rfl) rfl rfl (x_load1 H55 3 rfl rfl Try.underlying9 rfl rfl rfl) ?_)
            refine l_of (s_val (v := .int .i64 ((decS r.left).2.1)) (wt0 rfl) rfl rfl (x_move rfl rfl) ?_)
            have hsz56 : (r.left.extract (((decS r.left).2.1).toNat) r.left.size).size = r.left.size - (((decS r.left).2.1).toNat) := by rw [ByteArray.size_extract]; omega
            refine l_of (s_val (v := .string (r.left.extract (((decS r.left).2.1).toNat) r.left.size)) (wt0 rfl) rfl rfl (x_slices (((decS r.left).2.1).toNat) r.left.size rfl rfl Try.underlying9 (.inr ⟨_, _, _, rfl, rfl, by omega⟩) (.inl ⟨rfl, rfl⟩) (by omega)) ?_)
            refine l_of (s_val (v := .pointer (some ⟨gr, 0, none⟩)) (wt0 rfl) rfl rfl (x_nilCheck rfl rfl) ?_)
            refine l_of (s_val (v := .pointer (some ⟨gr, 10, none⟩)) (wt0 rfl) rfl rfl (x_fieldAddr rfl rfl fo108_4 rfl) ?_)
            refine l_of (s_store H55 3 (wt0 rfl) rfl rfl rfl rfl rfl sz9 rfl rfl (cs' := #[.slice p39 (r.ms.length + 1) c40, .slice p46 (r.ms.length + 1) c47, .int .i64 (r.bytes + ((decS r.left).2.1)), .bool r.greet, .bool r.hello.e, .bool r.hello.f, .bool r.hello.n, .string (r.hello.name), .string (r.hello.peer), .bool r.told, .string (r.left.extract (((decS r.left).2.1).toNat) r.left.size), .int .i64 (r.done), .int .i64 (r.wrong)]) rfl ?_)
            intro wq57 H58
            refine g_nil ?_
            refine g_then ?_
            refine g_weak [(0, .pointer (some ⟨gr, 0, none⟩)), (4, .int .i64 ((decS r.left).2.1))] ⟨rfl, rfl, trivial⟩ ?_
            refine g_seq ?_
            refine g_region ?_
            refine l_of (s_val (v := .pointer (some ⟨gr, 0, none⟩)) (wt0 rfl) rfl rfl (x_move rfl rfl) ?_)
            refine l_of (s_val (v := .pointer (some ⟨gr, 0, none⟩)) (wt0 rfl) rfl rfl (x_nilCheck rfl rfl) ?_)
            refine l_of (s_val (v := .pointer (some ⟨gr, 11, none⟩)) (wt0 rfl) rfl rfl (x_fieldAddr rfl rfl fo108_5 rfl) ?_)
            refine l_of (s_val (v := .int .i64 (r.done)) (wt0 rfl) rfl rfl (x_load1 H58 3 rfl rfl Try.underlying3 rfl rfl rfl) ?_)
            refine l_of (s_val (v := .int .i64 ((decS r.left).2.1)) (wt0 rfl) rfl rfl (x_move rfl rfl) ?_)
            refine l_of (s_val (v := .int .i64 (r.done + ((decS r.left).2.1))) (wt0 rfl) rfl rfl (x_bin rfl rfl rfl (b_add (w64 (by omega)))) ?_)
            refine l_of (s_val (v := .pointer (some ⟨gr, 0, none⟩)) (wt0 rfl) rfl rfl (x_nilCheck rfl rfl) ?_)
            refine l_of (s_val (v := .pointer (some ⟨gr, 11, none⟩)) (wt0 rfl) rfl rfl (x_fieldAddr rfl rfl fo108_5 rfl) ?_)
            refine l_of (s_store H58 3 (wt0 rfl) rfl rfl rfl rfl rfl sz3 rfl rfl (cs' := #[.slice p39 (r.ms.length + 1) c40, .slice p46 (r.ms.length + 1) c47, .int .i64 (r.bytes + ((decS r.left).2.1)), .bool r.greet, .bool r.hello.e, .bool r.hello.f, .bool r.hello.n, .string (r.hello.name), .string (r.hello.peer), .bool r.told, .string (r.left.extract (((decS r.left).2.1).toNat) r.left.size), .int .i64 (r.done + ((decS r.left).2.1)), .int .i64 (r.wrong)]) rfl ?_)
            intro wq59 H60
            refine g_nil ?_
            refine g_then ?_
            refine g_seq ?_
            refine g_region ?_
            refine l_of (s_val (v := .bool true) (wt0 rfl) rfl rfl (x_assign rfl rfl) ?_)
            refine g_nil ?_
            refine g_then ?_
            refine g_ret ?_
            refine fin_ret [.tmp 2] [.bool true] rfl ⟨rfl, trivial⟩ ?_
            unfold stepR
            rw [if_neg (by rw [hb4]; exact Bool.false_ne_true), if_neg hb28, if_pos hb33]
            refine ⟨rfl, p39, c40, p46, c47, ?_⟩
            have HF := H60.mask [false, false, false, true, true, true, true]
            rw [rdL_eq _ _ _ _ _ _ (n := r.ms.length + 1) (by simp) (msgsV_snoc _ _) (zsV_snoc _ _)]; exact HF
          · skip
            refine s_buildSlice H38 (wt0 rfl) rfl rfl rfl (vs := [.int .i64 ((decS r.left).2.1)]) rfl Try.underlying60 sz3 ze3 rfl rfl (cells := #[.int .i64 ((decS r.left).2.1)]) (by kernel_rfl) ?_
            intro g61 wq62 H63
            refine y_k (H63.mask [false, false, true, true, false, false, false]) (H63.mask [false, false, true, false, false, false, false]) ?_
            refine y_one (i := 9) (by kernel_rfl) rfl ?_
            refine s_appendR (n := r.ms.length) (m := 1) (sc := c1) (xs := (msgsV r.ms)) (news := ((decS r.left).1.cells).toList) (p := p1) (ad := ⟨g36, 0, none⟩) H63 4 (wt0 rfl) rfl rfl rfl rfl rfl rfl Try.underlying46 inf33 rfl (by decide) (by decide) rfl (by decide) (news_ob H63 (j0 := 1) rfl) rfl (by omega) ?_
            intro p64 c65 wq66 (H67 : S wq66 [Ob g61 (.cells #[.int .i64 ((decS r.left).2.1)] 3 (0, 0)), Ob g36 (.cells (decS r.left).1.cells 33 (0, 0)), Ob g1 (.cells (decS r.left).1.cells 33 (0, 0)), Ob gr (.cells #[.slice p1 r.ms.length c1, .slice p2 r.ms.length c2, .int .i64 (r.bytes), .bool r.greet, .bool r.hello.e, .bool r.hello.f, .bool r.hello.n, .string (r.hello.name), .string (r.hello.peer), .bool r.told, .string (r.left), .int .i64 (r.done), .int .i64 (r.wrong)] 108 (0, 0)), Rw 33 8 p64 (r.ms.length + 1) c65 ((msgsV r.ms) ++ ((decS r.left).1.cells).toList), Rw 3 1 p2 r.ms.length c2 (zsV r.zs), Old w (fps (rdL gr r p1 c1 p2 c2))])
            refine y_k (H67.mask [false, false, true, true, false, false, false]) (H67.mask [false, false, true, false, false, false, false]) ?_
            refine y_one (i := 17) (by kernel_rfl) rfl ?_
            refine s_appendR (n := r.ms.length) (m := 1) (sc := c2) (xs := (zsV r.zs)) (news := [.int .i64 ((decS r.left).2.1)]) (p := p2) (ad := ⟨g61, 0, none⟩) H67 5 (wt0 rfl) rfl rfl rfl rfl rfl rfl Try.underlying60 inf3 rfl (by decide) (by decide) rfl (by decide) (news_ob H67 (j0 := 0) rfl) rfl (by omega) ?_
            intro p68 c69 wq70 (H71 : S wq70 [Ob g61 (.cells #[.int .i64 ((decS r.left).2.1)] 3 (0, 0)), Ob g36 (.cells (decS r.left).1.cells 33 (0, 0)), Ob g1 (.cells (decS r.left).1.cells 33 (0, 0)), Ob gr (.cells #[.slice p1 r.ms.length c1, .slice p2 r.ms.length c2, .int .i64 (r.bytes), .bool r.greet, .bool r.hello.e, .bool r.hello.f, .bool r.hello.n, .string (r.hello.name), .string (r.hello.peer), .bool r.told, .string (r.left), .int .i64 (r.done), .int .i64 (r.wrong)] 108 (0, 0)), Rw 33 8 p64 (r.ms.length + 1) c65 ((msgsV r.ms) ++ ((decS r.left).1.cells).toList), Rw 3 1 p68 (r.ms.length + 1) c69 ((zsV r.zs) ++ [.int .i64 ((decS r.left).2.1)]), Old w (fps (rdL gr r p1 c1 p2 c2))])
            refine y_k (H71.mask [false, false, true, true, false, false, false]) (H71.mask [false, false, true, false, false, false, false]) ?_
            refine y_pure (v := .pointer (some ⟨gr, 0, none⟩)) 18 rfl (wt0 rfl) rfl rfl rfl (by kernel_rfl) (by kernel_rfl) (by kernel_rfl) (by kernel_rfl) (fun wx => x_nilCheck rfl rfl) ?_
            refine y_pure (v := .pointer (some ⟨gr, 0, none⟩)) 19 rfl (wt0 rfl) rfl rfl rfl (by kernel_rfl) (by kernel_rfl) (by kernel_rfl) (by kernel_rfl) (fun wx => x_fieldAddr rfl rfl fo108_0 rfl) ?_
            refine y_pure (v := .pointer (some ⟨gr, 0, none⟩)) 20 rfl (wt0 rfl) rfl rfl rfl (by kernel_rfl) (by kernel_rfl) (by kernel_rfl) (by kernel_rfl) (fun wx => x_fieldAddr rfl rfl fo106_0 rfl) ?_
            refine y_one (i := 21) (by kernel_rfl) rfl ?_
            refine s_store H71 3 (wt0 rfl) rfl rfl rfl rfl rfl sz46 rfl rfl (cs' := #[.slice p64 (r.ms.length + 1) c65, .slice p2 r.ms.length c2, .int .i64 (r.bytes), .bool r.greet, .bool r.hello.e, .bool r.hello.f, .bool r.hello.n, .string (r.hello.name), .string (r.hello.peer), .bool r.told, .string (r.left), .int .i64 (r.done), .int .i64 (r.wrong)]) rfl ?_
            intro wq72 H73
            refine y_kt rfl (H73.mask [false, false, true, false, false, false, false]) ?_
            refine y_pure (v := .pointer (some ⟨gr, 0, none⟩)) 22 rfl (wt0 rfl) rfl rfl rfl (by kernel_rfl) (by kernel_rfl) (by kernel_rfl) (by kernel_rfl) (fun wx => x_nilCheck rfl rfl) ?_
            refine y_pure (v := .pointer (some ⟨gr, 0, none⟩)) 23 rfl (wt0 rfl) rfl rfl rfl (by kernel_rfl) (by kernel_rfl) (by kernel_rfl) (by kernel_rfl) (fun wx => x_fieldAddr rfl rfl fo108_0 rfl) ?_
            refine y_pure (v := .pointer (some ⟨gr, 1, none⟩)) 24 rfl (wt0 rfl) rfl rfl rfl (by kernel_rfl) (by kernel_rfl) (by kernel_rfl) (by kernel_rfl) (fun wx => x_fieldAddr rfl rfl fo106_1 rfl) ?_
            refine y_one (i := 25) (by kernel_rfl) rfl ?_
            refine s_store H73 3 (wt0 rfl) rfl rfl rfl rfl rfl sz60 rfl rfl (cs' := #[.slice p64 (r.ms.length + 1) c65, .slice p68 (r.ms.length + 1) c69, .int .i64 (r.bytes), .bool r.greet, .bool r.hello.e, .bool r.hello.f, .bool r.hello.n, .string (r.hello.name), .string (r.hello.peer), .bool r.told, .string (r.left), .int .i64 (r.done), .int .i64 (r.wrong)]) rfl ?_
            intro wq74 H75
            refine y_kt rfl (H75.mask [false, false, true, false, false, false, false]) ?_
            refine y_done (by kernel_rfl) ?_
            refine g_then ?_
            refine g_weak [(0, .pointer (some ⟨gr, 0, none⟩)), (4, .int .i64 ((decS r.left).2.1))] ⟨rfl, rfl, trivial⟩ ?_
            refine g_region ?_
            refine l_of (s_val (v := .pointer (some ⟨gr, 0, none⟩)) (wt0 rfl) rfl rfl (x_move rfl rfl) ?_)
            refine l_of (s_val (v := .pointer (some ⟨gr, 0, none⟩)) (wt0 rfl) rfl rfl (x_nilCheck rfl rfl) ?_)
            refine l_of (s_val (v := .pointer (some ⟨gr, 0, none⟩)) (wt0 rfl) rfl rfl (x_fieldAddr rfl rfl fo108_0 rfl) ?_)
            refine l_of (s_val (v := .pointer (some ⟨gr, 2, none⟩)) (wt0 rfl) rfl rfl (x_fieldAddr rfl rfl fo106_2 rfl) ?_)
            refine l_of (s_val (v := .int .i64 (r.bytes)) (wt0 rfl) rfl rfl (x_load1 H75 3 rfl rfl Try.underlying3 rfl rfl rfl) ?_)
            refine l_of (s_val (v := .int .i64 ((decS r.left).2.1)) (wt0 rfl) rfl rfl (x_move rfl rfl) ?_)
            refine l_of (s_val (v := .int .i64 (r.bytes + ((decS r.left).2.1))) (wt0 rfl) rfl rfl (x_bin rfl rfl rfl (b_add (w64 (by omega)))) ?_)
            refine l_of (s_val (v := .pointer (some ⟨gr, 0, none⟩)) (wt0 rfl) rfl rfl (x_nilCheck rfl rfl) ?_)
            refine l_of (s_val (v := .pointer (some ⟨gr, 0, none⟩)) (wt0 rfl) rfl rfl (x_fieldAddr rfl rfl fo108_0 rfl) ?_)
            refine l_of (s_val (v := .pointer (some ⟨gr, 2, none⟩)) (wt0 rfl) rfl rfl (x_fieldAddr rfl rfl fo106_2 rfl) ?_)
            refine l_of (s_store H75 3 (wt0 rfl) rfl rfl rfl rfl rfl sz3 rfl rfl (cs' := #[.slice p64 (r.ms.length + 1) c65, .slice p68 (r.ms.length + 1) c69, .int .i64 (r.bytes + ((decS r.left).2.1)), .bool r.greet, .bool r.hello.e, .bool r.hello.f, .bool r.hello.n, .string (r.hello.name), .string (r.hello.peer), .bool r.told, .string (r.left), .int .i64 (r.done), .int .i64 (r.wrong)]) rfl ?_)
            intro wq76 H77
            refine g_nil ?_
            refine g_then ?_
            refine g_seq ?_
            refine g_region ?_
            refine l_of (s_val (v := .pointer (some ⟨gr, 0, none⟩)) (wt0 rfl) rfl rfl (x_move rfl rfl) ?_)
            refine l_of (s_val (v := .pointer (some ⟨gr, 0, none⟩)) (wt0 rfl) rfl rfl (x_move rfl rfl) ?_)
            refine l_of (s_val (v := .pointer (some ⟨gr, 0, none⟩)) (wt0 rfl) rfl rfl (x_nilCheck rfl rfl) ?_)
            refine l_of (s_val (v := .pointer (some ⟨gr, 10, none⟩)) (wt0 rfl) rfl rfl (x_fieldAddr rfl rfl fo108_4 rfl) ?_)
            refine l_of (s_val (v := .string (r.left)) (wt0 rfl) rfl rfl (x_load1 H77 3 rfl rfl Try.underlying9 rfl rfl rfl) ?_)
            refine l_of (s_val (v := .int .i64 ((decS r.left).2.1)) (wt0 rfl) rfl rfl (x_move rfl rfl) ?_)
            have hsz78 : (r.left.extract (((decS r.left).2.1).toNat) r.left.size).size = r.left.size - (((decS r.left).2.1).toNat) := by rw [ByteArray.size_extract]; omega
            refine l_of (s_val (v := .string (r.left.extract (((decS r.left).2.1).toNat) r.left.size)) (wt0 rfl) rfl rfl (x_slices (((decS r.left).2.1).toNat) r.left.size rfl rfl Try.underlying9 (.inr ⟨_, _, _, rfl, rfl, by omega⟩) (.inl ⟨rfl, rfl⟩) (by omega)) ?_)
            refine l_of (s_val (v := .pointer (some ⟨gr, 0, none⟩)) (wt0 rfl) rfl rfl (x_nilCheck rfl rfl) ?_)
            refine l_of (s_val (v := .pointer (some ⟨gr, 10, none⟩)) (wt0 rfl) rfl rfl (x_fieldAddr rfl rfl fo108_4 rfl) ?_)
            refine l_of (s_store H77 3 (wt0 rfl) rfl rfl rfl rfl rfl sz9 rfl rfl (cs' := #[.slice p64 (r.ms.length + 1) c65, .slice p68 (r.ms.length + 1) c69, .int .i64 (r.bytes + ((decS r.left).2.1)), .bool r.greet, .bool r.hello.e, .bool r.hello.f, .bool r.hello.n, .string (r.hello.name), .string (r.hello.peer), .bool r.told, .string (r.left.extract (((decS r.left).2.1).toNat) r.left.size), .int .i64 (r.done), .int .i64 (r.wrong)]) rfl ?_)
            intro wq79 H80
            refine g_nil ?_
            refine g_then ?_
            refine g_weak [(0, .pointer (some ⟨gr, 0, none⟩)), (4, .int .i64 ((decS r.left).2.1))] ⟨rfl, rfl, trivial⟩ ?_
            refine g_seq ?_
            refine g_region ?_
            refine l_of (s_val (v := .pointer (some ⟨gr, 0, none⟩)) (wt0 rfl) rfl rfl (x_move rfl rfl) ?_)
            refine l_of (s_val (v := .pointer (some ⟨gr, 0, none⟩)) (wt0 rfl) rfl rfl (x_nilCheck rfl rfl) ?_)
            refine l_of (s_val (v := .pointer (some ⟨gr, 11, none⟩)) (wt0 rfl) rfl rfl (x_fieldAddr rfl rfl fo108_5 rfl) ?_)
            refine l_of (s_val (v := .int .i64 (r.done)) (wt0 rfl) rfl rfl (x_load1 H80 3 rfl rfl Try.underlying3 rfl rfl rfl) ?_)
            refine l_of (s_val (v := .int .i64 ((decS r.left).2.1)) (wt0 rfl) rfl rfl (x_move rfl rfl) ?_)
            refine l_of (s_val (v := .int .i64 (r.done + ((decS r.left).2.1))) (wt0 rfl) rfl rfl (x_bin rfl rfl rfl (b_add (w64 (by omega)))) ?_)
            refine l_of (s_val (v := .pointer (some ⟨gr, 0, none⟩)) (wt0 rfl) rfl rfl (x_nilCheck rfl rfl) ?_)
            refine l_of (s_val (v := .pointer (some ⟨gr, 11, none⟩)) (wt0 rfl) rfl rfl (x_fieldAddr rfl rfl fo108_5 rfl) ?_)
            refine l_of (s_store H80 3 (wt0 rfl) rfl rfl rfl rfl rfl sz3 rfl rfl (cs' := #[.slice p64 (r.ms.length + 1) c65, .slice p68 (r.ms.length + 1) c69, .int .i64 (r.bytes + ((decS r.left).2.1)), .bool r.greet, .bool r.hello.e, .bool r.hello.f, .bool r.hello.n, .string (r.hello.name), .string (r.hello.peer), .bool r.told, .string (r.left.extract (((decS r.left).2.1).toNat) r.left.size), .int .i64 (r.done + ((decS r.left).2.1)), .int .i64 (r.wrong)]) rfl ?_)
            intro wq81 H82
            refine g_nil ?_
            refine g_then ?_
            refine g_seq ?_
            refine g_region ?_
            refine l_of (s_val (v := .bool true) (wt0 rfl) rfl rfl (x_assign rfl rfl) ?_)
            refine g_nil ?_
            refine g_then ?_
            refine g_ret ?_
            refine fin_ret [.tmp 2] [.bool true] rfl ⟨rfl, trivial⟩ ?_
            unfold stepR
            rw [if_neg (by rw [hb4]; exact Bool.false_ne_true), if_neg hb28, if_pos hb33]
            refine ⟨rfl, p64, c65, p68, c69, ?_⟩
            have HF := H82.mask [false, false, false, true, true, true, true]
            rw [rdL_eq _ _ _ _ _ _ (n := r.ms.length + 1) (by simp) (msgsV_snoc _ _) (zsV_snoc _ _)]; exact HF
        · skip
          refine s_buildSlice H35 (wt0 rfl) rfl rfl rfl (vs := [.int .i64 ((decS r.left).2.1)]) rfl Try.underlying60 sz3 ze3 rfl rfl (cells := #[.int .i64 ((decS r.left).2.1)]) (by kernel_rfl) ?_
          intro g83 wq84 H85
          refine y_k (H85.mask [false, true, true, false, false, false]) (H85.mask [false, true, false, false, false, false]) ?_
          refine y_one (i := 8) (by kernel_rfl) rfl ?_
          refine s_buildSlice H85 (wt0 rfl) rfl rfl rfl (vs := [.agg (decS r.left).1.cells]) rfl Try.underlying46 sz33 ze33 rfl rfl (cells := (decS r.left).1.cells) (by kernel_rfl) ?_
          intro g86 wq87 H88
          refine y_k (H88.mask [false, false, true, true, false, false, false]) (H88.mask [false, false, true, false, false, false, false]) ?_
          refine y_one (i := 9) (by kernel_rfl) rfl ?_
          refine s_appendR (n := r.ms.length) (m := 1) (sc := c1) (xs := (msgsV r.ms)) (news := ((decS r.left).1.cells).toList) (p := p1) (ad := ⟨g86, 0, none⟩) H88 4 (wt0 rfl) rfl rfl rfl rfl rfl rfl Try.underlying46 inf33 rfl (by decide) (by decide) rfl (by decide) (news_ob H88 (j0 := 0) rfl) rfl (by omega) ?_
          intro p89 c90 wq91 (H92 : S wq91 [Ob g86 (.cells (decS r.left).1.cells 33 (0, 0)), Ob g83 (.cells #[.int .i64 ((decS r.left).2.1)] 3 (0, 0)), Ob g1 (.cells (decS r.left).1.cells 33 (0, 0)), Ob gr (.cells #[.slice p1 r.ms.length c1, .slice p2 r.ms.length c2, .int .i64 (r.bytes), .bool r.greet, .bool r.hello.e, .bool r.hello.f, .bool r.hello.n, .string (r.hello.name), .string (r.hello.peer), .bool r.told, .string (r.left), .int .i64 (r.done), .int .i64 (r.wrong)] 108 (0, 0)), Rw 33 8 p89 (r.ms.length + 1) c90 ((msgsV r.ms) ++ ((decS r.left).1.cells).toList), Rw 3 1 p2 r.ms.length c2 (zsV r.zs), Old w (fps (rdL gr r p1 c1 p2 c2))])
          refine y_k (H92.mask [false, false, true, true, false, false, false]) (H92.mask [false, false, true, false, false, false, false]) ?_
          refine y_one (i := 17) (by kernel_rfl) rfl ?_
          refine s_appendR (n := r.ms.length) (m := 1) (sc := c2) (xs := (zsV r.zs)) (news := [.int .i64 ((decS r.left).2.1)]) (p := p2) (ad := ⟨g83, 0, none⟩) H92 5 (wt0 rfl) rfl rfl rfl rfl rfl rfl Try.underlying60 inf3 rfl (by decide) (by decide) rfl (by decide) (news_ob H92 (j0 := 1) rfl) rfl (by omega) ?_
          intro p93 c94 wq95 (H96 : S wq95 [Ob g86 (.cells (decS r.left).1.cells 33 (0, 0)), Ob g83 (.cells #[.int .i64 ((decS r.left).2.1)] 3 (0, 0)), Ob g1 (.cells (decS r.left).1.cells 33 (0, 0)), Ob gr (.cells #[.slice p1 r.ms.length c1, .slice p2 r.ms.length c2, .int .i64 (r.bytes), .bool r.greet, .bool r.hello.e, .bool r.hello.f, .bool r.hello.n, .string (r.hello.name), .string (r.hello.peer), .bool r.told, .string (r.left), .int .i64 (r.done), .int .i64 (r.wrong)] 108 (0, 0)), Rw 33 8 p89 (r.ms.length + 1) c90 ((msgsV r.ms) ++ ((decS r.left).1.cells).toList), Rw 3 1 p93 (r.ms.length + 1) c94 ((zsV r.zs) ++ [.int .i64 ((decS r.left).2.1)]), Old w (fps (rdL gr r p1 c1 p2 c2))])
          refine y_k (H96.mask [false, false, true, true, false, false, false]) (H96.mask [false, false, true, false, false, false, false]) ?_
          refine y_pure (v := .pointer (some ⟨gr, 0, none⟩)) 18 rfl (wt0 rfl) rfl rfl rfl (by kernel_rfl) (by kernel_rfl) (by kernel_rfl) (by kernel_rfl) (fun wx => x_nilCheck rfl rfl) ?_
          refine y_pure (v := .pointer (some ⟨gr, 0, none⟩)) 19 rfl (wt0 rfl) rfl rfl rfl (by kernel_rfl) (by kernel_rfl) (by kernel_rfl) (by kernel_rfl) (fun wx => x_fieldAddr rfl rfl fo108_0 rfl) ?_
          refine y_pure (v := .pointer (some ⟨gr, 0, none⟩)) 20 rfl (wt0 rfl) rfl rfl rfl (by kernel_rfl) (by kernel_rfl) (by kernel_rfl) (by kernel_rfl) (fun wx => x_fieldAddr rfl rfl fo106_0 rfl) ?_
          refine y_one (i := 21) (by kernel_rfl) rfl ?_
          refine s_store H96 3 (wt0 rfl) rfl rfl rfl rfl rfl sz46 rfl rfl (cs' := #[.slice p89 (r.ms.length + 1) c90, .slice p2 r.ms.length c2, .int .i64 (r.bytes), .bool r.greet, .bool r.hello.e, .bool r.hello.f, .bool r.hello.n, .string (r.hello.name), .string (r.hello.peer), .bool r.told, .string (r.left), .int .i64 (r.done), .int .i64 (r.wrong)]) rfl ?_
          intro wq97 H98
          refine y_kt rfl (H98.mask [false, false, true, false, false, false, false]) ?_
          refine y_pure (v := .pointer (some ⟨gr, 0, none⟩)) 22 rfl (wt0 rfl) rfl rfl rfl (by kernel_rfl) (by kernel_rfl) (by kernel_rfl) (by kernel_rfl) (fun wx => x_nilCheck rfl rfl) ?_
          refine y_pure (v := .pointer (some ⟨gr, 0, none⟩)) 23 rfl (wt0 rfl) rfl rfl rfl (by kernel_rfl) (by kernel_rfl) (by kernel_rfl) (by kernel_rfl) (fun wx => x_fieldAddr rfl rfl fo108_0 rfl) ?_
          refine y_pure (v := .pointer (some ⟨gr, 1, none⟩)) 24 rfl (wt0 rfl) rfl rfl rfl (by kernel_rfl) (by kernel_rfl) (by kernel_rfl) (by kernel_rfl) (fun wx => x_fieldAddr rfl rfl fo106_1 rfl) ?_
          refine y_one (i := 25) (by kernel_rfl) rfl ?_
          refine s_store H98 3 (wt0 rfl) rfl rfl rfl rfl rfl sz60 rfl rfl (cs' := #[.slice p89 (r.ms.length + 1) c90, .slice p93 (r.ms.length + 1) c94, .int .i64 (r.bytes), .bool r.greet, .bool r.hello.e, .bool r.hello.f, .bool r.hello.n, .string (r.hello.name), .string (r.hello.peer), .bool r.told, .string (r.left), .int .i64 (r.done), .int .i64 (r.wrong)]) rfl ?_
          intro wq99 H100
          refine y_kt rfl (H100.mask [false, false, true, false, false, false, false]) ?_
          refine y_done (by kernel_rfl) ?_
          refine g_then ?_
          refine g_weak [(0, .pointer (some ⟨gr, 0, none⟩)), (4, .int .i64 ((decS r.left).2.1))] ⟨rfl, rfl, trivial⟩ ?_
          refine g_region ?_
          refine l_of (s_val (v := .pointer (some ⟨gr, 0, none⟩)) (wt0 rfl) rfl rfl (x_move rfl rfl) ?_)
          refine l_of (s_val (v := .pointer (some ⟨gr, 0, none⟩)) (wt0 rfl) rfl rfl (x_nilCheck rfl rfl) ?_)
          refine l_of (s_val (v := .pointer (some ⟨gr, 0, none⟩)) (wt0 rfl) rfl rfl (x_fieldAddr rfl rfl fo108_0 rfl) ?_)
          refine l_of (s_val (v := .pointer (some ⟨gr, 2, none⟩)) (wt0 rfl) rfl rfl (x_fieldAddr rfl rfl fo106_2 rfl) ?_)
          refine l_of (s_val (v := .int .i64 (r.bytes)) (wt0 rfl) rfl rfl (x_load1 H100 3 rfl rfl Try.underlying3 rfl rfl rfl) ?_)
          refine l_of (s_val (v := .int .i64 ((decS r.left).2.1)) (wt0 rfl) rfl rfl (x_move rfl rfl) ?_)
          refine l_of (s_val (v := .int .i64 (r.bytes + ((decS r.left).2.1))) (wt0 rfl) rfl rfl (x_bin rfl rfl rfl (b_add (w64 (by omega)))) ?_)
          refine l_of (s_val (v := .pointer (some ⟨gr, 0, none⟩)) (wt0 rfl) rfl rfl (x_nilCheck rfl rfl) ?_)
          refine l_of (s_val (v := .pointer (some ⟨gr, 0, none⟩)) (wt0 rfl) rfl rfl (x_fieldAddr rfl rfl fo108_0 rfl) ?_)
          refine l_of (s_val (v := .pointer (some ⟨gr, 2, none⟩)) (wt0 rfl) rfl rfl (x_fieldAddr rfl rfl fo106_2 rfl) ?_)
          refine l_of (s_store H100 3 (wt0 rfl) rfl rfl rfl rfl rfl sz3 rfl rfl (cs' := #[.slice p89 (r.ms.length + 1) c90, .slice p93 (r.ms.length + 1) c94, .int .i64 (r.bytes + ((decS r.left).2.1)), .bool r.greet, .bool r.hello.e, .bool r.hello.f, .bool r.hello.n, .string (r.hello.name), .string (r.hello.peer), .bool r.told, .string (r.left), .int .i64 (r.done), .int .i64 (r.wrong)]) rfl ?_)
          intro wq101 H102
          refine g_nil ?_
          refine g_then ?_
          refine g_seq ?_
          refine g_region ?_
          refine l_of (s_val (v := .pointer (some ⟨gr, 0, none⟩)) (wt0 rfl) rfl rfl (x_move rfl rfl) ?_)
          refine l_of (s_val (v := .pointer (some ⟨gr, 0, none⟩)) (wt0 rfl) rfl rfl (x_move rfl rfl) ?_)
          refine l_of (s_val (v := .pointer (some ⟨gr, 0, none⟩)) (wt0 rfl) rfl rfl (x_nilCheck rfl rfl) ?_)
          refine l_of (s_val (v := .pointer (some ⟨gr, 10, none⟩)) (wt0 rfl) rfl rfl (x_fieldAddr rfl rfl fo108_4 rfl) ?_)
          refine l_of (s_val (v := .string (r.left)) (wt0 rfl) rfl rfl (x_load1 H102 3 rfl rfl Try.underlying9 rfl rfl rfl) ?_)
          refine l_of (s_val (v := .int .i64 ((decS r.left).2.1)) (wt0 rfl) rfl rfl (x_move rfl rfl) ?_)
          have hsz103 : (r.left.extract (((decS r.left).2.1).toNat) r.left.size).size = r.left.size - (((decS r.left).2.1).toNat) := by rw [ByteArray.size_extract]; omega
          refine l_of (s_val (v := .string (r.left.extract (((decS r.left).2.1).toNat) r.left.size)) (wt0 rfl) rfl rfl (x_slices (((decS r.left).2.1).toNat) r.left.size rfl rfl Try.underlying9 (.inr ⟨_, _, _, rfl, rfl, by omega⟩) (.inl ⟨rfl, rfl⟩) (by omega)) ?_)
          refine l_of (s_val (v := .pointer (some ⟨gr, 0, none⟩)) (wt0 rfl) rfl rfl (x_nilCheck rfl rfl) ?_)
          refine l_of (s_val (v := .pointer (some ⟨gr, 10, none⟩)) (wt0 rfl) rfl rfl (x_fieldAddr rfl rfl fo108_4 rfl) ?_)
          refine l_of (s_store H102 3 (wt0 rfl) rfl rfl rfl rfl rfl sz9 rfl rfl (cs' := #[.slice p89 (r.ms.length + 1) c90, .slice p93 (r.ms.length + 1) c94, .int .i64 (r.bytes + ((decS r.left).2.1)), .bool r.greet, .bool r.hello.e, .bool r.hello.f, .bool r.hello.n, .string (r.hello.name), .string (r.hello.peer), .bool r.told, .string (r.left.extract (((decS r.left).2.1).toNat) r.left.size), .int .i64 (r.done), .int .i64 (r.wrong)]) rfl ?_)
          intro wq104 H105
          refine g_nil ?_
          refine g_then ?_
          refine g_weak [(0, .pointer (some ⟨gr, 0, none⟩)), (4, .int .i64 ((decS r.left).2.1))] ⟨rfl, rfl, trivial⟩ ?_
          refine g_seq ?_
          refine g_region ?_
          refine l_of (s_val (v := .pointer (some ⟨gr, 0, none⟩)) (wt0 rfl) rfl rfl (x_move rfl rfl) ?_)
          refine l_of (s_val (v := .pointer (some ⟨gr, 0, none⟩)) (wt0 rfl) rfl rfl (x_nilCheck rfl rfl) ?_)
          refine l_of (s_val (v := .pointer (some ⟨gr, 11, none⟩)) (wt0 rfl) rfl rfl (x_fieldAddr rfl rfl fo108_5 rfl) ?_)
          refine l_of (s_val (v := .int .i64 (r.done)) (wt0 rfl) rfl rfl (x_load1 H105 3 rfl rfl Try.underlying3 rfl rfl rfl) ?_)
          refine l_of (s_val (v := .int .i64 ((decS r.left).2.1)) (wt0 rfl) rfl rfl (x_move rfl rfl) ?_)
          refine l_of (s_val (v := .int .i64 (r.done + ((decS r.left).2.1))) (wt0 rfl) rfl rfl (x_bin rfl rfl rfl (b_add (w64 (by omega)))) ?_)
          refine l_of (s_val (v := .pointer (some ⟨gr, 0, none⟩)) (wt0 rfl) rfl rfl (x_nilCheck rfl rfl) ?_)
          refine l_of (s_val (v := .pointer (some ⟨gr, 11, none⟩)) (wt0 rfl) rfl rfl (x_fieldAddr rfl rfl fo108_5 rfl) ?_)
          refine l_of (s_store H105 3 (wt0 rfl) rfl rfl rfl rfl rfl sz3 rfl rfl (cs' := #[.slice p89 (r.ms.length + 1) c90, .slice p93 (r.ms.length + 1) c94, .int .i64 (r.bytes + ((decS r.left).2.1)), .bool r.greet, .bool r.hello.e, .bool r.hello.f, .bool r.hello.n, .string (r.hello.name), .string (r.hello.peer), .bool r.told, .string (r.left.extract (((decS r.left).2.1).toNat) r.left.size), .int .i64 (r.done + ((decS r.left).2.1)), .int .i64 (r.wrong)]) rfl ?_)
          intro wq106 H107
          refine g_nil ?_
          refine g_then ?_
          refine g_seq ?_
          refine g_region ?_
          refine l_of (s_val (v := .bool true) (wt0 rfl) rfl rfl (x_assign rfl rfl) ?_)
          refine g_nil ?_
          refine g_then ?_
          refine g_ret ?_
          refine fin_ret [.tmp 2] [.bool true] rfl ⟨rfl, trivial⟩ ?_
          unfold stepR
          rw [if_neg (by rw [hb4]; exact Bool.false_ne_true), if_neg hb28, if_pos hb33]
          refine ⟨rfl, p89, c90, p93, c94, ?_⟩
          have HF := H107.mask [false, false, false, true, true, true, true]
          rw [rdL_eq _ _ _ _ _ _ (n := r.ms.length + 1) (by simp) (msgsV_snoc _ _) (zsV_snoc _ _)]; exact HF
      · skip
        refine g_cond_t rfl (nt hb33) ?_
        refine g_seq ?_
        refine g_region ?_
        refine l_of (s_val (v := .bool false) (wt0 rfl) rfl rfl (x_assign rfl rfl) ?_)
        refine g_nil ?_
        refine g_then ?_
        refine g_ret ?_
        refine g_then_ret ?_
        refine fin_ret [.tmp 2] [.bool false] rfl ⟨rfl, trivial⟩ ?_
        unfold stepR
        rw [if_neg (by rw [hb4]; exact Bool.false_ne_true), if_neg hb28, if_neg hb33]
        refine ⟨rfl, p1, c1, p2, c2, ?_⟩
        have HF := H27.mask [false, true, true, true, true]
        exact HF
end Go.Proofs.Ytcjmdkklbbollaa
