import Derived.Test.YthfglkkjkpdkpaaDoorNe
import Derived.Test.YthfglkkjkpdkpaaDoorGy
set_option linter.unusedSimpArgs false
set_option linter.unusedVariables false
namespace Go.Proofs.YthfglkkjkpdkpaaDoor
open Go.RowKit

theorem cl30 : callable Tryd.prog 30 = true := by kernel_rfl
theorem cl31 : callable Tryd.prog 31 = true := by kernel_rfl
theorem cl32 : callable Tryd.prog 32 = true := by kernel_rfl
theorem cl36 : callable Tryd.prog 36 = true := by kernel_rfl
theorem fo49_1 : foO Tryd.prog 49 1 = some 2 := by kernel_rfl
theorem kn_len {ps : List Pp} (hn : (ps.map Pp.id).Nodup) (ho : ∀ p ∈ ps, okI p.id) {m : Nat} (h : KN okI (peerM ps) m) : m = ps.length := by
  refine KN_eq (M2 := peerM ps) h ⟨ps.map fun p => (p.id, p.b), ?_, fun q => ?_, by simp⟩ (fun _ _ => Iff.rfl)
  · rw [List.map_map]; exact hn
  · constructor
    · intro hq
      obtain ⟨p, hp, rfl⟩ := List.mem_map.1 hq
      obtain ⟨i, hi⟩ := List.getElem?_of_mem hp
      exact ⟨ho p hp, peerM_at hn hi⟩
    · rintro ⟨_, h2⟩
      obtain ⟨i, p, hp, h3, h4⟩ := peerM_some h2
      exact List.mem_map.2 ⟨p, List.mem_of_getElem? hp, by rw [h3, h4]⟩
set_option maxRecDepth 20000 in
set_option maxHeartbeats 4000000 in
set_option maxRecDepth 20000 in
set_option maxHeartbeats 4000000 in
theorem waits_s (j g mg : Nat) (dp : Option Addr) (dc : Nat) (ep : Option Addr) (ec : Nat) (seed : ByteArray) (n : Nat) (ps : List Pp) (hX : PI j (⟨seed, n, ps.map Pp.sh⟩ : SP)) (hj : j ≤ 1000) (i : Nat) (p : Pp) (hp : ps[i]? = some p) (ho : ∀ p ∈ ps, okI p.id)  (w : World) (HS : S w [Ob p.b (.cells #[.slice p.tp p.told.length p.tc, .map (some p.hm)] 58 (0, 0)), Rw 3 1 p.tp p.told.length p.tc (fl intL p.told), Mp (Value.int .i64) Value.bool okI p.hm (hMap p.holds), Ob g (.cells #[.slice dp n dc, .slice ep n ec, .string seed, .map (some mg)] 49 (0, 0)), Rw 3 1 ep n ec (fl intL (cntL n (hcF (ps.map Pp.sh)))), Mp (Value.int .i64) ptV okI mg (peerM ps)]) : Calls Tryd.prog 29 #[.pointer (some ⟨g, 0, none⟩), .pointer (some ⟨p.b, 0, none⟩)] w fun e w' => e = .returned (.bool (waitB (⟨seed, n, ps.map Pp.sh⟩ : SP) p.sh)) ∧ S w' ([Ob p.b (.cells #[.slice p.tp p.told.length p.tc, .map (some p.hm)] 58 (0, 0)), Rw 3 1 p.tp p.told.length p.tc (fl intL p.told), Mp (Value.int .i64) Value.bool okI p.hm (hMap p.holds), Ob g (.cells #[.slice dp n dc, .slice ep n ec, .string seed, .map (some mg)] 49 (0, 0)), Rw 3 1 ep n ec (fl intL (cntL n (hcF (ps.map Pp.sh)))), Mp (Value.int .i64) ptV okI mg (peerM ps)] ++ [Old w (fps [Ob p.b (.cells #[.slice p.tp p.told.length p.tc, .map (some p.hm)] 58 (0, 0)), Rw 3 1 p.tp p.told.length p.tc (fl intL p.told), Mp (Value.int .i64) Value.bool okI p.hm (hMap p.holds), Ob g (.cells #[.slice dp n dc, .slice ep n ec, .string seed, .map (some mg)] 49 (0, 0)), Rw 3 1 ep n ec (fl intL (cntL n (hcF (ps.map Pp.sh)))), Mp (Value.int .i64) ptV okI mg (peerM ps)])]) := by
  have H00 := HS.beginI
  have H0 : S w ([Ob p.b (.cells #[.slice p.tp p.told.length p.tc, .map (some p.hm)] 58 (0, 0)), Rw 3 1 p.tp p.told.length p.tc (fl intL p.told), Mp (Value.int .i64) Value.bool okI p.hm (hMap p.holds), Ob g (.cells #[.slice dp n dc, .slice ep n ec, .string seed, .map (some mg)] 49 (0, 0)), Rw 3 1 ep n ec (fl intL (cntL n (hcF (ps.map Pp.sh)))), Mp (Value.int .i64) ptV okI mg (peerM ps), Old w (fps [Ob p.b (.cells #[.slice p.tp p.told.length p.tc, .map (some p.hm)] 58 (0, 0)), Rw 3 1 p.tp p.told.length p.tc (fl intL p.told), Mp (Value.int .i64) Value.bool okI p.hm (hMap p.holds), Ob g (.cells #[.slice dp n dc, .slice ep n ec, .string seed, .map (some mg)] 49 (0, 0)), Rw 3 1 ep n ec (fl intL (cntL n (hcF (ps.map Pp.sh)))), Mp (Value.int .i64) ptV okI mg (peerM ps)])]) := H00
  have hPI : PI j (⟨seed, n, ps.map Pp.sh⟩ : SP) := hX
  have hnd : (ps.map Pp.id).Nodup := by have := hPI.nd; rwa [sh_ids] at this
  have hps : ps.length ≤ j := by have := hPI.len; simpa using this
  have hn30 : n ≤ 30 := hPI.n30
  have hq : (ps.map Pp.sh)[i]? = some p.sh := by rw [List.getElem?_map, hp]; rfl
  have hpk := hPI.at (p := p.sh) hq
  have htl : p.told.length ≤ j := hpk.2.1
  have htin : ∀ k ∈ p.told, 0 ≤ k ∧ k < (n : Int) := hpk.2.2.2.2.1
  have hoi : ∀ p ∈ ps, okI p.id := ho
  refine enter 60 Tryd.func29 rfl rfl rfl ?_
  refine g_weak [(0, .pointer (some ⟨g, 0, none⟩)), (1, .pointer (some ⟨p.b, 0, none⟩))] ⟨rfl, rfl, trivial⟩ ?_
  refine g_seq ?_
  refine g_region ?_
  refine l_of (s_val (v := .bool false) (wt0 rfl) rfl rfl (x_assign rfl rfl) ?_)
  refine g_nil ?_
  refine g_then ?_
  refine g_seq ?_
  refine g_seq ?_
  refine g_region ?_
  refine l_of (s_val (v := .pointer (some ⟨p.b, 0, none⟩)) (wt0 rfl) rfl rfl (x_move rfl rfl) ?_)
  refine l_of (s_val (v := .pointer (some ⟨p.b, 0, none⟩)) (wt0 rfl) rfl rfl (x_nilCheck rfl rfl) ?_)
  refine l_of (s_val (v := .pointer (some ⟨p.b, 0, none⟩)) (wt0 rfl) rfl rfl (x_fieldAddr rfl rfl fo58_0 rfl) ?_)
  refine l_of (s_val (v := .slice p.tp p.told.length p.tc) (wt0 rfl) rfl rfl (x_load1 H0 0 rfl rfl Tryd.underlying35 rfl rfl rfl) ?_)
  refine l_of (s_val (v := .int .i64 ((p.told.length : Int))) (wt0 rfl) rfl rfl (x_lenl rfl rfl Tryd.underlying35) ?_)
  refine l_of (s_val (v := .bool (decide (((p.told.length : Int) : Int) = 0))) (wt0 rfl) rfl rfl (x_bin rfl rfl rfl b_eql) ?_)
  refine g_nil ?_
  refine g_then ?_
  by_cases hb1 : ((p.told.length : Int) : Int) = 0
  · skip
    refine g_cond_t rfl (decide_eq_true hb1) ?_
    refine g_seq ?_
    refine g_region ?_
    refine l_of (s_val (v := .bool false) (wt0 rfl) rfl rfl (x_assign rfl rfl) ?_)
    refine g_nil ?_
    refine g_then ?_
    refine g_ret ?_
    refine g_then_ret ?_
    refine fin_ret [.tmp 4] [.bool false] rfl ⟨rfl, trivial⟩ ?_
    have hw : waitB (⟨seed, n, ps.map Pp.sh⟩ : SP) p.sh = false := by unfold waitB; rw [show p.sh.told.getLast? = none from by rw [List.getLast?_eq_none_iff]; exact List.eq_nil_of_length_eq_zero (by show p.told.length = 0; omega)]
    exact ⟨by rw [hw]; rfl, H0.takes [0, 1, 2, 3, 4, 5, 6] (by decide)⟩
  · skip
    refine g_cond_f rfl (decide_eq_false hb1) ?_
    refine g_skip ?_
    refine g_then ?_
    refine g_seq ?_
    refine g_quiet (by kernel_rfl) (by kernel_rfl) H0 ?_
    refine q_val (v := .pointer (some ⟨p.b, 0, none⟩)) (wt0 rfl) rfl rfl (fun wx H => x_move rfl rfl) ?_
    refine q_val (v := .pointer (some ⟨p.b, 0, none⟩)) (wt0 rfl) rfl rfl (fun wx H => x_nilCheck rfl rfl) ?_
    refine q_val (v := .pointer (some ⟨p.b, 0, none⟩)) (wt0 rfl) rfl rfl (fun wx H => x_fieldAddr rfl rfl fo58_0 rfl) ?_
    refine q_val (v := .slice p.tp p.told.length p.tc) (wt0 rfl) rfl rfl (fun wx H => x_load1 H 0 rfl rfl Tryd.underlying35 rfl rfl rfl) ?_
    refine q_val (v := .pointer (some ⟨p.b, 0, none⟩)) (wt0 rfl) rfl rfl (fun wx H => x_move rfl rfl) ?_
    refine q_val (v := .pointer (some ⟨p.b, 0, none⟩)) (wt0 rfl) rfl rfl (fun wx H => x_nilCheck rfl rfl) ?_
    refine q_val (v := .pointer (some ⟨p.b, 0, none⟩)) (wt0 rfl) rfl rfl (fun wx H => x_fieldAddr rfl rfl fo58_0 rfl) ?_
    refine q_val (v := .slice p.tp p.told.length p.tc) (wt0 rfl) rfl rfl (fun wx H => x_load1 H 0 rfl rfl Tryd.underlying35 rfl rfl rfl) ?_
    refine q_val (v := .int .i64 ((p.told.length : Int))) (wt0 rfl) rfl rfl (fun wx H => x_lenl rfl rfl Tryd.underlying35) ?_
    refine q_val (v := .int .i64 ((p.told.length : Int) - 1)) (wt0 rfl) rfl rfl (fun wx H => x_bin rfl rfl rfl (b_sub (w64 (by omega)))) ?_
    refine q_val (v := .pointer ((p.tp).map fun q => q.add ((((p.told.length : Int) - 1).toNat) * 1))) (wt0 rfl) rfl rfl (fun wx H => x_idxP (((p.told.length : Int) - 1).toNat) ((H0.rwReads (k := 1) rfl).some (by omega)) rfl rfl rfl Tryd.underlying35 sz3 (by omega)) ?_
    have hlq := (H0.rwReads (k := 1) rfl).lenL intE
    obtain ⟨x2, hx2⟩ := ex_at (l := p.told) (j := (((p.told.length : Int) - 1).toNat)) (by omega)
    clear hlq
    have hkx2 := htin x2 (at_mem hx2)
    refine q_val (v := .int .i64 x2) (wt0 rfl) rfl rfl (fun wx H => x_loadR1 (((p.told.length : Int) - 1).toNat) (H.rwReads (k := 1) rfl) (by omega) rfl rfl Tryd.underlying3 rfl (intE.flAt1 hx2 rfl)) ?_
    refine q_val (v := .int .i64 x2) (wt0 rfl) rfl rfl (fun wx H => x_assign rfl rfl) ?_
    refine q_nil (fun wq3 H4 => ?_)
    refine g_then ?_
    refine g_weak [(0, .pointer (some ⟨g, 0, none⟩)), (1, .pointer (some ⟨p.b, 0, none⟩)), (5, .int .i64 x2)] ⟨rfl, rfl, rfl, trivial⟩ ?_
    refine g_seq ?_
    refine g_region ?_
    refine l_of (s_val (v := .pointer (some ⟨g, 0, none⟩)) (wt0 rfl) rfl rfl (x_move rfl rfl) ?_)
    refine l_of (s_val (v := .pointer (some ⟨g, 0, none⟩)) (wt0 rfl) rfl rfl (x_nilCheck rfl rfl) ?_)
    refine l_of (s_val (v := .pointer (some ⟨g, 0, none⟩)) (wt0 rfl) rfl rfl (x_fieldAddr rfl rfl fo49_0 rfl) ?_)
    refine l_of (s_val (v := .pointer (some ⟨g, 1, none⟩)) (wt0 rfl) rfl rfl (x_fieldAddr rfl rfl fo46_1 rfl) ?_)
    refine l_of (s_val (v := .slice ep n ec) (wt0 rfl) rfl rfl (x_load1 H4 3 rfl rfl Tryd.underlying35 rfl rfl rfl) ?_)
    refine l_of (s_val (v := .int .i64 x2) (wt0 rfl) rfl rfl (x_move rfl rfl) ?_)
    refine l_of (s_val (v := .pointer ((ep).map fun q => q.add (((x2).toNat) * 1))) (wt0 rfl) rfl rfl (x_idxR ((x2).toNat) (H4.rwReads (k := 4) rfl) rfl rfl rfl Tryd.underlying35 sz3 (by omega)) ?_)
    have hlq := (H4.rwReads (k := 4) rfl).lenL intE
    obtain ⟨x5, hx5⟩ := ex_at (l := (cntL n (hcF (ps.map Pp.sh)))) (j := ((x2).toNat)) (by omega)
    clear hlq
    have hyx5 : x5 = (hcN (ps.map Pp.sh) x2 : Int) := by have h9 := (cntL_at hx5).2; unfold hcF at h9; rw [show (((x2).toNat : Nat) : Int) = x2 from by omega] at h9; exact h9
    have hzx5 := hcN_le (ps.map Pp.sh) x2
    rw [List.length_map] at hzx5
    refine l_of (s_val (v := .int .i64 x5) (wt0 rfl) rfl rfl (x_loadR1 ((x2).toNat) (H4.rwReads (k := 4) rfl) (by omega) rfl rfl Tryd.underlying3 rfl (intE.flAt1 hx5 rfl)) ?_)
    refine l_of (s_val (v := .int .i64 x5) (wt0 rfl) rfl rfl (x_assign rfl rfl) ?_)
    refine g_nil ?_
    refine g_then ?_
    refine g_seq ?_
    refine g_seq ?_
    refine g_region ?_
    refine l_of (s_val (v := .pointer (some ⟨p.b, 0, none⟩)) (wt0 rfl) rfl rfl (x_move rfl rfl) ?_)
    refine l_of (s_val (v := .pointer (some ⟨p.b, 0, none⟩)) (wt0 rfl) rfl rfl (x_nilCheck rfl rfl) ?_)
    refine l_of (s_val (v := .pointer (some ⟨p.b, 1, none⟩)) (wt0 rfl) rfl rfl (x_fieldAddr rfl rfl fo58_1 rfl) ?_)
    refine l_of (s_val (v := .map (some p.hm)) (wt0 rfl) rfl rfl (x_load1 H4 0 rfl rfl Tryd.underlying56 rfl rfl rfl) ?_)
    refine l_of (s_val (v := .int .i64 x2) (wt0 rfl) rfl rfl (x_move rfl rfl) ?_)
    refine l_of (s_val (v := .bool ((decide (x2 ∈ p.holds)))) (wt0 rfl) rfl rfl (ex_cast (x_lookup1 (x := x2) (intTy Tryd.underlying56 Tryd.underlying3) H4 2 rfl rfl rfl rfl (⟨by omega, by omega⟩) ze4) (by rw [look_B, hMap_get])) ?_)
    refine g_nil ?_
    refine g_then ?_
    refine g_weak [(0, .pointer (some ⟨g, 0, none⟩)), (1, .pointer (some ⟨p.b, 0, none⟩)), (5, .int .i64 x2), (6, .int .i64 x5), (38, .bool ((decide (x2 ∈ p.holds))))] ⟨rfl, rfl, rfl, rfl, rfl, trivial⟩ ?_
    rcases Bool.eq_false_or_eq_true ((decide (x2 ∈ p.holds))) with hb6 | hb6
    · skip
      refine g_cond_t rfl hb6 ?_
      refine g_region ?_
      refine l_of (s_val (v := .int .i64 x5) (wt0 rfl) rfl rfl (x_move rfl rfl) ?_)
      refine l_of (s_val (v := .int .i64 (x5 - 1)) (wt0 rfl) rfl rfl (x_bin rfl rfl rfl (b_sub (w64 (by omega)))) ?_)
      refine l_of (s_val (v := .int .i64 (x5 - 1)) (wt0 rfl) rfl rfl (x_assign rfl rfl) ?_)
      refine g_nil ?_
      refine g_then ?_
      refine g_seq ?_
      refine g_region ?_
      refine l_of (s_val (v := .int .i64 (x5 - 1)) (wt0 rfl) rfl rfl (x_move rfl rfl) ?_)
      refine l_of (s_val (v := .bool (decide ((x5 - 1 : Int) = 0))) (wt0 rfl) rfl rfl (x_bin rfl rfl rfl b_eql) ?_)
      refine l_of (s_val (v := .bool (decide ((x5 - 1 : Int) = 0))) (wt0 rfl) rfl rfl (x_move rfl rfl) ?_)
      by_cases hb7 : (x5 - 1 : Int) = 0
      · skip
        refine l_of (s_val (v := .pointer (some ⟨g, 0, none⟩)) (wt1 rfl rfl rfl rfl (decide_eq_true hb7)) rfl rfl (x_move rfl rfl) ?_)
        refine l_of (s_val (v := .pointer (some ⟨g, 0, none⟩)) (wt1 rfl rfl rfl rfl (decide_eq_true hb7)) rfl rfl (x_nilCheck rfl rfl) ?_)
        refine l_of (s_val (v := .pointer (some ⟨g, 3, none⟩)) (wt1 rfl rfl rfl rfl (decide_eq_true hb7)) rfl rfl (x_fieldAddr rfl rfl fo49_2 rfl) ?_)
        refine l_of (s_val (v := .map (some mg)) (wt1 rfl rfl rfl rfl (decide_eq_true hb7)) rfl rfl (x_load1 H4 3 rfl rfl Tryd.underlying47 rfl rfl rfl) ?_)
        refine l_of (s_lenMap H4 5 (wt1 rfl rfl rfl rfl (decide_eq_true hb7)) rfl rfl rfl rfl rfl Tryd.underlying47 ?_)
        intro nk8 hnk8
        refine l_of (s_val (v := .bool (decide ((1 : Int) < (nk8 : Int)))) (wt1 rfl rfl rfl rfl (decide_eq_true hb7)) rfl rfl (x_bin rfl rfl rfl b_gtr) ?_)
        refine l_of (s_val (v := .bool (decide ((1 : Int) < (nk8 : Int)))) (wt1 rfl rfl rfl rfl (decide_eq_true hb7)) rfl rfl (x_move rfl rfl) ?_)
        by_cases hb9 : (1 : Int) < (nk8 : Int)
        · skip
          refine l_of (s_not (wn1 rfl rfl rfl rfl (decide_eq_true hb9)) rfl rfl ?_)
          refine l_of (s_not (wn1 rfl rfl rfl rfl (decide_eq_true hb9)) rfl rfl ?_)
          refine l_of (s_not (wn1 rfl rfl rfl rfl (decide_eq_true hb9)) rfl rfl ?_)
          refine l_of (s_not (wn1 rfl rfl rfl rfl (decide_eq_true hb9)) rfl rfl ?_)
          refine l_of (s_not (wn1 rfl rfl rfl rfl (decide_eq_true hb9)) rfl rfl ?_)
          refine l_of (s_not (wn1 rfl rfl rfl rfl (decide_eq_true hb9)) rfl rfl ?_)
          refine l_of (s_not (wn1 rfl rfl rfl rfl (decide_eq_true hb9)) rfl rfl ?_)
          refine l_of (s_val (v := .bool true) (wt1 rfl rfl rfl rfl (decide_eq_true hb7)) rfl rfl (x_pick_t rfl rfl (decide_eq_true hb9) rfl) ?_)
          refine l_of (s_val (v := .bool true) (wt0 rfl) rfl rfl (x_pick_t rfl rfl (decide_eq_true hb7) rfl) ?_)
          refine l_of (s_val (v := .bool true) (wt0 rfl) rfl rfl (x_assign rfl rfl) ?_)
          refine g_nil ?_
          refine g_then ?_
          refine g_weak [(4, .bool true)] ⟨rfl, trivial⟩ ?_
          refine g_ret ?_
          refine fin_ret [.tmp 4] [.bool true] rfl ⟨rfl, trivial⟩ ?_
          have hkl := kn_len hnd hoi hnk8
          have hlt : p.sh.told.getLast? = some x2 := by rw [List.getLast?_eq_getElem?]; have h9 := hx2; rw [show ((p.told.length : Int) - 1).toNat = p.told.length - 1 from by omega] at h9; exact h9
          have hmm : x2 ∈ p.sh.holds := of_decide_eq_true hb6
          have hw : waitB (⟨seed, n, ps.map Pp.sh⟩ : SP) p.sh = true := by
            unfold waitB
            rw [hlt]
            show decide (othN (ps.map Pp.sh) p.sh x2 = 0 ∧ (1 < (ps.map Pp.sh).length ∨ x2 ∉ p.sh.holds)) = true
            unfold othN
            rw [if_pos hmm, List.length_map]
            exact decide_eq_true ⟨by omega, by first | exact .inr hmm | exact .inl (by omega)⟩
          exact ⟨by rw [hw]; rfl, H4.takes [0, 1, 2, 3, 4, 5, 6] (by decide)⟩
        · skip
          refine l_of (s_val (v := .pointer (some ⟨p.b, 0, none⟩)) (wt1 rfl rfl rfl rfl (decide_eq_false hb9)) rfl rfl (x_move rfl rfl) ?_)
          refine l_of (s_val (v := .pointer (some ⟨p.b, 0, none⟩)) (wt1 rfl rfl rfl rfl (decide_eq_false hb9)) rfl rfl (x_nilCheck rfl rfl) ?_)
          refine l_of (s_val (v := .pointer (some ⟨p.b, 1, none⟩)) (wt1 rfl rfl rfl rfl (decide_eq_false hb9)) rfl rfl (x_fieldAddr rfl rfl fo58_1 rfl) ?_)
          refine l_of (s_val (v := .map (some p.hm)) (wt1 rfl rfl rfl rfl (decide_eq_false hb9)) rfl rfl (x_load1 H4 0 rfl rfl Tryd.underlying56 rfl rfl rfl) ?_)
          refine l_of (s_val (v := .int .i64 x2) (wt1 rfl rfl rfl rfl (decide_eq_false hb9)) rfl rfl (x_move rfl rfl) ?_)
          refine l_of (s_val (v := .bool ((decide (x2 ∈ p.holds)))) (wt1 rfl rfl rfl rfl (decide_eq_false hb9)) rfl rfl (ex_cast (x_lookup1 (x := x2) (intTy Tryd.underlying56 Tryd.underlying3) H4 2 rfl rfl rfl rfl (⟨by omega, by omega⟩) ze4) (by rw [look_B, hMap_get])) ?_)
          refine l_of (s_val (v := .bool (!((decide (x2 ∈ p.holds))))) (wt1 rfl rfl rfl rfl (decide_eq_false hb9)) rfl rfl (x_not (b := (decide (x2 ∈ p.holds))) rfl rfl) ?_)
          refine l_of (s_val (v := .bool (!((decide (x2 ∈ p.holds))))) (wt1 rfl rfl rfl rfl (decide_eq_true hb7)) rfl rfl (x_pick_f rfl rfl (decide_eq_false hb9) rfl) ?_)
          refine l_of (s_val (v := .bool (!((decide (x2 ∈ p.holds))))) (wt0 rfl) rfl rfl (x_pick_t rfl rfl (decide_eq_true hb7) rfl) ?_)
          refine l_of (s_val (v := .bool (!((decide (x2 ∈ p.holds))))) (wt0 rfl) rfl rfl (x_assign rfl rfl) ?_)
          refine g_nil ?_
          refine g_then ?_
          refine g_weak [(4, .bool (!((decide (x2 ∈ p.holds)))))] ⟨rfl, trivial⟩ ?_
          refine g_ret ?_
          refine fin_ret [.tmp 4] [.bool (!((decide (x2 ∈ p.holds))))] rfl ⟨rfl, trivial⟩ ?_
          have hV : (!((decide (x2 ∈ p.holds)))) = false := by rw [hb6]; rfl
          rw [hV]
          have hkl := kn_len hnd hoi hnk8
          have hlt : p.sh.told.getLast? = some x2 := by rw [List.getLast?_eq_getElem?]; have h9 := hx2; rw [show ((p.told.length : Int) - 1).toNat = p.told.length - 1 from by omega] at h9; exact h9
          have hmm : x2 ∈ p.sh.holds := of_decide_eq_true hb6
          have hw : waitB (⟨seed, n, ps.map Pp.sh⟩ : SP) p.sh = false := by
            unfold waitB
            rw [hlt]
            show decide (othN (ps.map Pp.sh) p.sh x2 = 0 ∧ (1 < (ps.map Pp.sh).length ∨ x2 ∉ p.sh.holds)) = false
            unfold othN
            rw [if_pos hmm, List.length_map]
            rw [decide_eq_false_iff_not]; rintro ⟨h1, h2⟩; first | omega | (rcases h2 with h2 | h2 <;> first | omega | exact h2 hmm)
          exact ⟨by rw [hw]; rfl, H4.takes [0, 1, 2, 3, 4, 5, 6] (by decide)⟩
      · skip
        refine l_of (s_not (wn1 rfl rfl rfl rfl (decide_eq_false hb7)) rfl rfl ?_)
        refine l_of (s_not (wn1 rfl rfl rfl rfl (decide_eq_false hb7)) rfl rfl ?_)
        refine l_of (s_not (wn1 rfl rfl rfl rfl (decide_eq_false hb7)) rfl rfl ?_)
        refine l_of (s_not (wn1 rfl rfl rfl rfl (decide_eq_false hb7)) rfl rfl ?_)
        refine l_of (s_not (wn1 rfl rfl rfl rfl (decide_eq_false hb7)) rfl rfl ?_)
        refine l_of (s_not (wn1 rfl rfl rfl rfl (decide_eq_false hb7)) rfl rfl ?_)
        refine l_of (s_not (wn1 rfl rfl rfl rfl (decide_eq_false hb7)) rfl rfl ?_)
        refine l_of (s_not (wn2 rfl rfl rfl rfl) rfl rfl ?_)
        refine l_of (s_not (wn2 rfl rfl rfl rfl) rfl rfl ?_)
        refine l_of (s_not (wn2 rfl rfl rfl rfl) rfl rfl ?_)
        refine l_of (s_not (wn2 rfl rfl rfl rfl) rfl rfl ?_)
        refine l_of (s_not (wn2 rfl rfl rfl rfl) rfl rfl ?_)
        refine l_of (s_not (wn2 rfl rfl rfl rfl) rfl rfl ?_)
        refine l_of (s_not (wn2 rfl rfl rfl rfl) rfl rfl ?_)
        refine l_of (s_not (wn1 rfl rfl rfl rfl (decide_eq_false hb7)) rfl rfl ?_)
        refine l_of (s_val (v := .bool false) (wt0 rfl) rfl rfl (x_pick_f rfl rfl (decide_eq_false hb7) rfl) ?_)
        refine l_of (s_val (v := .bool false) (wt0 rfl) rfl rfl (x_assign rfl rfl) ?_)
        refine g_nil ?_
        refine g_then ?_
        refine g_weak [(4, .bool false)] ⟨rfl, trivial⟩ ?_
        refine g_ret ?_
        refine fin_ret [.tmp 4] [.bool false] rfl ⟨rfl, trivial⟩ ?_
        have hlt : p.sh.told.getLast? = some x2 := by rw [List.getLast?_eq_getElem?]; have h9 := hx2; rw [show ((p.told.length : Int) - 1).toNat = p.told.length - 1 from by omega] at h9; exact h9
        have hmm : x2 ∈ p.sh.holds := of_decide_eq_true hb6
        have hw : waitB (⟨seed, n, ps.map Pp.sh⟩ : SP) p.sh = false := by
          unfold waitB
          rw [hlt]
          show decide (othN (ps.map Pp.sh) p.sh x2 = 0 ∧ (1 < (ps.map Pp.sh).length ∨ x2 ∉ p.sh.holds)) = false
          unfold othN
          rw [if_pos hmm, List.length_map]
          rw [decide_eq_false_iff_not]; rintro ⟨h1, h2⟩; first | omega | (rcases h2 with h2 | h2 <;> first | omega | exact h2 hmm)
        exact ⟨by rw [hw]; rfl, H4.takes [0, 1, 2, 3, 4, 5, 6] (by decide)⟩
    · skip
      refine g_cond_f rfl hb6 ?_
      refine g_skip ?_
      refine g_then ?_
      refine g_seq ?_
      refine g_region ?_
      refine l_of (s_val (v := .int .i64 x5) (wt0 rfl) rfl rfl (x_move rfl rfl) ?_)
      refine l_of (s_val (v := .bool (decide ((x5 : Int) = 0))) (wt0 rfl) rfl rfl (x_bin rfl rfl rfl b_eql) ?_)
      refine l_of (s_val (v := .bool (decide ((x5 : Int) = 0))) (wt0 rfl) rfl rfl (x_move rfl rfl) ?_)
      by_cases hb10 : (x5 : Int) = 0
      · skip
        refine l_of (s_val (v := .pointer (some ⟨g, 0, none⟩)) (wt1 rfl rfl rfl rfl (decide_eq_true hb10)) rfl rfl (x_move rfl rfl) ?_)
        refine l_of (s_val (v := .pointer (some ⟨g, 0, none⟩)) (wt1 rfl rfl rfl rfl (decide_eq_true hb10)) rfl rfl (x_nilCheck rfl rfl) ?_)
        refine l_of (s_val (v := .pointer (some ⟨g, 3, none⟩)) (wt1 rfl rfl rfl rfl (decide_eq_true hb10)) rfl rfl (x_fieldAddr rfl rfl fo49_2 rfl) ?_)
        refine l_of (s_val (v := .map (some mg)) (wt1 rfl rfl rfl rfl (decide_eq_true hb10)) rfl rfl (x_load1 H4 3 rfl rfl Tryd.underlying47 rfl rfl rfl) ?_)
        refine l_of (s_lenMap H4 5 (wt1 rfl rfl rfl rfl (decide_eq_true hb10)) rfl rfl rfl rfl rfl Tryd.underlying47 ?_)
        intro nk11 hnk11
        refine l_of (s_val (v := .bool (decide ((1 : Int) < (nk11 : Int)))) (wt1 rfl rfl rfl rfl (decide_eq_true hb10)) rfl rfl (x_bin rfl rfl rfl b_gtr) ?_)
        refine l_of (s_val (v := .bool (decide ((1 : Int) < (nk11 : Int)))) (wt1 rfl rfl rfl rfl (decide_eq_true hb10)) rfl rfl (x_move rfl rfl) ?_)
        by_cases hb12 : (1 : Int) < (nk11 : Int)
        · skip
          refine l_of (s_not (wn1 rfl rfl rfl rfl (decide_eq_true hb12)) rfl rfl ?_)
          refine l_of (s_not (wn1 rfl rfl rfl rfl (decide_eq_true hb12)) rfl rfl ?_)
          refine l_of (s_not (wn1 rfl rfl rfl rfl (decide_eq_true hb12)) rfl rfl ?_)
          refine l_of (s_not (wn1 rfl rfl rfl rfl (decide_eq_true hb12)) rfl rfl ?_)
          refine l_of (s_not (wn1 rfl rfl rfl rfl (decide_eq_true hb12)) rfl rfl ?_)
          refine l_of (s_not (wn1 rfl rfl rfl rfl (decide_eq_true hb12)) rfl rfl ?_)
          refine l_of (s_not (wn1 rfl rfl rfl rfl (decide_eq_true hb12)) rfl rfl ?_)
          refine l_of (s_val (v := .bool true) (wt1 rfl rfl rfl rfl (decide_eq_true hb10)) rfl rfl (x_pick_t rfl rfl (decide_eq_true hb12) rfl) ?_)
          refine l_of (s_val (v := .bool true) (wt0 rfl) rfl rfl (x_pick_t rfl rfl (decide_eq_true hb10) rfl) ?_)
          refine l_of (s_val (v := .bool true) (wt0 rfl) rfl rfl (x_assign rfl rfl) ?_)
          refine g_nil ?_
          refine g_then ?_
          refine g_weak [(4, .bool true)] ⟨rfl, trivial⟩ ?_
          refine g_ret ?_
          refine fin_ret [.tmp 4] [.bool true] rfl ⟨rfl, trivial⟩ ?_
          have hkl := kn_len hnd hoi hnk11
          have hlt : p.sh.told.getLast? = some x2 := by rw [List.getLast?_eq_getElem?]; have h9 := hx2; rw [show ((p.told.length : Int) - 1).toNat = p.told.length - 1 from by omega] at h9; exact h9
          have hmm : x2 ∉ p.sh.holds := of_decide_eq_false hb6
          have hw : waitB (⟨seed, n, ps.map Pp.sh⟩ : SP) p.sh = true := by
            unfold waitB
            rw [hlt]
            show decide (othN (ps.map Pp.sh) p.sh x2 = 0 ∧ (1 < (ps.map Pp.sh).length ∨ x2 ∉ p.sh.holds)) = true
            unfold othN
            rw [if_neg hmm, List.length_map]
            exact decide_eq_true ⟨by omega, by first | exact .inr hmm | exact .inl (by omega)⟩
          exact ⟨by rw [hw]; rfl, H4.takes [0, 1, 2, 3, 4, 5, 6] (by decide)⟩
        · skip
          refine l_of (s_val (v := .pointer (some ⟨p.b, 0, none⟩)) (wt1 rfl rfl rfl rfl (decide_eq_false hb12)) rfl rfl (x_move rfl rfl) ?_)
          refine l_of (s_val (v := .pointer (some ⟨p.b, 0, none⟩)) (wt1 rfl rfl rfl rfl (decide_eq_false hb12)) rfl rfl (x_nilCheck rfl rfl) ?_)
          refine l_of (s_val (v := .pointer (some ⟨p.b, 1, none⟩)) (wt1 rfl rfl rfl rfl (decide_eq_false hb12)) rfl rfl (x_fieldAddr rfl rfl fo58_1 rfl) ?_)
          refine l_of (s_val (v := .map (some p.hm)) (wt1 rfl rfl rfl rfl (decide_eq_false hb12)) rfl rfl (x_load1 H4 0 rfl rfl Tryd.underlying56 rfl rfl rfl) ?_)
          refine l_of (s_val (v := .int .i64 x2) (wt1 rfl rfl rfl rfl (decide_eq_false hb12)) rfl rfl (x_move rfl rfl) ?_)
          refine l_of (s_val (v := .bool ((decide (x2 ∈ p.holds)))) (wt1 rfl rfl rfl rfl (decide_eq_false hb12)) rfl rfl (ex_cast (x_lookup1 (x := x2) (intTy Tryd.underlying56 Tryd.underlying3) H4 2 rfl rfl rfl rfl (⟨by omega, by omega⟩) ze4) (by rw [look_B, hMap_get])) ?_)
          refine l_of (s_val (v := .bool (!((decide (x2 ∈ p.holds))))) (wt1 rfl rfl rfl rfl (decide_eq_false hb12)) rfl rfl (x_not (b := (decide (x2 ∈ p.holds))) rfl rfl) ?_)
          refine l_of (s_val (v := .bool (!((decide (x2 ∈ p.holds))))) (wt1 rfl rfl rfl rfl (decide_eq_true hb10)) rfl rfl (x_pick_f rfl rfl (decide_eq_false hb12) rfl) ?_)
          refine l_of (s_val (v := .bool (!((decide (x2 ∈ p.holds))))) (wt0 rfl) rfl rfl (x_pick_t rfl rfl (decide_eq_true hb10) rfl) ?_)
          refine l_of (s_val (v := .bool (!((decide (x2 ∈ p.holds))))) (wt0 rfl) rfl rfl (x_assign rfl rfl) ?_)
          refine g_nil ?_
          refine g_then ?_
          refine g_weak [(4, .bool (!((decide (x2 ∈ p.holds)))))] ⟨rfl, trivial⟩ ?_
          refine g_ret ?_
          refine fin_ret [.tmp 4] [.bool (!((decide (x2 ∈ p.holds))))] rfl ⟨rfl, trivial⟩ ?_
          have hV : (!((decide (x2 ∈ p.holds)))) = true := by rw [hb6]; rfl
          rw [hV]
          have hkl := kn_len hnd hoi hnk11
          have hlt : p.sh.told.getLast? = some x2 := by rw [List.getLast?_eq_getElem?]; have h9 := hx2; rw [show ((p.told.length : Int) - 1).toNat = p.told.length - 1 from by omega] at h9; exact h9
          have hmm : x2 ∉ p.sh.holds := of_decide_eq_false hb6
          have hw : waitB (⟨seed, n, ps.map Pp.sh⟩ : SP) p.sh = true := by
            unfold waitB
            rw [hlt]
            show decide (othN (ps.map Pp.sh) p.sh x2 = 0 ∧ (1 < (ps.map Pp.sh).length ∨ x2 ∉ p.sh.holds)) = true
            unfold othN
            rw [if_neg hmm, List.length_map]
            exact decide_eq_true ⟨by omega, by first | exact .inr hmm | exact .inl (by omega)⟩
          exact ⟨by rw [hw]; rfl, H4.takes [0, 1, 2, 3, 4, 5, 6] (by decide)⟩
      · skip
        refine l_of (s_not (wn1 rfl rfl rfl rfl (decide_eq_false hb10)) rfl rfl ?_)
        refine l_of (s_not (wn1 rfl rfl rfl rfl (decide_eq_false hb10)) rfl rfl ?_)
        refine l_of (s_not (wn1 rfl rfl rfl rfl (decide_eq_false hb10)) rfl rfl ?_)
        refine l_of (s_not (wn1 rfl rfl rfl rfl (decide_eq_false hb10)) rfl rfl ?_)
        refine l_of (s_not (wn1 rfl rfl rfl rfl (decide_eq_false hb10)) rfl rfl ?_)
        refine l_of (s_not (wn1 rfl rfl rfl rfl (decide_eq_false hb10)) rfl rfl ?_)
        refine l_of (s_not (wn1 rfl rfl rfl rfl (decide_eq_false hb10)) rfl rfl ?_)
        refine l_of (s_not (wn2 rfl rfl rfl rfl) rfl rfl ?_)
        refine l_of (s_not (wn2 rfl rfl rfl rfl) rfl rfl ?_)
        refine l_of (s_not (wn2 rfl rfl rfl rfl) rfl rfl ?_)
        refine l_of (s_not (wn2 rfl rfl rfl rfl) rfl rfl ?_)
        refine l_of (s_not (wn2 rfl rfl rfl rfl) rfl rfl ?_)
        refine l_of (s_not (wn2 rfl rfl rfl rfl) rfl rfl ?_)
        refine l_of (s_not (wn2 rfl rfl rfl rfl) rfl rfl ?_)
        refine l_of (s_not (wn1 rfl rfl rfl rfl (decide_eq_false hb10)) rfl rfl ?_)
        refine l_of (s_val (v := .bool false) (wt0 rfl) rfl rfl (x_pick_f rfl rfl (decide_eq_false hb10) rfl) ?_)
        refine l_of (s_val (v := .bool false) (wt0 rfl) rfl rfl (x_assign rfl rfl) ?_)
        refine g_nil ?_
        refine g_then ?_
        refine g_weak [(4, .bool false)] ⟨rfl, trivial⟩ ?_
        refine g_ret ?_
        refine fin_ret [.tmp 4] [.bool false] rfl ⟨rfl, trivial⟩ ?_
        have hlt : p.sh.told.getLast? = some x2 := by rw [List.getLast?_eq_getElem?]; have h9 := hx2; rw [show ((p.told.length : Int) - 1).toNat = p.told.length - 1 from by omega] at h9; exact h9
        have hmm : x2 ∉ p.sh.holds := of_decide_eq_false hb6
        have hw : waitB (⟨seed, n, ps.map Pp.sh⟩ : SP) p.sh = false := by
          unfold waitB
          rw [hlt]
          show decide (othN (ps.map Pp.sh) p.sh x2 = 0 ∧ (1 < (ps.map Pp.sh).length ∨ x2 ∉ p.sh.holds)) = false
          unfold othN
          rw [if_neg hmm, List.length_map]
          rw [decide_eq_false_iff_not]; rintro ⟨h1, h2⟩; first | omega | (rcases h2 with h2 | h2 <;> first | omega | exact h2 hmm)
        exact ⟨by rw [hw]; rfl, H4.takes [0, 1, 2, 3, 4, 5, 6] (by decide)⟩
set_option maxRecDepth 20000 in
set_option maxHeartbeats 4000000 in
set_option maxRecDepth 20000 in
set_option maxHeartbeats 4000000 in
theorem next1_s (b2 g mg : Nat) (dp : Option Addr) (dc : Nat) (ep : Option Addr) (ec : Nat) (seed : ByteArray) (n : Nat) (hsd : seed.size ≤ 100) (w0 : World) (ht : PowTab w0) (x : Int) (hx : 0 ≤ x ∧ x ≤ 1000)  (w : World) (HS : S w [Ob b2 (.cells #[.pointer (some ⟨g, 0, none⟩)] 24 (0, 0)), Ob g (.cells #[.slice dp n dc, .slice ep n ec, .string seed, .map (some mg)] 49 (0, 0)), Old w0 no]) : Calls Tryd.prog 30 #[.int .i64 x, .pointer (some ⟨b2, 0, none⟩)] w fun e w' => e = .returned (.string (rankS seed x)) ∧ S w' ([Ob b2 (.cells #[.pointer (some ⟨g, 0, none⟩)] 24 (0, 0)), Ob g (.cells #[.slice dp n dc, .slice ep n ec, .string seed, .map (some mg)] 49 (0, 0)), Old w0 no] ++ [Old w (fps [Ob b2 (.cells #[.pointer (some ⟨g, 0, none⟩)] 24 (0, 0)), Ob g (.cells #[.slice dp n dc, .slice ep n ec, .string seed, .map (some mg)] 49 (0, 0)), Old w0 no])]) := by
  have H00 := HS.beginI
  have H0 : S w ([Ob b2 (.cells #[.pointer (some ⟨g, 0, none⟩)] 24 (0, 0)), Ob g (.cells #[.slice dp n dc, .slice ep n ec, .string seed, .map (some mg)] 49 (0, 0)), Old w0 no, Old w (fps [Ob b2 (.cells #[.pointer (some ⟨g, 0, none⟩)] 24 (0, 0)), Ob g (.cells #[.slice dp n dc, .slice ep n ec, .string seed, .map (some mg)] 49 (0, 0)), Old w0 no])]) := H00
  have hz1 : (⟨#[58]⟩ : ByteArray).size = 1 := rfl
  refine enter 13 Tryd.func30 rfl rfl rfl ?_
  refine g_weak [(0, .int .i64 x), (1, .pointer (some ⟨b2, 0, none⟩))] ⟨rfl, rfl, trivial⟩ ?_
  refine g_seq ?_
  refine g_region ?_
  refine l_of (s_val (v := .string (⟨#[]⟩)) (wt0 rfl) rfl rfl (x_assign rfl rfl) ?_)
  refine g_nil ?_
  refine g_then ?_
  refine g_seq ?_
  refine g_anyY [] (fun wx => S wx [Ob b2 (.cells #[.pointer (some ⟨g, 0, none⟩)] 24 (0, 0)), Ob g (.cells #[.slice dp n dc, .slice ep n ec, .string seed, .map (some mg)] 49 (0, 0))]) (fun wx => S wx [Ob b2 (.cells #[.pointer (some ⟨g, 0, none⟩)] 24 (0, 0)), Ob g (.cells #[.slice dp n dc, .slice ep n ec, .string seed, .map (some mg)] 49 (0, 0))]) [] (by kernel_rfl) H0 (fun wq1 H2 => ?_)
  refine y_take (v := .pointer (some ⟨g, 0, none⟩)) 0 rfl (wt0 rfl) rfl rfl rfl (by kernel_rfl) (by kernel_rfl) (by kernel_rfl) (by kernel_rfl) (by kernel_rfl) (H2.mask [true, true, false, false]) (fun wx H => x_load1 H 0 rfl rfl Tryd.underlying24 rfl rfl rfl) ?_
  refine y_pure (v := .pointer (some ⟨g, 0, none⟩)) 1 rfl (wt0 rfl) rfl rfl rfl (by kernel_rfl) (by kernel_rfl) (by kernel_rfl) (by kernel_rfl) (fun wx => x_nilCheck rfl rfl) ?_
  refine y_pure (v := .pointer (some ⟨g, 2, none⟩)) 2 rfl (wt0 rfl) rfl rfl rfl (by kernel_rfl) (by kernel_rfl) (by kernel_rfl) (by kernel_rfl) (fun wx => x_fieldAddr rfl rfl fo49_1 rfl) ?_
  refine y_take (v := .string seed) 3 rfl (wt0 rfl) rfl rfl rfl (by kernel_rfl) (by kernel_rfl) (by kernel_rfl) (by kernel_rfl) (by kernel_rfl) (H2.mask [true, true, false, false]) (fun wx H => x_load1 H 1 rfl rfl Tryd.underlying9 rfl rfl rfl) ?_
  have hsz3 : (seed ++ (⟨#[58]⟩ : ByteArray)).size = seed.size + (⟨#[58]⟩ : ByteArray).size := ByteArray.size_append
  refine y_pure (v := .string (seed ++ (⟨#[58]⟩ : ByteArray))) 4 rfl (wt0 rfl) rfl rfl rfl (by kernel_rfl) (by kernel_rfl) (by kernel_rfl) (by kernel_rfl) (fun wx => x_bin rfl rfl rfl (b_cat (by omega))) ?_
  refine y_pure (v := .int .i64 x) 5 rfl (wt0 rfl) rfl rfl rfl (by kernel_rfl) (by kernel_rfl) (by kernel_rfl) (by kernel_rfl) (fun wx => x_move rfl rfl) ?_
  refine y_one (i := 6) (by kernel_rfl) rfl ?_
  refine s_call (wt0 rfl) (x_call' rfl rfl cl32) (itoa_s x (by omega) (by omega) _ (H2.tab (k := 2) rfl ht)) ?_
  rintro _ wq5 ⟨rfl, H6⟩
  replace H6 : S wq5 [Ob b2 (.cells #[.pointer (some ⟨g, 0, none⟩)] 24 (0, 0)), Ob g (.cells #[.slice dp n dc, .slice ep n ec, .string seed, .map (some mg)] 49 (0, 0)), Old w0 no, Old w (fps [Ob b2 (.cells #[.pointer (some ⟨g, 0, none⟩)] 24 (0, 0)), Ob g (.cells #[.slice dp n dc, .slice ep n ec, .string seed, .map (some mg)] 49 (0, 0)), Old w0 no])] := H2.absorb (new := []) H6
  have hit4 := itS_size (n := x) (by omega) (by omega)
  refine b_ret rfl rfl ?_
  refine y_k (H6.mask [true, true, false, false]) (H6.mask [true, true, false, false]) ?_
  have hsz7 : ((seed ++ (⟨#[58]⟩ : ByteArray)) ++ (itS x)).size = (seed ++ (⟨#[58]⟩ : ByteArray)).size + (itS x).size := ByteArray.size_append
  refine y_pure (v := .string ((seed ++ (⟨#[58]⟩ : ByteArray)) ++ (itS x))) 7 rfl (wt0 rfl) rfl rfl rfl (by kernel_rfl) (by kernel_rfl) (by kernel_rfl) (by kernel_rfl) (fun wx => x_bin rfl rfl rfl (b_cat (by omega))) ?_
  refine y_one (i := 8) (by kernel_rfl) rfl ?_
  refine s_call (wt0 rfl) (x_call' rfl rfl cl31) (old_h ((seed ++ (⟨#[58]⟩ : ByteArray)) ++ (itS x)) (by omega) _) ?_
  rintro _ wq8 ⟨rfl, H9⟩
  replace H9 : S wq8 [Ob b2 (.cells #[.pointer (some ⟨g, 0, none⟩)] 24 (0, 0)), Ob g (.cells #[.slice dp n dc, .slice ep n ec, .string seed, .map (some mg)] 49 (0, 0)), Old w0 no, Old w (fps [Ob b2 (.cells #[.pointer (some ⟨g, 0, none⟩)] 24 (0, 0)), Ob g (.cells #[.slice dp n dc, .slice ep n ec, .string seed, .map (some mg)] 49 (0, 0)), Old w0 no])] := H6.absorb (new := []) H9
  refine b_ret rfl rfl ?_
  refine y_k (H9.mask [true, true, false, false]) (H9.mask [true, true, false, false]) ?_
  refine y_pure (v := .string ((oldS ((seed ++ (⟨#[58]⟩ : ByteArray)) ++ (itS x))))) 9 rfl (wt0 rfl) rfl rfl rfl (by kernel_rfl) (by kernel_rfl) (by kernel_rfl) (by kernel_rfl) (fun wx => x_assign rfl rfl) ?_
  refine y_done (by kernel_rfl) ?_
  refine g_then ?_
  refine g_ret ?_
  refine fin_ret [.tmp 3] [.string ((oldS ((seed ++ (⟨#[58]⟩ : ByteArray)) ++ (itS x))))] rfl ⟨rfl, trivial⟩ ?_
  exact ⟨rfl, H9.takes [0, 1, 2, 3] (by decide)⟩
set_option maxRecDepth 20000 in
set_option maxHeartbeats 4000000 in
set_option maxRecDepth 20000 in
set_option maxHeartbeats 4000000 in
theorem next2_s (b2 b8 g mg : Nat) (dp : Option Addr) (dc : Nat) (ep : Option Addr) (ec : Nat) (seed : ByteArray) (n : Nat) (ps : List Pp) (hsd : seed.size ≤ 100) (hn30 : n ≤ 30) (hps : ps.length ≤ 1000) (w0 : World) (ht : PowTab w0) (a b : Int) (ha : 0 ≤ a ∧ a < (n : Int)) (hb : 0 ≤ b ∧ b < (n : Int))  (w : World) (HS : S w [Ob b2 (.cells #[.pointer (some ⟨g, 0, none⟩)] 24 (0, 0)), Ob b8 (.cells #[.func (.func 30) #[] #[.pointer (some ⟨b2, 0, none⟩)]] 66 (0, 0)), Ob g (.cells #[.slice dp n dc, .slice ep n ec, .string seed, .map (some mg)] 49 (0, 0)), Rw 3 1 dp n dc (fl intL (cntL n (tcF (ps.map Pp.sh)))), Rw 3 1 ep n ec (fl intL (cntL n (hcF (ps.map Pp.sh)))), Old w0 no]) : Calls Tryd.prog 35 #[.int .i64 a, .int .i64 b, .pointer (some ⟨b2, 0, none⟩), .pointer (some ⟨b8, 0, none⟩)] w fun e w' => e = .returned (.int .i64 (cN seed (ps.map Pp.sh) a b)) ∧ S w' ([Ob b2 (.cells #[.pointer (some ⟨g, 0, none⟩)] 24 (0, 0)), Ob b8 (.cells #[.func (.func 30) #[] #[.pointer (some ⟨b2, 0, none⟩)]] 66 (0, 0)), Ob g (.cells #[.slice dp n dc, .slice ep n ec, .string seed, .map (some mg)] 49 (0, 0)), Rw 3 1 dp n dc (fl intL (cntL n (tcF (ps.map Pp.sh)))), Rw 3 1 ep n ec (fl intL (cntL n (hcF (ps.map Pp.sh)))), Old w0 no] ++ [Old w (fps [Ob b2 (.cells #[.pointer (some ⟨g, 0, none⟩)] 24 (0, 0)), Ob b8 (.cells #[.func (.func 30) #[] #[.pointer (some ⟨b2, 0, none⟩)]] 66 (0, 0)), Ob g (.cells #[.slice dp n dc, .slice ep n ec, .string seed, .map (some mg)] 49 (0, 0)), Rw 3 1 dp n dc (fl intL (cntL n (tcF (ps.map Pp.sh)))), Rw 3 1 ep n ec (fl intL (cntL n (hcF (ps.map Pp.sh)))), Old w0 no])]) := by
  have H00 := HS.beginI
  have H0 : S w ([Ob b2 (.cells #[.pointer (some ⟨g, 0, none⟩)] 24 (0, 0)), Ob b8 (.cells #[.func (.func 30) #[] #[.pointer (some ⟨b2, 0, none⟩)]] 66 (0, 0)), Ob g (.cells #[.slice dp n dc, .slice ep n ec, .string seed, .map (some mg)] 49 (0, 0)), Rw 3 1 dp n dc (fl intL (cntL n (tcF (ps.map Pp.sh)))), Rw 3 1 ep n ec (fl intL (cntL n (hcF (ps.map Pp.sh)))), Old w0 no, Old w (fps [Ob b2 (.cells #[.pointer (some ⟨g, 0, none⟩)] 24 (0, 0)), Ob b8 (.cells #[.func (.func 30) #[] #[.pointer (some ⟨b2, 0, none⟩)]] 66 (0, 0)), Ob g (.cells #[.slice dp n dc, .slice ep n ec, .string seed, .map (some mg)] 49 (0, 0)), Rw 3 1 dp n dc (fl intL (cntL n (tcF (ps.map Pp.sh)))), Rw 3 1 ep n ec (fl intL (cntL n (hcF (ps.map Pp.sh)))), Old w0 no])]) := H00
  refine enter 56 Tryd.func35 rfl rfl rfl ?_
  refine g_weak [(0, .int .i64 a), (1, .int .i64 b), (2, .pointer (some ⟨b2, 0, none⟩)), (3, .pointer (some ⟨b8, 0, none⟩))] ⟨rfl, rfl, rfl, rfl, trivial⟩ ?_
  refine g_seq ?_
  refine g_region ?_
  refine l_of (s_val (v := .int .i64 0) (wt0 rfl) rfl rfl (x_assign rfl rfl) ?_)
  refine g_nil ?_
  refine g_then ?_
  refine g_seq ?_
  refine g_seq ?_
  refine g_quiet (by kernel_rfl) (by kernel_rfl) H0 ?_
  refine q_val (v := .pointer (some ⟨g, 0, none⟩)) (wt0 rfl) rfl rfl (fun wx H => x_load1 H 0 rfl rfl Tryd.underlying24 rfl rfl rfl) ?_
  refine q_val (v := .pointer (some ⟨g, 0, none⟩)) (wt0 rfl) rfl rfl (fun wx H => x_nilCheck rfl rfl) ?_
  refine q_val (v := .pointer (some ⟨g, 0, none⟩)) (wt0 rfl) rfl rfl (fun wx H => x_fieldAddr rfl rfl fo49_0 rfl) ?_
  refine q_val (v := .pointer (some ⟨g, 0, none⟩)) (wt0 rfl) rfl rfl (fun wx H => x_fieldAddr rfl rfl fo46_0 rfl) ?_
  refine q_val (v := .slice dp n dc) (wt0 rfl) rfl rfl (fun wx H => x_load1 H 2 rfl rfl Tryd.underlying35 rfl rfl rfl) ?_
  refine q_val (v := .int .i64 a) (wt0 rfl) rfl rfl (fun wx H => x_move rfl rfl) ?_
  refine q_val (v := .pointer ((dp).map fun q => q.add (((a).toNat) * 1))) (wt0 rfl) rfl rfl (fun wx H => x_idxP ((a).toNat) ((H0.rwReads (k := 3) rfl).some (by omega)) rfl rfl rfl Tryd.underlying35 sz3 (by omega)) ?_
  have hlq := (H0.rwReads (k := 3) rfl).lenL intE
  obtain ⟨x1, hx1⟩ := ex_at (l := (cntL n (tcF (ps.map Pp.sh)))) (j := ((a).toNat)) (by omega)
  clear hlq
  have hyx1 : x1 = (tcN (ps.map Pp.sh) a : Int) := by have h9 := (cntL_at hx1).2; unfold tcF at h9; rw [show ((a.toNat : Nat) : Int) = a from by omega] at h9; exact h9
  have hzx1 := tcN_le (ps.map Pp.sh) a
  rw [List.length_map] at hzx1
  refine q_val (v := .int .i64 x1) (wt0 rfl) rfl rfl (fun wx H => x_loadR1 ((a).toNat) (H.rwReads (k := 3) rfl) (by omega) rfl rfl Tryd.underlying3 rfl (intE.flAt1 hx1 rfl)) ?_
  refine q_val (v := .pointer (some ⟨g, 0, none⟩)) (wt0 rfl) rfl rfl (fun wx H => x_load1 H 0 rfl rfl Tryd.underlying24 rfl rfl rfl) ?_
  refine q_val (v := .pointer (some ⟨g, 0, none⟩)) (wt0 rfl) rfl rfl (fun wx H => x_nilCheck rfl rfl) ?_
  refine q_val (v := .pointer (some ⟨g, 0, none⟩)) (wt0 rfl) rfl rfl (fun wx H => x_fieldAddr rfl rfl fo49_0 rfl) ?_
  refine q_val (v := .pointer (some ⟨g, 0, none⟩)) (wt0 rfl) rfl rfl (fun wx H => x_fieldAddr rfl rfl fo46_0 rfl) ?_
  refine q_val (v := .slice dp n dc) (wt0 rfl) rfl rfl (fun wx H => x_load1 H 2 rfl rfl Tryd.underlying35 rfl rfl rfl) ?_
  refine q_val (v := .int .i64 b) (wt0 rfl) rfl rfl (fun wx H => x_move rfl rfl) ?_
  refine q_val (v := .pointer ((dp).map fun q => q.add (((b).toNat) * 1))) (wt0 rfl) rfl rfl (fun wx H => x_idxP ((b).toNat) ((H0.rwReads (k := 3) rfl).some (by omega)) rfl rfl rfl Tryd.underlying35 sz3 (by omega)) ?_
  have hlq := (H0.rwReads (k := 3) rfl).lenL intE
  obtain ⟨x2, hx2⟩ := ex_at (l := (cntL n (tcF (ps.map Pp.sh)))) (j := ((b).toNat)) (by omega)
  clear hlq
  have hyx2 : x2 = (tcN (ps.map Pp.sh) b : Int) := by have h9 := (cntL_at hx2).2; unfold tcF at h9; rw [show ((b.toNat : Nat) : Int) = b from by omega] at h9; exact h9
  have hzx2 := tcN_le (ps.map Pp.sh) b
  rw [List.length_map] at hzx2
  refine q_val (v := .int .i64 x2) (wt0 rfl) rfl rfl (fun wx H => x_loadR1 ((b).toNat) (H.rwReads (k := 3) rfl) (by omega) rfl rfl Tryd.underlying3 rfl (intE.flAt1 hx2 rfl)) ?_
  refine q_val (v := .int .i64 (x1 - x2)) (wt0 rfl) rfl rfl (fun wx H => x_bin rfl rfl rfl (b_sub (w64 (by omega)))) ?_
  refine q_val (v := .int .i64 (x1 - x2)) (wt0 rfl) rfl rfl (fun wx H => x_assign rfl rfl) ?_
  refine q_nil (fun wq3 H4 => ?_)
  refine g_then ?_
  refine g_weak [(0, .int .i64 a), (1, .int .i64 b), (2, .pointer (some ⟨b2, 0, none⟩)), (3, .pointer (some ⟨b8, 0, none⟩)), (7, .int .i64 (x1 - x2))] ⟨rfl, rfl, rfl, rfl, rfl, trivial⟩ ?_
  refine g_seq ?_
  refine g_region ?_
  refine l_of (s_val (v := .int .i64 (x1 - x2)) (wt0 rfl) rfl rfl (x_move rfl rfl) ?_)
  refine l_of (s_val (v := .bool (!decide ((x1 - x2 : Int) = 0))) (wt0 rfl) rfl rfl (x_bin rfl rfl rfl b_neq) ?_)
  refine g_nil ?_
  refine g_then ?_
  by_cases hb5 : (x1 - x2 : Int) = 0
  · skip
    refine g_cond_f rfl (nf hb5) ?_
    refine g_skip ?_
    refine g_then ?_
    refine g_seq ?_
    refine g_seq ?_
    refine g_quiet (by kernel_rfl) (by kernel_rfl) H4 ?_
    refine q_val (v := .pointer (some ⟨g, 0, none⟩)) (wt0 rfl) rfl rfl (fun wx H => x_load1 H 0 rfl rfl Tryd.underlying24 rfl rfl rfl) ?_
    refine q_val (v := .pointer (some ⟨g, 0, none⟩)) (wt0 rfl) rfl rfl (fun wx H => x_nilCheck rfl rfl) ?_
    refine q_val (v := .pointer (some ⟨g, 0, none⟩)) (wt0 rfl) rfl rfl (fun wx H => x_fieldAddr rfl rfl fo49_0 rfl) ?_
    refine q_val (v := .pointer (some ⟨g, 1, none⟩)) (wt0 rfl) rfl rfl (fun wx H => x_fieldAddr rfl rfl fo46_1 rfl) ?_
    refine q_val (v := .slice ep n ec) (wt0 rfl) rfl rfl (fun wx H => x_load1 H 2 rfl rfl Tryd.underlying35 rfl rfl rfl) ?_
    refine q_val (v := .int .i64 a) (wt0 rfl) rfl rfl (fun wx H => x_move rfl rfl) ?_
    refine q_val (v := .pointer ((ep).map fun q => q.add (((a).toNat) * 1))) (wt0 rfl) rfl rfl (fun wx H => x_idxP ((a).toNat) ((H4.rwReads (k := 4) rfl).some (by omega)) rfl rfl rfl Tryd.underlying35 sz3 (by omega)) ?_
    have hlq := (H4.rwReads (k := 4) rfl).lenL intE
    obtain ⟨x6, hx6⟩ := ex_at (l := (cntL n (hcF (ps.map Pp.sh)))) (j := ((a).toNat)) (by omega)
    clear hlq
    have hyx6 : x6 = (hcN (ps.map Pp.sh) a : Int) := by have h9 := (cntL_at hx6).2; unfold hcF at h9; rw [show ((a.toNat : Nat) : Int) = a from by omega] at h9; exact h9
    have hzx6 := hcN_le (ps.map Pp.sh) a
    rw [List.length_map] at hzx6
    refine q_val (v := .int .i64 x6) (wt0 rfl) rfl rfl (fun wx H => x_loadR1 ((a).toNat) (H.rwReads (k := 4) rfl) (by omega) rfl rfl Tryd.underlying3 rfl (intE.flAt1 hx6 rfl)) ?_
    refine q_val (v := .pointer (some ⟨g, 0, none⟩)) (wt0 rfl) rfl rfl (fun wx H => x_load1 H 0 rfl rfl Tryd.underlying24 rfl rfl rfl) ?_
    refine q_val (v := .pointer (some ⟨g, 0, none⟩)) (wt0 rfl) rfl rfl (fun wx H => x_nilCheck rfl rfl) ?_
    refine q_val (v := .pointer (some ⟨g, 0, none⟩)) (wt0 rfl) rfl rfl (fun wx H => x_fieldAddr rfl rfl fo49_0 rfl) ?_
    refine q_val (v := .pointer (some ⟨g, 1, none⟩)) (wt0 rfl) rfl rfl (fun wx H => x_fieldAddr rfl rfl fo46_1 rfl) ?_
    refine q_val (v := .slice ep n ec) (wt0 rfl) rfl rfl (fun wx H => x_load1 H 2 rfl rfl Tryd.underlying35 rfl rfl rfl) ?_
    refine q_val (v := .int .i64 b) (wt0 rfl) rfl rfl (fun wx H => x_move rfl rfl) ?_
    refine q_val (v := .pointer ((ep).map fun q => q.add (((b).toNat) * 1))) (wt0 rfl) rfl rfl (fun wx H => x_idxP ((b).toNat) ((H4.rwReads (k := 4) rfl).some (by omega)) rfl rfl rfl Tryd.underlying35 sz3 (by omega)) ?_
    have hlq := (H4.rwReads (k := 4) rfl).lenL intE
    obtain ⟨x7, hx7⟩ := ex_at (l := (cntL n (hcF (ps.map Pp.sh)))) (j := ((b).toNat)) (by omega)
    clear hlq
    have hyx7 : x7 = (hcN (ps.map Pp.sh) b : Int) := by have h9 := (cntL_at hx7).2; unfold hcF at h9; rw [show ((b.toNat : Nat) : Int) = b from by omega] at h9; exact h9
    have hzx7 := hcN_le (ps.map Pp.sh) b
    rw [List.length_map] at hzx7
    refine q_val (v := .int .i64 x7) (wt0 rfl) rfl rfl (fun wx H => x_loadR1 ((b).toNat) (H.rwReads (k := 4) rfl) (by omega) rfl rfl Tryd.underlying3 rfl (intE.flAt1 hx7 rfl)) ?_
    refine q_val (v := .int .i64 (x6 - x7)) (wt0 rfl) rfl rfl (fun wx H => x_bin rfl rfl rfl (b_sub (w64 (by omega)))) ?_
    refine q_val (v := .int .i64 (x6 - x7)) (wt0 rfl) rfl rfl (fun wx H => x_assign rfl rfl) ?_
    refine q_nil (fun wq8 H9 => ?_)
    refine g_then ?_
    refine g_weak [(0, .int .i64 a), (1, .int .i64 b), (3, .pointer (some ⟨b8, 0, none⟩)), (8, .int .i64 (x6 - x7))] ⟨rfl, rfl, rfl, rfl, trivial⟩ ?_
    refine g_seq ?_
    refine g_region ?_
    refine l_of (s_val (v := .int .i64 (x6 - x7)) (wt0 rfl) rfl rfl (x_move rfl rfl) ?_)
    refine l_of (s_val (v := .bool (!decide ((x6 - x7 : Int) = 0))) (wt0 rfl) rfl rfl (x_bin rfl rfl rfl b_neq) ?_)
    refine g_nil ?_
    refine g_then ?_
    by_cases hb10 : (x6 - x7 : Int) = 0
    · skip
      refine g_cond_f rfl (nf hb10) ?_
      refine g_skip ?_
      refine g_then ?_
      refine g_seq ?_
      refine g_anyY [] (fun wx => S wx [Ob b8 (.cells #[.func (.func 30) #[] #[.pointer (some ⟨b2, 0, none⟩)]] 66 (0, 0))]) (fun wx => S wx [Ob b8 (.cells #[.func (.func 30) #[] #[.pointer (some ⟨b2, 0, none⟩)]] 66 (0, 0))]) [] (by kernel_rfl) H9 (fun wq11 H12 => ?_)
      refine y_take (v := .func (.func 30) #[] #[.pointer (some ⟨b2, 0, none⟩)]) 0 rfl (wt0 rfl) rfl rfl rfl (by kernel_rfl) (by kernel_rfl) (by kernel_rfl) (by kernel_rfl) (by kernel_rfl) (H12.mask [false, true, false, false, false, false, false]) (fun wx H => x_load1 H 0 rfl rfl Tryd.underlying66 rfl rfl rfl) ?_
      refine y_pure (v := .int .i64 a) 1 rfl (wt0 rfl) rfl rfl rfl (by kernel_rfl) (by kernel_rfl) (by kernel_rfl) (by kernel_rfl) (fun wx => x_move rfl rfl) ?_
      refine y_take (v := .func (.func 30) #[] #[.pointer (some ⟨b2, 0, none⟩)]) 3 rfl (wt0 rfl) rfl rfl rfl (by kernel_rfl) (by kernel_rfl) (by kernel_rfl) (by kernel_rfl) (by kernel_rfl) (H12.mask [false, true, false, false, false, false, false]) (fun wx H => x_load1 H 0 rfl rfl Tryd.underlying66 rfl rfl rfl) ?_
      refine y_pure (v := .int .i64 b) 4 rfl (wt0 rfl) rfl rfl rfl (by kernel_rfl) (by kernel_rfl) (by kernel_rfl) (by kernel_rfl) (fun wx => x_move rfl rfl) ?_
      refine y_one (i := 2) (by kernel_rfl) rfl ?_
      refine s_call (wt0 rfl) (x_call rfl rfl rfl cl30) (next1_s b2 g mg dp dc ep ec seed n hsd w0 ht a (by omega) _ (H12.takes [0, 2, 5] (by decide))) ?_
      rintro _ wq13 ⟨rfl, H14⟩
      replace H14 : S wq13 [Ob b2 (.cells #[.pointer (some ⟨g, 0, none⟩)] 24 (0, 0)), Ob g (.cells #[.slice dp n dc, .slice ep n ec, .string seed, .map (some mg)] 49 (0, 0)), Old w0 no, Ob b8 (.cells #[.func (.func 30) #[] #[.pointer (some ⟨b2, 0, none⟩)]] 66 (0, 0)), Rw 3 1 dp n dc (fl intL (cntL n (tcF (ps.map Pp.sh)))), Rw 3 1 ep n ec (fl intL (cntL n (hcF (ps.map Pp.sh)))), Old w (fps [Ob b2 (.cells #[.pointer (some ⟨g, 0, none⟩)] 24 (0, 0)), Ob b8 (.cells #[.func (.func 30) #[] #[.pointer (some ⟨b2, 0, none⟩)]] 66 (0, 0)), Ob g (.cells #[.slice dp n dc, .slice ep n ec, .string seed, .map (some mg)] 49 (0, 0)), Rw 3 1 dp n dc (fl intL (cntL n (tcF (ps.map Pp.sh)))), Rw 3 1 ep n ec (fl intL (cntL n (hcF (ps.map Pp.sh)))), Old w0 no])] := H12.absorbI (new := [Ob b2 (.cells #[.pointer (some ⟨g, 0, none⟩)] 24 (0, 0)), Ob g (.cells #[.slice dp n dc, .slice ep n ec, .string seed, .map (some mg)] 49 (0, 0)), Old w0 no]) [0, 2, 5] H14
      refine b_ret rfl rfl ?_
      refine y_k (H14.mask [false, false, false, true, false, false, false]) (H14.mask [false, false, false, true, false, false, false]) ?_
      refine y_one (i := 5) (by kernel_rfl) rfl ?_
      refine s_call (wt0 rfl) (x_call rfl rfl rfl cl30) (next1_s b2 g mg dp dc ep ec seed n hsd w0 ht b (by omega) _ (H14.takes [0, 1, 2] (by decide))) ?_
      rintro _ wq15 ⟨rfl, H16⟩
      replace H16 : S wq15 [Ob b2 (.cells #[.pointer (some ⟨g, 0, none⟩)] 24 (0, 0)), Ob g (.cells #[.slice dp n dc, .slice ep n ec, .string seed, .map (some mg)] 49 (0, 0)), Old w0 no, Ob b8 (.cells #[.func (.func 30) #[] #[.pointer (some ⟨b2, 0, none⟩)]] 66 (0, 0)), Rw 3 1 dp n dc (fl intL (cntL n (tcF (ps.map Pp.sh)))), Rw 3 1 ep n ec (fl intL (cntL n (hcF (ps.map Pp.sh)))), Old w (fps [Ob b2 (.cells #[.pointer (some ⟨g, 0, none⟩)] 24 (0, 0)), Ob b8 (.cells #[.func (.func 30) #[] #[.pointer (some ⟨b2, 0, none⟩)]] 66 (0, 0)), Ob g (.cells #[.slice dp n dc, .slice ep n ec, .string seed, .map (some mg)] 49 (0, 0)), Rw 3 1 dp n dc (fl intL (cntL n (tcF (ps.map Pp.sh)))), Rw 3 1 ep n ec (fl intL (cntL n (hcF (ps.map Pp.sh)))), Old w0 no])] := H14.absorbI (new := [Ob b2 (.cells #[.pointer (some ⟨g, 0, none⟩)] 24 (0, 0)), Ob g (.cells #[.slice dp n dc, .slice ep n ec, .string seed, .map (some mg)] 49 (0, 0)), Old w0 no]) [0, 1, 2] H16
      refine b_ret rfl rfl ?_
      refine y_k (H16.mask [false, false, false, true, false, false, false]) (H16.mask [false, false, false, true, false, false, false]) ?_
      refine y_one (i := 6) (by kernel_rfl) rfl ?_
      refine s_call (wt0 rfl) (x_call' rfl rfl cl36) (compare_s (rankS seed a) (rankS seed b) _) ?_
      rintro _ wq17 ⟨rfl, H18⟩
      replace H18 : S wq17 [Ob b2 (.cells #[.pointer (some ⟨g, 0, none⟩)] 24 (0, 0)), Ob g (.cells #[.slice dp n dc, .slice ep n ec, .string seed, .map (some mg)] 49 (0, 0)), Old w0 no, Ob b8 (.cells #[.func (.func 30) #[] #[.pointer (some ⟨b2, 0, none⟩)]] 66 (0, 0)), Rw 3 1 dp n dc (fl intL (cntL n (tcF (ps.map Pp.sh)))), Rw 3 1 ep n ec (fl intL (cntL n (hcF (ps.map Pp.sh)))), Old w (fps [Ob b2 (.cells #[.pointer (some ⟨g, 0, none⟩)] 24 (0, 0)), Ob b8 (.cells #[.func (.func 30) #[] #[.pointer (some ⟨b2, 0, none⟩)]] 66 (0, 0)), Ob g (.cells #[.slice dp n dc, .slice ep n ec, .string seed, .map (some mg)] 49 (0, 0)), Rw 3 1 dp n dc (fl intL (cntL n (tcF (ps.map Pp.sh)))), Rw 3 1 ep n ec (fl intL (cntL n (hcF (ps.map Pp.sh)))), Old w0 no])] := H16.absorb (new := []) H18
      refine b_ret rfl rfl ?_
      refine y_k (H18.mask [false, false, false, true, false, false, false]) (H18.mask [false, false, false, true, false, false, false]) ?_
      refine y_pure (v := .int .i64 ((cmpSt (rankS seed a) (rankS seed b)))) 7 rfl (wt0 rfl) rfl rfl rfl (by kernel_rfl) (by kernel_rfl) (by kernel_rfl) (by kernel_rfl) (fun wx => x_assign rfl rfl) ?_
      refine y_done (by kernel_rfl) ?_
      refine g_then ?_
      refine g_weak [(6, .int .i64 ((cmpSt (rankS seed a) (rankS seed b))))] ⟨rfl, trivial⟩ ?_
      refine g_ret ?_
      refine fin_ret [.tmp 6] [.int .i64 ((cmpSt (rankS seed a) (rankS seed b)))] rfl ⟨rfl, trivial⟩ ?_
      have hv : (cN seed (ps.map Pp.sh) a b) = (cmpSt (rankS seed a) (rankS seed b)) := by unfold cN; rw [if_neg (by omega), if_neg (by omega)]
      rw [hv]
      exact ⟨rfl, H18.takes [0, 3, 1, 4, 5, 2, 6] (by decide)⟩
    · skip
      refine g_cond_t rfl (nt hb10) ?_
      refine g_seq ?_
      refine g_region ?_
      refine l_of (s_val (v := .int .i64 (x6 - x7)) (wt0 rfl) rfl rfl (x_move rfl rfl) ?_)
      refine l_of (s_val (v := .int .i64 (x6 - x7)) (wt0 rfl) rfl rfl (x_assign rfl rfl) ?_)
      refine g_nil ?_
      refine g_then ?_
      refine g_ret ?_
      refine g_then_ret ?_
      refine fin_ret [.tmp 6] [.int .i64 (x6 - x7)] rfl ⟨rfl, trivial⟩ ?_
      have hv : (cN seed (ps.map Pp.sh) a b) = x6 - x7 := by unfold cN; rw [if_neg (by omega), if_pos (by omega)]; omega
      rw [hv]
      exact ⟨rfl, H9.takes [0, 1, 2, 3, 4, 5, 6] (by decide)⟩
  · skip
    refine g_cond_t rfl (nt hb5) ?_
    refine g_seq ?_
    refine g_region ?_
    refine l_of (s_val (v := .int .i64 (x1 - x2)) (wt0 rfl) rfl rfl (x_move rfl rfl) ?_)
    refine l_of (s_val (v := .int .i64 (x1 - x2)) (wt0 rfl) rfl rfl (x_assign rfl rfl) ?_)
    refine g_nil ?_
    refine g_then ?_
    refine g_ret ?_
    refine g_then_ret ?_
    refine fin_ret [.tmp 6] [.int .i64 (x1 - x2)] rfl ⟨rfl, trivial⟩ ?_
    have hv : (cN seed (ps.map Pp.sh) a b) = x1 - x2 := by unfold cN; rw [if_pos (by omega)]; omega
    rw [hv]
    exact ⟨rfl, H4.takes [0, 1, 2, 3, 4, 5, 6] (by decide)⟩
theorem next2_f (b2 b8 g mg : Nat) (dp : Option Addr) (dc : Nat) (ep : Option Addr) (ec : Nat) (seed : ByteArray) (n : Nat) (ps : List Pp) (hsd : seed.size ≤ 100) (hn30 : n ≤ 30) (hps : ps.length ≤ 1000) (w0 : World) (ht : PowTab w0) : FunC Tryd.prog 35 #[] #[.pointer (some ⟨b2, 0, none⟩), .pointer (some ⟨b8, 0, none⟩)] (Big [Ob b2 (.cells #[.pointer (some ⟨g, 0, none⟩)] 24 (0, 0)), Ob b8 (.cells #[.func (.func 30) #[] #[.pointer (some ⟨b2, 0, none⟩)]] 66 (0, 0)), Ob g (.cells #[.slice dp n dc, .slice ep n ec, .string seed, .map (some mg)] 49 (0, 0)), Rw 3 1 dp n dc (fl intL (cntL n (tcF (ps.map Pp.sh)))), Rw 3 1 ep n ec (fl intL (cntL n (hcF (ps.map Pp.sh)))), Old w0 no]) (fun p : Int × Int => [.int .i64 p.1, .int .i64 p.2]) (fun p => .int .i64 (cN seed (ps.map Pp.sh) p.1 p.2)) (fun p => (0 ≤ p.1 ∧ p.1 < (n : Int)) ∧ (0 ≤ p.2 ∧ p.2 < (n : Int))) :=
  FunC.ofBig (by kernel_rfl) fun z hb w HS => next2_s b2 b8 g mg dp dc ep ec seed n ps hsd hn30 hps w0 ht z.1 z.2 hb.1 hb.2 w HS
end Go.Proofs.YthfglkkjkpdkpaaDoor
