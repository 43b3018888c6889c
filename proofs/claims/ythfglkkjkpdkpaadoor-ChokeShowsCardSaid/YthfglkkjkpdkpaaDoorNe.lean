import Derived.Test.YthfglkkjkpdkpaaDoorNd
set_option linter.unusedSimpArgs false
set_option linter.unusedVariables false
namespace Go.Proofs.YthfglkkjkpdkpaaDoor
open Go.RowKit

theorem fo58_1 : foO Tryd.prog 58 1 = some 1 := by kernel_rfl
theorem ze4 : zeO Tryd.prog 4 = some (.bool false) := by kernel_rfl
set_option maxRecDepth 20000 in
set_option maxHeartbeats 4000000 in
set_option maxRecDepth 20000 in
set_option maxHeartbeats 4000000 in
theorem holds_s (j g mg : Nat) (dp : Option Addr) (dc : Nat) (ep : Option Addr) (ec : Nat) (seed : ByteArray) (n : Nat) (ps : List Pp) (hX : PI j (⟨seed, n, ps.map Pp.sh⟩ : SP)) (hj : j ≤ 1000) (id : Int) (hid : okI id) (k : Int) (hk : okI k)  (w : World) (HS : S w [(XM.I ⟨g, mg, dp, dc, ep, ec, seed, n, ps⟩)]) : Calls Tryd.prog 11 #[.pointer (some ⟨g, 0, none⟩), .int .i64 id, .int .i64 k] w fun e w' => ∃ Y : XM, Y.g = g ∧ Y.A = holdsA (⟨seed, n, ps.map Pp.sh⟩ : SP) id k ∧ e = .returned (.int .i64 (holdsE (⟨seed, n, ps.map Pp.sh⟩ : SP) id k)) ∧ S w' ([Y.I] ++ [Old w (fps [(XM.I ⟨g, mg, dp, dc, ep, ec, seed, n, ps⟩)])]) := by
  have H00 := HS.beginI
  have H0 : S w ([(XM.I ⟨g, mg, dp, dc, ep, ec, seed, n, ps⟩), Old w (fps [(XM.I ⟨g, mg, dp, dc, ep, ec, seed, n, ps⟩)])]) := H00
  have hPI : PI j (⟨seed, n, ps.map Pp.sh⟩ : SP) := hX
  have hnd : (ps.map Pp.id).Nodup := by have := hPI.nd; rwa [sh_ids] at this
  have hps : ps.length ≤ j := by have := hPI.len; simpa using this
  have hn30 : n ≤ 30 := hPI.n30
  replace H0 : S w [Ob g (.cells #[.slice dp n dc, .slice ep n ec, .string seed, .map (some mg)] 49 (0, 0)), Rw 3 1 dp n dc (fl intL (cntL n (tcF (ps.map Pp.sh)))), Rw 3 1 ep n ec (fl intL (cntL n (hcF (ps.map Pp.sh)))), Mp (Value.int .i64) ptV okI mg (peerM ps), (Lst PeI ps), Old w (fps [(XM.I ⟨g, mg, dp, dc, ep, ec, seed, n, ps⟩)])] := S.unbig H0
  have hcD : (cntL n (tcF (ps.map Pp.sh))).length = n := cntL_len _ _
  have hcE : (cntL n (hcF (ps.map Pp.sh))).length = n := cntL_len _ _
  refine enter 61 Tryd.func11 rfl rfl rfl ?_
  refine g_weak [(0, .pointer (some ⟨g, 0, none⟩)), (1, .int .i64 id), (2, .int .i64 k)] ⟨rfl, rfl, rfl, trivial⟩ ?_
  refine g_seq ?_
  refine g_region ?_
  refine l_of (s_val (v := .int .i64 0) (wt0 rfl) rfl rfl (x_assign rfl rfl) ?_)
  refine g_nil ?_
  refine g_then ?_
  refine g_seq ?_
  refine g_block ?_
  refine g_seq ?_
  refine g_region ?_
  refine l_of (s_val (v := .pointer (some ⟨g, 0, none⟩)) (wt0 rfl) rfl rfl (x_move rfl rfl) ?_)
  refine l_of (s_val (v := .bool false) (wt0 rfl) rfl rfl (x_bin rfl rfl rfl (b_eqN (r := false) Tryd.underlying24 rfl)) ?_)
  refine l_of (s_val (v := .bool false) (wt0 rfl) rfl rfl (x_assign rfl rfl) ?_)
  refine g_nil ?_
  refine g_then ?_
  refine g_cond_f rfl rfl ?_
  refine g_seq ?_
  refine g_region ?_
  refine l_of (s_val (v := .int .i64 id) (wt0 rfl) rfl rfl (x_move rfl rfl) ?_)
  refine l_of (s_val (v := .bool (decide ((id : Int) < 0))) (wt0 rfl) rfl rfl (x_bin rfl rfl rfl b_lss) ?_)
  refine l_of (s_val (v := .bool (decide ((id : Int) < 0))) (wt0 rfl) rfl rfl (x_move rfl rfl) ?_)
  by_cases hb1 : (id : Int) < 0
  · skip
    refine l_of (s_not (wn1 rfl rfl rfl rfl (decide_eq_true hb1)) rfl rfl ?_)
    refine l_of (s_not (wn1 rfl rfl rfl rfl (decide_eq_true hb1)) rfl rfl ?_)
    refine l_of (s_val (v := .bool true) (wt0 rfl) rfl rfl (x_pick_t rfl rfl (decide_eq_true hb1) rfl) ?_)
    refine l_of (s_val (v := .bool true) (wt0 rfl) rfl rfl (x_move rfl rfl) ?_)
    refine l_of (s_not (wn1 rfl rfl rfl rfl rfl) rfl rfl ?_)
    refine l_of (s_not (wn1 rfl rfl rfl rfl rfl) rfl rfl ?_)
    refine l_of (s_not (wn1 rfl rfl rfl rfl rfl) rfl rfl ?_)
    refine l_of (s_not (wn1 rfl rfl rfl rfl rfl) rfl rfl ?_)
    refine l_of (s_not (wn1 rfl rfl rfl rfl rfl) rfl rfl ?_)
    refine l_of (s_not (wn1 rfl rfl rfl rfl rfl) rfl rfl ?_)
    refine l_of (s_not (wn1 rfl rfl rfl rfl rfl) rfl rfl ?_)
    refine l_of (s_not (wn1 rfl rfl rfl rfl rfl) rfl rfl ?_)
    refine l_of (s_val (v := .bool true) (wt0 rfl) rfl rfl (x_pick_t rfl rfl rfl rfl) ?_)
    refine l_of (s_val (v := .bool true) (wt0 rfl) rfl rfl (x_assign rfl rfl) ?_)
    refine g_nil ?_
    refine g_then ?_
    refine g_weak [(0, .pointer (some ⟨g, 0, none⟩)), (1, .int .i64 id), (2, .int .i64 k), (12, .bool true)] ⟨rfl, rfl, rfl, rfl, trivial⟩ ?_
    refine g_cond_t rfl rfl ?_
    refine g_seq ?_
    refine g_region ?_
    refine l_of (s_val (v := .int .i64 7) (wt0 rfl) rfl rfl (x_assign rfl rfl) ?_)
    refine g_nil ?_
    refine g_then ?_
    refine g_ret ?_
    refine g_in_ret ?_
    refine g_then_ret ?_
    refine fin_ret [.tmp 6] [.int .i64 7] rfl ⟨rfl, trivial⟩ ?_
    have hv : holdsE (⟨seed, n, ps.map Pp.sh⟩ : SP) id k = 7 := by unfold holdsE; exact if_pos (by show id < 0 ∨ k < 0 ∨ (n : Int) ≤ k; omega)
    have hE : holdsE (⟨seed, n, ps.map Pp.sh⟩ : SP) id k = 7 := by exact hv
    have hA : holdsA (⟨seed, n, ps.map Pp.sh⟩ : SP) id k = (⟨seed, n, ps.map Pp.sh⟩ : SP) := by unfold holdsA; rw [hE]; exact if_neg (by decide)
    rw [hE]
    exact ⟨⟨g, mg, dp, dc, ep, ec, seed, n, ps⟩, rfl, hA.symm, rfl, (S.big (L := [_, _, _, _, _]) (H0.takes [0, 1, 2, 3, 4, 5] (by decide)))⟩
  · skip
    refine l_of (s_val (v := .int .i64 k) (wt1 rfl rfl rfl rfl (decide_eq_false hb1)) rfl rfl (x_move rfl rfl) ?_)
    refine l_of (s_val (v := .bool (decide ((k : Int) < 0))) (wt1 rfl rfl rfl rfl (decide_eq_false hb1)) rfl rfl (x_bin rfl rfl rfl b_lss) ?_)
    refine l_of (s_val (v := .bool (decide ((k : Int) < 0))) (wt0 rfl) rfl rfl (x_pick_f rfl rfl (decide_eq_false hb1) rfl) ?_)
    refine l_of (s_val (v := .bool (decide ((k : Int) < 0))) (wt0 rfl) rfl rfl (x_move rfl rfl) ?_)
    by_cases hb2 : (k : Int) < 0
    · skip
      refine l_of (s_not (wn1 rfl rfl rfl rfl (decide_eq_true hb2)) rfl rfl ?_)
      refine l_of (s_not (wn1 rfl rfl rfl rfl (decide_eq_true hb2)) rfl rfl ?_)
      refine l_of (s_not (wn1 rfl rfl rfl rfl (decide_eq_true hb2)) rfl rfl ?_)
      refine l_of (s_not (wn1 rfl rfl rfl rfl (decide_eq_true hb2)) rfl rfl ?_)
      refine l_of (s_not (wn1 rfl rfl rfl rfl (decide_eq_true hb2)) rfl rfl ?_)
      refine l_of (s_not (wn1 rfl rfl rfl rfl (decide_eq_true hb2)) rfl rfl ?_)
      refine l_of (s_not (wn1 rfl rfl rfl rfl (decide_eq_true hb2)) rfl rfl ?_)
      refine l_of (s_not (wn1 rfl rfl rfl rfl (decide_eq_true hb2)) rfl rfl ?_)
      refine l_of (s_val (v := .bool true) (wt0 rfl) rfl rfl (x_pick_t rfl rfl (decide_eq_true hb2) rfl) ?_)
      refine l_of (s_val (v := .bool true) (wt0 rfl) rfl rfl (x_assign rfl rfl) ?_)
      refine g_nil ?_
      refine g_then ?_
      refine g_weak [(0, .pointer (some ⟨g, 0, none⟩)), (1, .int .i64 id), (2, .int .i64 k), (12, .bool true)] ⟨rfl, rfl, rfl, rfl, trivial⟩ ?_
      refine g_cond_t rfl rfl ?_
      refine g_seq ?_
      refine g_region ?_
      refine l_of (s_val (v := .int .i64 7) (wt0 rfl) rfl rfl (x_assign rfl rfl) ?_)
      refine g_nil ?_
      refine g_then ?_
      refine g_ret ?_
      refine g_in_ret ?_
      refine g_then_ret ?_
      refine fin_ret [.tmp 6] [.int .i64 7] rfl ⟨rfl, trivial⟩ ?_
      have hv : holdsE (⟨seed, n, ps.map Pp.sh⟩ : SP) id k = 7 := by unfold holdsE; exact if_pos (by show id < 0 ∨ k < 0 ∨ (n : Int) ≤ k; omega)
      have hE : holdsE (⟨seed, n, ps.map Pp.sh⟩ : SP) id k = 7 := by exact hv
      have hA : holdsA (⟨seed, n, ps.map Pp.sh⟩ : SP) id k = (⟨seed, n, ps.map Pp.sh⟩ : SP) := by unfold holdsA; rw [hE]; exact if_neg (by decide)
      rw [hE]
      exact ⟨⟨g, mg, dp, dc, ep, ec, seed, n, ps⟩, rfl, hA.symm, rfl, (S.big (L := [_, _, _, _, _]) (H0.takes [0, 1, 2, 3, 4, 5] (by decide)))⟩
    · skip
      refine l_of (s_val (v := .int .i64 k) (wt1 rfl rfl rfl rfl (decide_eq_false hb2)) rfl rfl (x_move rfl rfl) ?_)
      refine l_of (s_val (v := .pointer (some ⟨g, 0, none⟩)) (wt1 rfl rfl rfl rfl (decide_eq_false hb2)) rfl rfl (x_move rfl rfl) ?_)
      refine l_of (s_val (v := .pointer (some ⟨g, 0, none⟩)) (wt1 rfl rfl rfl rfl (decide_eq_false hb2)) rfl rfl (x_nilCheck rfl rfl) ?_)
      refine l_of (s_val (v := .pointer (some ⟨g, 0, none⟩)) (wt1 rfl rfl rfl rfl (decide_eq_false hb2)) rfl rfl (x_fieldAddr rfl rfl fo49_0 rfl) ?_)
      refine l_of (s_val (v := .pointer (some ⟨g, 1, none⟩)) (wt1 rfl rfl rfl rfl (decide_eq_false hb2)) rfl rfl (x_fieldAddr rfl rfl fo46_1 rfl) ?_)
      refine l_of (s_val (v := .slice ep n ec) (wt1 rfl rfl rfl rfl (decide_eq_false hb2)) rfl rfl (x_load1 H0 0 rfl rfl Tryd.underlying35 rfl rfl rfl) ?_)
      refine l_of (s_val (v := .int .i64 ((n : Int))) (wt1 rfl rfl rfl rfl (decide_eq_false hb2)) rfl rfl (x_lenl rfl rfl Tryd.underlying35) ?_)
      refine l_of (s_val (v := .bool (decide (((n : Int) : Int) ≤ k))) (wt1 rfl rfl rfl rfl (decide_eq_false hb2)) rfl rfl (x_bin rfl rfl rfl b_geq) ?_)
      refine l_of (s_val (v := .bool (decide (((n : Int) : Int) ≤ k))) (wt0 rfl) rfl rfl (x_pick_f rfl rfl (decide_eq_false hb2) rfl) ?_)
      refine l_of (s_val (v := .bool (decide (((n : Int) : Int) ≤ k))) (wt0 rfl) rfl rfl (x_assign rfl rfl) ?_)
      refine g_nil ?_
      refine g_then ?_
      refine g_weak [(0, .pointer (some ⟨g, 0, none⟩)), (1, .int .i64 id), (2, .int .i64 k), (12, .bool (decide (((n : Int) : Int) ≤ k)))] ⟨rfl, rfl, rfl, rfl, trivial⟩ ?_
      by_cases hb3 : ((n : Int) : Int) ≤ k
      · skip
        refine g_cond_t rfl (decide_eq_true hb3) ?_
        refine g_seq ?_
        refine g_region ?_
        refine l_of (s_val (v := .int .i64 7) (wt0 rfl) rfl rfl (x_assign rfl rfl) ?_)
        refine g_nil ?_
        refine g_then ?_
        refine g_ret ?_
        refine g_in_ret ?_
        refine g_then_ret ?_
        refine fin_ret [.tmp 6] [.int .i64 7] rfl ⟨rfl, trivial⟩ ?_
        have hv : holdsE (⟨seed, n, ps.map Pp.sh⟩ : SP) id k = 7 := by unfold holdsE; exact if_pos (by show id < 0 ∨ k < 0 ∨ (n : Int) ≤ k; omega)
        have hE : holdsE (⟨seed, n, ps.map Pp.sh⟩ : SP) id k = 7 := by exact hv
        have hA : holdsA (⟨seed, n, ps.map Pp.sh⟩ : SP) id k = (⟨seed, n, ps.map Pp.sh⟩ : SP) := by unfold holdsA; rw [hE]; exact if_neg (by decide)
        rw [hE]
        exact ⟨⟨g, mg, dp, dc, ep, ec, seed, n, ps⟩, rfl, hA.symm, rfl, (S.big (L := [_, _, _, _, _]) (H0.takes [0, 1, 2, 3, 4, 5] (by decide)))⟩
      · skip
        refine g_cond_f rfl (decide_eq_false hb3) ?_
        refine g_skip ?_
        refine g_in ?_
        refine g_then ?_
        refine g_seq ?_
        refine g_region ?_
        refine l_of (s_val (v := .pointer (some ⟨g, 0, none⟩)) (wt0 rfl) rfl rfl (x_move rfl rfl) ?_)
        refine l_of (s_val (v := .int .i64 id) (wt0 rfl) rfl rfl (x_move rfl rfl) ?_)
        refine l_of (s_call (wt0 rfl) (x_call' rfl rfl cl24) (find_s g mg dp dc ep ec seed n (peerM ps) id hid _ (H0.takes [0, 3] (by decide))) ?_)
        rintro ee6 wq4 hor7
        rcases hor7 with ⟨b, h0i, hMb, rfl, H5⟩ | ⟨h0i, rfl, H5⟩ | ⟨h0i, hMb, rfl, H5⟩
        · skip
          replace H5 : S wq4 [Ob g (.cells #[.slice dp n dc, .slice ep n ec, .string seed, .map (some mg)] 49 (0, 0)), Mp (Value.int .i64) ptV okI mg (peerM ps), Rw 3 1 dp n dc (fl intL (cntL n (tcF (ps.map Pp.sh)))), Rw 3 1 ep n ec (fl intL (cntL n (hcF (ps.map Pp.sh)))), (Lst PeI ps), Old w (fps [(XM.I ⟨g, mg, dp, dc, ep, ec, seed, n, ps⟩)])] := H0.absorbI (new := [Ob g (.cells #[.slice dp n dc, .slice ep n ec, .string seed, .map (some mg)] 49 (0, 0)), Mp (Value.int .i64) ptV okI mg (peerM ps)]) [0, 3] H5
          obtain ⟨i, p, hp, hpi, hpb⟩ := peerM_some hMb
          subst hpb
          subst hpi
          have hq : (ps.map Pp.sh)[i]? = some p.sh := by rw [List.getElem?_map, hp]; rfl
          have hf : fnd (ps.map Pp.sh) p.id = some i := fnd_of hPI.nd hq rfl
          have hpk := hPI.at (p := p.sh) hq
          have hg9 : getP (⟨seed, n, ps.map Pp.sh⟩ : SP) i = p.sh := getP_at hq
          have htl : p.told.length ≤ j := hpk.2.1
          have hinr : ∀ k ∈ p.holds, 0 ≤ k ∧ k < (n : Int) := hpk.2.2.2.2.2
          have hinb : ∀ k ∈ p.holds, okI k := fun k hk => by have := hinr k hk; exact ⟨by omega, by omega⟩
          have H8 : S wq4 [Ob p.b (.cells #[.slice p.tp p.told.length p.tc, .map (some p.hm)] 58 (0, 0)), Rw 3 1 p.tp p.told.length p.tc (fl intL p.told), Mp (Value.int .i64) Value.bool okI p.hm (hMap p.holds), (Lst PeI (ps.eraseIdx i)), Ob g (.cells #[.slice dp n dc, .slice ep n ec, .string seed, .map (some mg)] 49 (0, 0)), Mp (Value.int .i64) ptV okI mg (peerM ps), Rw 3 1 dp n dc (fl intL (cntL n (tcF (ps.map Pp.sh)))), Rw 3 1 ep n ec (fl intL (cntL n (hcF (ps.map Pp.sh)))), Old w (fps [(XM.I ⟨g, mg, dp, dc, ep, ec, seed, n, ps⟩)])] := S.unbig (L := [_, _, _]) (S.lstOut (F := PeI) (H5.takes [4, 0, 1, 2, 3, 5] (by decide)) hp)
          refine b_ret rfl rfl ?_
          refine l_of (s_val (v := .tuple #[.pointer (some ⟨p.b, 0, none⟩), .int .i64 0]) (wt0 rfl) rfl rfl (x_move rfl rfl) ?_)
          refine l_of (s_val (v := .pointer (some ⟨p.b, 0, none⟩)) (wt0 rfl) rfl rfl (x_extract rfl rfl rfl) ?_)
          refine l_of (s_val (v := .int .i64 0) (wt0 rfl) rfl rfl (x_extract rfl rfl rfl) ?_)
          refine l_of (s_val (v := .pointer (some ⟨p.b, 0, none⟩)) (wt0 rfl) rfl rfl (x_assign rfl rfl) ?_)
          refine l_of (s_val (v := .int .i64 0) (wt0 rfl) rfl rfl (x_assign rfl rfl) ?_)
          refine g_nil ?_
          refine g_then ?_
          refine g_seq ?_
          refine g_block ?_
          refine g_seq ?_
          refine g_region ?_
          refine l_of (s_val (v := .int .i64 0) (wt0 rfl) rfl rfl (x_move rfl rfl) ?_)
          refine l_of (s_val (v := .bool (!decide ((0 : Int) = 0))) (wt0 rfl) rfl rfl (x_bin rfl rfl rfl b_neq) ?_)
          refine l_of (s_val (v := .bool (!decide ((0 : Int) = 0))) (wt0 rfl) rfl rfl (x_assign rfl rfl) ?_)
          refine g_nil ?_
          refine g_then ?_
          refine g_cond_f rfl (nf rfl) ?_
          refine g_seq ?_
          refine g_region ?_
          refine l_of (s_val (v := .pointer (some ⟨p.b, 0, none⟩)) (wt0 rfl) rfl rfl (x_move rfl rfl) ?_)
          refine l_of (s_val (v := .pointer (some ⟨p.b, 0, none⟩)) (wt0 rfl) rfl rfl (x_nilCheck rfl rfl) ?_)
          refine l_of (s_val (v := .pointer (some ⟨p.b, 1, none⟩)) (wt0 rfl) rfl rfl (x_fieldAddr rfl rfl fo58_1 rfl) ?_)
          refine l_of (s_val (v := .map (some p.hm)) (wt0 rfl) rfl rfl (x_load1 H8 0 rfl rfl Tryd.underlying56 rfl rfl rfl) ?_)
          refine l_of (s_val (v := .int .i64 k) (wt0 rfl) rfl rfl (x_move rfl rfl) ?_)
          refine l_of (s_val (v := .bool ((decide (k ∈ p.holds)))) (wt0 rfl) rfl rfl (ex_cast (x_lookup1 (x := k) (intTy Tryd.underlying56 Tryd.underlying3) H8 2 rfl rfl rfl rfl (hk) ze4) (by rw [look_B, hMap_get])) ?_)
          refine l_of (s_val (v := .bool ((decide (k ∈ p.holds)))) (wt0 rfl) rfl rfl (x_assign rfl rfl) ?_)
          refine g_nil ?_
          refine g_then ?_
          refine g_weak [(0, .pointer (some ⟨g, 0, none⟩)), (2, .int .i64 k), (7, .pointer (some ⟨p.b, 0, none⟩)), (39, .bool ((decide (k ∈ p.holds))))] ⟨rfl, rfl, rfl, rfl, trivial⟩ ?_
          rcases Bool.eq_false_or_eq_true ((decide (k ∈ p.holds))) with hb9 | hb9
          · skip
            refine g_cond_t rfl hb9 ?_
            refine g_seq ?_
            refine g_region ?_
            refine l_of (s_val (v := .int .i64 9) (wt0 rfl) rfl rfl (x_assign rfl rfl) ?_)
            refine g_nil ?_
            refine g_then ?_
            refine g_ret ?_
            refine g_in_ret ?_
            refine g_then_ret ?_
            refine fin_ret [.tmp 6] [.int .i64 9] rfl ⟨rfl, trivial⟩ ?_
            have hv : holdsE (⟨seed, n, ps.map Pp.sh⟩ : SP) p.id k = 9 := by unfold holdsE; rw [if_neg (show ¬ (p.id < 0 ∨ k < 0 ∨ (SP.n (⟨seed, n, ps.map Pp.sh⟩ : SP) : Int) ≤ k) from (by show ¬ (p.id < 0 ∨ k < 0 ∨ (n : Int) ≤ k); omega)), show fnd (SP.ps (⟨seed, n, ps.map Pp.sh⟩ : SP)) p.id = some i from hf]; show (if k ∈ (getP (⟨seed, n, ps.map Pp.sh⟩ : SP) i).holds then (9 : Int) else 0) = 9; rw [hg9]; exact if_pos (of_decide_eq_true hb9)
            have hE : holdsE (⟨seed, n, ps.map Pp.sh⟩ : SP) p.id k = 9 := by exact hv
            have hA : holdsA (⟨seed, n, ps.map Pp.sh⟩ : SP) p.id k = (⟨seed, n, ps.map Pp.sh⟩ : SP) := by unfold holdsA; rw [hE]; exact if_neg (by decide)
            rw [hE]
            exact ⟨⟨g, mg, dp, dc, ep, ec, seed, n, ps⟩, rfl, hA.symm, rfl, (S.big (L := [_, _, _, _, _]) ((S.lstBack (F := PeI) (S.big (L := [_, _, _]) (H8.takes [0, 1, 2, 3, 4, 6, 7, 5, 8] (by decide))) hp).takes [1, 2, 3, 4, 0, 5] (by decide)))⟩
          · skip
            refine g_cond_f rfl hb9 ?_
            refine g_skip ?_
            refine g_in ?_
            refine g_then ?_
            refine g_seq ?_
            refine g_region ?_
            refine l_of (s_val (v := .pointer (some ⟨p.b, 0, none⟩)) (wt0 rfl) rfl rfl (x_move rfl rfl) ?_)
            refine l_of (s_val (v := .pointer (some ⟨p.b, 0, none⟩)) (wt0 rfl) rfl rfl (x_nilCheck rfl rfl) ?_)
            refine l_of (s_val (v := .pointer (some ⟨p.b, 1, none⟩)) (wt0 rfl) rfl rfl (x_fieldAddr rfl rfl fo58_1 rfl) ?_)
            refine l_of (s_val (v := .map (some p.hm)) (wt0 rfl) rfl rfl (x_load1 H8 0 rfl rfl Tryd.underlying56 rfl rfl rfl) ?_)
            refine l_of (s_val (v := .int .i64 k) (wt0 rfl) rfl rfl (x_move rfl rfl) ?_)
            refine l_of (s_mapUpdate (x := k) (a := true) (intTy Tryd.underlying56 Tryd.underlying3) H8 2 (wt0 rfl) rfl rfl rfl rfl rfl rfl (hk) ?_)
            intro wq10 H11
            replace H11 : S wq10 [Ob p.b (.cells #[.slice p.tp p.told.length p.tc, .map (some p.hm)] 58 (0, 0)), Rw 3 1 p.tp p.told.length p.tc (fl intL p.told), Mp (Value.int .i64) Value.bool okI p.hm (upM (hMap p.holds) k true), (Lst PeI (ps.eraseIdx i)), Ob g (.cells #[.slice dp n dc, .slice ep n ec, .string seed, .map (some mg)] 49 (0, 0)), Mp (Value.int .i64) ptV okI mg (peerM ps), Rw 3 1 dp n dc (fl intL (cntL n (tcF (ps.map Pp.sh)))), Rw 3 1 ep n ec (fl intL (cntL n (hcF (ps.map Pp.sh)))), Old w (fps [(XM.I ⟨g, mg, dp, dc, ep, ec, seed, n, ps⟩)])] := H11
            refine g_nil ?_
            refine g_then ?_
            refine g_seq ?_
            refine g_region ?_
            refine l_of (s_val (v := .pointer (some ⟨g, 0, none⟩)) (wt0 rfl) rfl rfl (x_move rfl rfl) ?_)
            refine l_of (s_val (v := .pointer (some ⟨g, 0, none⟩)) (wt0 rfl) rfl rfl (x_nilCheck rfl rfl) ?_)
            refine l_of (s_val (v := .pointer (some ⟨g, 0, none⟩)) (wt0 rfl) rfl rfl (x_fieldAddr rfl rfl fo49_0 rfl) ?_)
            refine l_of (s_val (v := .pointer (some ⟨g, 1, none⟩)) (wt0 rfl) rfl rfl (x_fieldAddr rfl rfl fo46_1 rfl) ?_)
            refine l_of (s_val (v := .slice ep n ec) (wt0 rfl) rfl rfl (x_load1 H11 4 rfl rfl Tryd.underlying35 rfl rfl rfl) ?_)
            refine l_of (s_val (v := .int .i64 k) (wt0 rfl) rfl rfl (x_move rfl rfl) ?_)
            refine l_of (s_val (v := .pointer ((ep).map fun q => q.add (((k).toNat) * 1))) (wt0 rfl) rfl rfl (x_idxR ((k).toNat) (H11.rwReads (k := 7) rfl) rfl rfl rfl Tryd.underlying35 sz3 (by omega)) ?_)
            have hlq := (H11.rwReads (k := 7) rfl).lenL intE
            obtain ⟨x12, hx12⟩ := ex_at (l := (cntL n (hcF (ps.map Pp.sh)))) (j := ((k).toNat)) (by omega)
            clear hlq
            have hyx12 := cntL_at hx12
            have hzx12 := hcN_le (ps.map Pp.sh) (((k).toNat) : Nat)
            unfold hcF at hyx12
            rw [List.length_map] at hzx12
            refine l_of (s_val (v := .int .i64 x12) (wt0 rfl) rfl rfl (x_loadR1 ((k).toNat) (H11.rwReads (k := 7) rfl) (by omega) rfl rfl Tryd.underlying3 rfl (intE.flAt1 hx12 rfl)) ?_)
            refine l_of (s_val (v := .int .i64 (x12 + 1)) (wt0 rfl) rfl rfl (x_bin rfl rfl rfl (b_add (w64 (by omega)))) ?_)
            refine l_of (s_val (v := .pointer ((ep).map fun q => q.add (((k).toNat) * 1))) (wt0 rfl) rfl rfl (x_idxR ((k).toNat) (H11.rwReads (k := 7) rfl) rfl rfl rfl Tryd.underlying35 sz3 (by omega)) ?_)
            refine l_of (s_stoL (j := ((k).toNat)) intE (x12 + 1) H11 7 (wt0 rfl) rfl rfl rfl rfl rfl rfl sz3 (by omega) ?_)
            intro wq13 H14
            replace H14 : S wq13 [Ob p.b (.cells #[.slice p.tp p.told.length p.tc, .map (some p.hm)] 58 (0, 0)), Rw 3 1 p.tp p.told.length p.tc (fl intL p.told), Mp (Value.int .i64) Value.bool okI p.hm (upM (hMap p.holds) k true), (Lst PeI (ps.eraseIdx i)), Ob g (.cells #[.slice dp n dc, .slice ep n ec, .string seed, .map (some mg)] 49 (0, 0)), Mp (Value.int .i64) ptV okI mg (peerM ps), Rw 3 1 dp n dc (fl intL (cntL n (tcF (ps.map Pp.sh)))), Rw 3 1 ep n ec (fl intL ((cntL n (hcF (ps.map Pp.sh))).set ((k).toNat) (x12 + 1))), Old w (fps [(XM.I ⟨g, mg, dp, dc, ep, ec, seed, n, ps⟩)])] := H14
            refine g_nil ?_
            refine g_then ?_
            refine g_weak [] trivial ?_
            refine g_seq ?_
            refine g_region ?_
            refine l_of (s_val (v := .int .i64 0) (wt0 rfl) rfl rfl (x_assign rfl rfl) ?_)
            refine g_nil ?_
            refine g_then ?_
            refine g_ret ?_
            refine fin_ret [.tmp 6] [.int .i64 0] rfl ⟨rfl, trivial⟩ ?_
            have hnk : k ∉ p.sh.holds := of_decide_eq_false hb9
            have hv : holdsE (⟨seed, n, ps.map Pp.sh⟩ : SP) p.id k = 0 := by unfold holdsE; rw [if_neg (show ¬ (p.id < 0 ∨ k < 0 ∨ (SP.n (⟨seed, n, ps.map Pp.sh⟩ : SP) : Int) ≤ k) from (by show ¬ (p.id < 0 ∨ k < 0 ∨ (n : Int) ≤ k); omega)), show fnd (SP.ps (⟨seed, n, ps.map Pp.sh⟩ : SP)) p.id = some i from hf]; show (if k ∈ (getP (⟨seed, n, ps.map Pp.sh⟩ : SP) i).holds then (9 : Int) else 0) = 0; rw [hg9]; exact if_neg hnk
            have hA : holdsA (⟨seed, n, ps.map Pp.sh⟩ : SP) p.id k = ⟨seed, n, (ps.set i ({ p with holds := p.holds ++ [k] } : Pp)).map Pp.sh⟩ := by unfold holdsA; rw [if_pos hv, show fnd (SP.ps (⟨seed, n, ps.map Pp.sh⟩ : SP)) p.id = some i from hf, List.map_set]; show (⟨seed, n, (ps.map Pp.sh).set i { getP (⟨seed, n, ps.map Pp.sh⟩ : SP) i with holds := (getP (⟨seed, n, ps.map Pp.sh⟩ : SP) i).holds ++ [k] }⟩ : SP) = _; rw [hg9]; rfl
            have e1 : ((cntL n (hcF (ps.map Pp.sh))).set ((k).toNat) (x12 + 1)) = cntL n (hcF ((ps.set i ({ p with holds := p.holds ++ [k] } : Pp)).map Pp.sh)) := by rw [List.map_set]; exact inc_hc hq hnk (by omega) hx12
            have e2 : (cntL n (tcF (ps.map Pp.sh))) = cntL n (tcF ((ps.set i ({ p with holds := p.holds ++ [k] } : Pp)).map Pp.sh)) := by rw [List.map_set]; exact (tcF_put (r := ({ p with holds := p.holds ++ [k] } : Pp).sh) hq rfl).symm
            have e3 : peerM ps = peerM (ps.set i ({ p with holds := p.holds ++ [k] } : Pp)) := (peerM_put (r := ({ p with holds := p.holds ++ [k] } : Pp)) hnd hp rfl rfl).symm
            rw [e1, e2, e3, hMap_up] at H14
            rw [hv]
            have h9 := S.lstIn (F := PeI) (x := ({ p with holds := p.holds ++ [k] } : Pp)) (S.big (L := [_, _, _]) (H14.takes [0, 1, 2, 3, 4, 6, 7, 5, 8] (by decide))) (List.getElem?_eq_some_iff.1 hp).1
            exact ⟨⟨g, mg, dp, dc, ep, ec, seed, n, ps.set i ({ p with holds := p.holds ++ [k] } : Pp)⟩, rfl, hA.symm, rfl, S.big (L := [_, _, _, _, _]) (h9.takes [1, 2, 3, 4, 0, 5] (by decide))⟩
        · skip
          replace H5 : S wq4 [Ob g (.cells #[.slice dp n dc, .slice ep n ec, .string seed, .map (some mg)] 49 (0, 0)), Mp (Value.int .i64) ptV okI mg (peerM ps), Rw 3 1 dp n dc (fl intL (cntL n (tcF (ps.map Pp.sh)))), Rw 3 1 ep n ec (fl intL (cntL n (hcF (ps.map Pp.sh)))), (Lst PeI ps), Old w (fps [(XM.I ⟨g, mg, dp, dc, ep, ec, seed, n, ps⟩)])] := H0.absorbI (new := [Ob g (.cells #[.slice dp n dc, .slice ep n ec, .string seed, .map (some mg)] 49 (0, 0)), Mp (Value.int .i64) ptV okI mg (peerM ps)]) [0, 3] H5
          have hf : fnd (ps.map Pp.sh) id = none := by cases h9 : fnd (ps.map Pp.sh) id with | none => rfl | some i9 => have := hPI.neg (id := id) h9; omega
          refine b_ret rfl rfl ?_
          refine l_of (s_val (v := .tuple #[.pointer none, .int .i64 7]) (wt0 rfl) rfl rfl (x_move rfl rfl) ?_)
          refine l_of (s_val (v := .pointer none) (wt0 rfl) rfl rfl (x_extract rfl rfl rfl) ?_)
          refine l_of (s_val (v := .int .i64 7) (wt0 rfl) rfl rfl (x_extract rfl rfl rfl) ?_)
          refine l_of (s_val (v := .pointer none) (wt0 rfl) rfl rfl (x_assign rfl rfl) ?_)
          refine l_of (s_val (v := .int .i64 7) (wt0 rfl) rfl rfl (x_assign rfl rfl) ?_)
          refine g_nil ?_
          refine g_then ?_
          refine g_seq ?_
          refine g_block ?_
          refine g_seq ?_
          refine g_region ?_
          refine l_of (s_val (v := .int .i64 7) (wt0 rfl) rfl rfl (x_move rfl rfl) ?_)
          refine l_of (s_val (v := .bool (!decide ((7 : Int) = 0))) (wt0 rfl) rfl rfl (x_bin rfl rfl rfl b_neq) ?_)
          refine l_of (s_val (v := .bool (!decide ((7 : Int) = 0))) (wt0 rfl) rfl rfl (x_assign rfl rfl) ?_)
          refine g_nil ?_
          refine g_then ?_
          refine g_cond_t rfl (by decide) ?_
          refine g_seq ?_
          refine g_region ?_
          refine l_of (s_val (v := .int .i64 7) (wt0 rfl) rfl rfl (x_move rfl rfl) ?_)
          refine l_of (s_val (v := .int .i64 7) (wt0 rfl) rfl rfl (x_assign rfl rfl) ?_)
          refine g_nil ?_
          refine g_then ?_
          refine g_weak [(6, .int .i64 7)] ⟨rfl, trivial⟩ ?_
          refine g_ret ?_
          refine g_in_ret ?_
          refine g_then_ret ?_
          refine fin_ret [.tmp 6] [.int .i64 7] rfl ⟨rfl, trivial⟩ ?_
          omega
        · skip
          replace H5 : S wq4 [Ob g (.cells #[.slice dp n dc, .slice ep n ec, .string seed, .map (some mg)] 49 (0, 0)), Mp (Value.int .i64) ptV okI mg (peerM ps), Rw 3 1 dp n dc (fl intL (cntL n (tcF (ps.map Pp.sh)))), Rw 3 1 ep n ec (fl intL (cntL n (hcF (ps.map Pp.sh)))), (Lst PeI ps), Old w (fps [(XM.I ⟨g, mg, dp, dc, ep, ec, seed, n, ps⟩)])] := H0.absorbI (new := [Ob g (.cells #[.slice dp n dc, .slice ep n ec, .string seed, .map (some mg)] 49 (0, 0)), Mp (Value.int .i64) ptV okI mg (peerM ps)]) [0, 3] H5
          have hf : fnd (ps.map Pp.sh) id = none := peerM_none hMb
          refine b_ret rfl rfl ?_
          refine l_of (s_val (v := .tuple #[.pointer none, .int .i64 8]) (wt0 rfl) rfl rfl (x_move rfl rfl) ?_)
          refine l_of (s_val (v := .pointer none) (wt0 rfl) rfl rfl (x_extract rfl rfl rfl) ?_)
          refine l_of (s_val (v := .int .i64 8) (wt0 rfl) rfl rfl (x_extract rfl rfl rfl) ?_)
          refine l_of (s_val (v := .pointer none) (wt0 rfl) rfl rfl (x_assign rfl rfl) ?_)
          refine l_of (s_val (v := .int .i64 8) (wt0 rfl) rfl rfl (x_assign rfl rfl) ?_)
          refine g_nil ?_
          refine g_then ?_
          refine g_seq ?_
          refine g_block ?_
          refine g_seq ?_
          refine g_region ?_
          refine l_of (s_val (v := .int .i64 8) (wt0 rfl) rfl rfl (x_move rfl rfl) ?_)
          refine l_of (s_val (v := .bool (!decide ((8 : Int) = 0))) (wt0 rfl) rfl rfl (x_bin rfl rfl rfl b_neq) ?_)
          refine l_of (s_val (v := .bool (!decide ((8 : Int) = 0))) (wt0 rfl) rfl rfl (x_assign rfl rfl) ?_)
          refine g_nil ?_
          refine g_then ?_
          refine g_cond_t rfl (by decide) ?_
          refine g_seq ?_
          refine g_region ?_
          refine l_of (s_val (v := .int .i64 8) (wt0 rfl) rfl rfl (x_move rfl rfl) ?_)
          refine l_of (s_val (v := .int .i64 8) (wt0 rfl) rfl rfl (x_assign rfl rfl) ?_)
          refine g_nil ?_
          refine g_then ?_
          refine g_weak [(6, .int .i64 8)] ⟨rfl, trivial⟩ ?_
          refine g_ret ?_
          refine g_in_ret ?_
          refine g_then_ret ?_
          refine fin_ret [.tmp 6] [.int .i64 8] rfl ⟨rfl, trivial⟩ ?_
          have hv : holdsE (⟨seed, n, ps.map Pp.sh⟩ : SP) id k = 8 := by unfold holdsE; rw [if_neg (show ¬ (id < 0 ∨ k < 0 ∨ (SP.n (⟨seed, n, ps.map Pp.sh⟩ : SP) : Int) ≤ k) from (by show ¬ (id < 0 ∨ k < 0 ∨ (n : Int) ≤ k); omega)), show fnd (SP.ps (⟨seed, n, ps.map Pp.sh⟩ : SP)) id = none from hf]
          have hE : holdsE (⟨seed, n, ps.map Pp.sh⟩ : SP) id k = 8 := by exact hv
          have hA : holdsA (⟨seed, n, ps.map Pp.sh⟩ : SP) id k = (⟨seed, n, ps.map Pp.sh⟩ : SP) := by unfold holdsA; rw [hE]; exact if_neg (by decide)
          rw [hE]
          exact ⟨⟨g, mg, dp, dc, ep, ec, seed, n, ps⟩, rfl, hA.symm, rfl, (S.big (L := [_, _, _, _, _]) (H5.takes [0, 2, 3, 1, 4, 5] (by decide)))⟩
set_option maxRecDepth 20000 in
set_option maxHeartbeats 4000000 in
set_option maxRecDepth 20000 in
set_option maxHeartbeats 4000000 in
theorem come_s (j g mg : Nat) (dp : Option Addr) (dc : Nat) (ep : Option Addr) (ec : Nat) (seed : ByteArray) (n : Nat) (ps : List Pp) (hX : PI j (⟨seed, n, ps.map Pp.sh⟩ : SP)) (hj : j ≤ 1000) (id : Int) (hid : okI id)  (w : World) (HS : S w [(XM.I ⟨g, mg, dp, dc, ep, ec, seed, n, ps⟩)]) : Calls Tryd.prog 7 #[.pointer (some ⟨g, 0, none⟩), .int .i64 id] w fun e w' => ∃ Y : XM, Y.g = g ∧ Y.A = comeA (⟨seed, n, ps.map Pp.sh⟩ : SP) id ∧ e = .returned (.int .i64 (comeE (⟨seed, n, ps.map Pp.sh⟩ : SP) id)) ∧ S w' ([Y.I] ++ [Old w (fps [(XM.I ⟨g, mg, dp, dc, ep, ec, seed, n, ps⟩)])]) := by
  have H00 := HS.beginI
  have H0 : S w ([(XM.I ⟨g, mg, dp, dc, ep, ec, seed, n, ps⟩), Old w (fps [(XM.I ⟨g, mg, dp, dc, ep, ec, seed, n, ps⟩)])]) := H00
  have hPI : PI j (⟨seed, n, ps.map Pp.sh⟩ : SP) := hX
  have hnd : (ps.map Pp.id).Nodup := by have := hPI.nd; rwa [sh_ids] at this
  have hps : ps.length ≤ j := by have := hPI.len; simpa using this
  have hn30 : n ≤ 30 := hPI.n30
  replace H0 : S w [Ob g (.cells #[.slice dp n dc, .slice ep n ec, .string seed, .map (some mg)] 49 (0, 0)), Rw 3 1 dp n dc (fl intL (cntL n (tcF (ps.map Pp.sh)))), Rw 3 1 ep n ec (fl intL (cntL n (hcF (ps.map Pp.sh)))), Mp (Value.int .i64) ptV okI mg (peerM ps), (Lst PeI ps), Old w (fps [(XM.I ⟨g, mg, dp, dc, ep, ec, seed, n, ps⟩)])] := S.unbig H0
  have hcD : (cntL n (tcF (ps.map Pp.sh))).length = n := cntL_len _ _
  have hcE : (cntL n (hcF (ps.map Pp.sh))).length = n := cntL_len _ _
  refine enter 27 Tryd.func7 rfl rfl rfl ?_
  refine g_weak [(0, .pointer (some ⟨g, 0, none⟩)), (1, .int .i64 id)] ⟨rfl, rfl, trivial⟩ ?_
  refine g_seq ?_
  refine g_region ?_
  refine l_of (s_val (v := .int .i64 0) (wt0 rfl) rfl rfl (x_assign rfl rfl) ?_)
  refine g_nil ?_
  refine g_then ?_
  refine g_seq ?_
  refine g_region ?_
  refine l_of (s_val (v := .pointer (some ⟨g, 0, none⟩)) (wt0 rfl) rfl rfl (x_move rfl rfl) ?_)
  refine l_of (s_val (v := .int .i64 id) (wt0 rfl) rfl rfl (x_move rfl rfl) ?_)
  refine l_of (s_call (wt0 rfl) (x_call' rfl rfl cl24) (find_s g mg dp dc ep ec seed n (peerM ps) id hid _ (H0.takes [0, 3] (by decide))) ?_)
  rintro ee3 wq1 hor4
  rcases hor4 with ⟨b, h0i, hMb, rfl, H2⟩ | ⟨h0i, rfl, H2⟩ | ⟨h0i, hMb, rfl, H2⟩
  · skip
    replace H2 : S wq1 [Ob g (.cells #[.slice dp n dc, .slice ep n ec, .string seed, .map (some mg)] 49 (0, 0)), Mp (Value.int .i64) ptV okI mg (peerM ps), Rw 3 1 dp n dc (fl intL (cntL n (tcF (ps.map Pp.sh)))), Rw 3 1 ep n ec (fl intL (cntL n (hcF (ps.map Pp.sh)))), (Lst PeI ps), Old w (fps [(XM.I ⟨g, mg, dp, dc, ep, ec, seed, n, ps⟩)])] := H0.absorbI (new := [Ob g (.cells #[.slice dp n dc, .slice ep n ec, .string seed, .map (some mg)] 49 (0, 0)), Mp (Value.int .i64) ptV okI mg (peerM ps)]) [0, 3] H2
    obtain ⟨i, p, hp, hpi, hpb⟩ := peerM_some hMb
    subst hpb
    subst hpi
    have hq : (ps.map Pp.sh)[i]? = some p.sh := by rw [List.getElem?_map, hp]; rfl
    have hf : fnd (ps.map Pp.sh) p.id = some i := fnd_of hPI.nd hq rfl
    have hpk := hPI.at (p := p.sh) hq
    have hg9 : getP (⟨seed, n, ps.map Pp.sh⟩ : SP) i = p.sh := getP_at hq
    have htl : p.told.length ≤ j := hpk.2.1
    have hinr : ∀ k ∈ p.holds, 0 ≤ k ∧ k < (n : Int) := hpk.2.2.2.2.2
    have hinb : ∀ k ∈ p.holds, okI k := fun k hk => by have := hinr k hk; exact ⟨by omega, by omega⟩
    have H5 : S wq1 [Ob p.b (.cells #[.slice p.tp p.told.length p.tc, .map (some p.hm)] 58 (0, 0)), Rw 3 1 p.tp p.told.length p.tc (fl intL p.told), Mp (Value.int .i64) Value.bool okI p.hm (hMap p.holds), (Lst PeI (ps.eraseIdx i)), Ob g (.cells #[.slice dp n dc, .slice ep n ec, .string seed, .map (some mg)] 49 (0, 0)), Mp (Value.int .i64) ptV okI mg (peerM ps), Rw 3 1 dp n dc (fl intL (cntL n (tcF (ps.map Pp.sh)))), Rw 3 1 ep n ec (fl intL (cntL n (hcF (ps.map Pp.sh)))), Old w (fps [(XM.I ⟨g, mg, dp, dc, ep, ec, seed, n, ps⟩)])] := S.unbig (L := [_, _, _]) (S.lstOut (F := PeI) (H2.takes [4, 0, 1, 2, 3, 5] (by decide)) hp)
    refine b_ret rfl rfl ?_
    refine l_of (s_val (v := .tuple #[.pointer (some ⟨p.b, 0, none⟩), .int .i64 0]) (wt0 rfl) rfl rfl (x_move rfl rfl) ?_)
    refine l_of (s_val (v := .pointer (some ⟨p.b, 0, none⟩)) (wt0 rfl) rfl rfl (x_extract rfl rfl rfl) ?_)
    refine l_of (s_val (v := .int .i64 0) (wt0 rfl) rfl rfl (x_extract rfl rfl rfl) ?_)
    refine l_of (s_val (v := .pointer (some ⟨p.b, 0, none⟩)) (wt0 rfl) rfl rfl (x_assign rfl rfl) ?_)
    refine l_of (s_val (v := .int .i64 0) (wt0 rfl) rfl rfl (x_assign rfl rfl) ?_)
    refine g_nil ?_
    refine g_then ?_
    refine g_seq ?_
    refine g_seq ?_
    refine g_region ?_
    refine l_of (s_val (v := .int .i64 0) (wt0 rfl) rfl rfl (x_move rfl rfl) ?_)
    refine g_nil ?_
    refine g_then ?_
    refine g_block ?_
    refine g_seq ?_
    refine g_region ?_
    refine l_of (s_val (v := .bool (decide ((0 : Int) = 0))) (wt0 rfl) rfl rfl (x_bin rfl rfl rfl b_eql) ?_)
    refine l_of (s_val (v := .bool (decide ((0 : Int) = 0))) (wt0 rfl) rfl rfl (x_assign rfl rfl) ?_)
    refine g_nil ?_
    refine g_then ?_
    refine g_cond_t rfl (decide_eq_true rfl) ?_
    refine g_seq ?_
    refine g_region ?_
    refine l_of (s_val (v := .int .i64 6) (wt0 rfl) rfl rfl (x_assign rfl rfl) ?_)
    refine g_nil ?_
    refine g_then ?_
    refine g_weak [(4, .int .i64 6)] ⟨rfl, trivial⟩ ?_
    refine g_ret ?_
    refine g_in_ret ?_
    refine g_then_ret ?_
    refine fin_ret [.tmp 4] [.int .i64 6] rfl ⟨rfl, trivial⟩ ?_
    have hv : comeE (⟨seed, n, ps.map Pp.sh⟩ : SP) p.id = 6 := by unfold comeE; rw [show fnd (SP.ps (⟨seed, n, ps.map Pp.sh⟩ : SP)) p.id = some i from hf]
    have hE : comeE (⟨seed, n, ps.map Pp.sh⟩ : SP) p.id = 6 := by exact hv
    have hA : comeA (⟨seed, n, ps.map Pp.sh⟩ : SP) p.id = (⟨seed, n, ps.map Pp.sh⟩ : SP) := by unfold comeA; rw [hE]; exact if_neg (by decide)
    rw [hE]
    exact ⟨⟨g, mg, dp, dc, ep, ec, seed, n, ps⟩, rfl, hA.symm, rfl, (S.big (L := [_, _, _, _, _]) ((S.lstBack (F := PeI) (S.big (L := [_, _, _]) (H5.takes [0, 1, 2, 3, 4, 6, 7, 5, 8] (by decide))) hp).takes [1, 2, 3, 4, 0, 5] (by decide)))⟩
  · skip
    replace H2 : S wq1 [Ob g (.cells #[.slice dp n dc, .slice ep n ec, .string seed, .map (some mg)] 49 (0, 0)), Mp (Value.int .i64) ptV okI mg (peerM ps), Rw 3 1 dp n dc (fl intL (cntL n (tcF (ps.map Pp.sh)))), Rw 3 1 ep n ec (fl intL (cntL n (hcF (ps.map Pp.sh)))), (Lst PeI ps), Old w (fps [(XM.I ⟨g, mg, dp, dc, ep, ec, seed, n, ps⟩)])] := H0.absorbI (new := [Ob g (.cells #[.slice dp n dc, .slice ep n ec, .string seed, .map (some mg)] 49 (0, 0)), Mp (Value.int .i64) ptV okI mg (peerM ps)]) [0, 3] H2
    have hf : fnd (ps.map Pp.sh) id = none := by cases h9 : fnd (ps.map Pp.sh) id with | none => rfl | some i9 => have := hPI.neg (id := id) h9; omega
    refine b_ret rfl rfl ?_
    refine l_of (s_val (v := .tuple #[.pointer none, .int .i64 7]) (wt0 rfl) rfl rfl (x_move rfl rfl) ?_)
    refine l_of (s_val (v := .pointer none) (wt0 rfl) rfl rfl (x_extract rfl rfl rfl) ?_)
    refine l_of (s_val (v := .int .i64 7) (wt0 rfl) rfl rfl (x_extract rfl rfl rfl) ?_)
    refine l_of (s_val (v := .pointer none) (wt0 rfl) rfl rfl (x_assign rfl rfl) ?_)
    refine l_of (s_val (v := .int .i64 7) (wt0 rfl) rfl rfl (x_assign rfl rfl) ?_)
    refine g_nil ?_
    refine g_then ?_
    refine g_seq ?_
    refine g_seq ?_
    refine g_region ?_
    refine l_of (s_val (v := .int .i64 7) (wt0 rfl) rfl rfl (x_move rfl rfl) ?_)
    refine g_nil ?_
    refine g_then ?_
    refine g_block ?_
    refine g_seq ?_
    refine g_region ?_
    refine l_of (s_val (v := .bool (decide ((7 : Int) = 0))) (wt0 rfl) rfl rfl (x_bin rfl rfl rfl b_eql) ?_)
    refine l_of (s_val (v := .bool (decide ((7 : Int) = 0))) (wt0 rfl) rfl rfl (x_assign rfl rfl) ?_)
    refine g_nil ?_
    refine g_then ?_
    refine g_cond_f rfl (by decide) ?_
    refine g_seq ?_
    refine g_region ?_
    refine l_of (s_val (v := .bool (decide ((7 : Int) = 8))) (wt0 rfl) rfl rfl (x_bin rfl rfl rfl b_eql) ?_)
    refine l_of (s_val (v := .bool (decide ((7 : Int) = 8))) (wt0 rfl) rfl rfl (x_assign rfl rfl) ?_)
    refine g_nil ?_
    refine g_then ?_
    refine g_weak [(0, .pointer (some ⟨g, 0, none⟩)), (1, .int .i64 id), (6, .int .i64 7), (16, .bool (decide ((7 : Int) = 8)))] ⟨rfl, rfl, rfl, rfl, trivial⟩ ?_
    refine g_cond_f rfl (by decide) ?_
    refine g_skip ?_
    refine g_in ?_
    refine g_then ?_
    refine g_seq ?_
    refine g_region ?_
    refine l_of (s_val (v := .int .i64 7) (wt0 rfl) rfl rfl (x_move rfl rfl) ?_)
    refine l_of (s_val (v := .int .i64 7) (wt0 rfl) rfl rfl (x_assign rfl rfl) ?_)
    refine g_nil ?_
    refine g_then ?_
    refine g_ret ?_
    refine fin_ret [.tmp 4] [.int .i64 7] rfl ⟨rfl, trivial⟩ ?_
    have hv : comeE (⟨seed, n, ps.map Pp.sh⟩ : SP) id = 7 := by unfold comeE; rw [show fnd (SP.ps (⟨seed, n, ps.map Pp.sh⟩ : SP)) id = none from hf]; exact if_pos h0i
    have hE : comeE (⟨seed, n, ps.map Pp.sh⟩ : SP) id = 7 := by exact hv
    have hA : comeA (⟨seed, n, ps.map Pp.sh⟩ : SP) id = (⟨seed, n, ps.map Pp.sh⟩ : SP) := by unfold comeA; rw [hE]; exact if_neg (by decide)
    rw [hE]
    exact ⟨⟨g, mg, dp, dc, ep, ec, seed, n, ps⟩, rfl, hA.symm, rfl, (S.big (L := [_, _, _, _, _]) (H2.takes [0, 2, 3, 1, 4, 5] (by decide)))⟩
  · skip
    replace H2 : S wq1 [Ob g (.cells #[.slice dp n dc, .slice ep n ec, .string seed, .map (some mg)] 49 (0, 0)), Mp (Value.int .i64) ptV okI mg (peerM ps), Rw 3 1 dp n dc (fl intL (cntL n (tcF (ps.map Pp.sh)))), Rw 3 1 ep n ec (fl intL (cntL n (hcF (ps.map Pp.sh)))), (Lst PeI ps), Old w (fps [(XM.I ⟨g, mg, dp, dc, ep, ec, seed, n, ps⟩)])] := H0.absorbI (new := [Ob g (.cells #[.slice dp n dc, .slice ep n ec, .string seed, .map (some mg)] 49 (0, 0)), Mp (Value.int .i64) ptV okI mg (peerM ps)]) [0, 3] H2
    have hf : fnd (ps.map Pp.sh) id = none := peerM_none hMb
    refine b_ret rfl rfl ?_
    refine l_of (s_val (v := .tuple #[.pointer none, .int .i64 8]) (wt0 rfl) rfl rfl (x_move rfl rfl) ?_)
    refine l_of (s_val (v := .pointer none) (wt0 rfl) rfl rfl (x_extract rfl rfl rfl) ?_)
    refine l_of (s_val (v := .int .i64 8) (wt0 rfl) rfl rfl (x_extract rfl rfl rfl) ?_)
    refine l_of (s_val (v := .pointer none) (wt0 rfl) rfl rfl (x_assign rfl rfl) ?_)
    refine l_of (s_val (v := .int .i64 8) (wt0 rfl) rfl rfl (x_assign rfl rfl) ?_)
    refine g_nil ?_
    refine g_then ?_
    refine g_seq ?_
    refine g_seq ?_
    refine g_region ?_
    refine l_of (s_val (v := .int .i64 8) (wt0 rfl) rfl rfl (x_move rfl rfl) ?_)
    refine g_nil ?_
    refine g_then ?_
    refine g_block ?_
    refine g_seq ?_
    refine g_region ?_
    refine l_of (s_val (v := .bool (decide ((8 : Int) = 0))) (wt0 rfl) rfl rfl (x_bin rfl rfl rfl b_eql) ?_)
    refine l_of (s_val (v := .bool (decide ((8 : Int) = 0))) (wt0 rfl) rfl rfl (x_assign rfl rfl) ?_)
    refine g_nil ?_
    refine g_then ?_
    refine g_cond_f rfl (by decide) ?_
    refine g_seq ?_
    refine g_region ?_
    refine l_of (s_val (v := .bool (decide ((8 : Int) = 8))) (wt0 rfl) rfl rfl (x_bin rfl rfl rfl b_eql) ?_)
    refine l_of (s_val (v := .bool (decide ((8 : Int) = 8))) (wt0 rfl) rfl rfl (x_assign rfl rfl) ?_)
    refine g_nil ?_
    refine g_then ?_
    refine g_weak [(0, .pointer (some ⟨g, 0, none⟩)), (1, .int .i64 id), (6, .int .i64 8), (16, .bool (decide ((8 : Int) = 8)))] ⟨rfl, rfl, rfl, rfl, trivial⟩ ?_
    refine g_cond_t rfl (decide_eq_true rfl) ?_
    refine g_seq ?_
    refine g_region ?_
    refine l_of (s_val (v := .pointer (some ⟨g, 0, none⟩)) (wt0 rfl) rfl rfl (x_move rfl rfl) ?_)
    refine l_of (s_val (v := .pointer (some ⟨g, 0, none⟩)) (wt0 rfl) rfl rfl (x_nilCheck rfl rfl) ?_)
    refine l_of (s_val (v := .pointer (some ⟨g, 3, none⟩)) (wt0 rfl) rfl rfl (x_fieldAddr rfl rfl fo49_2 rfl) ?_)
    refine l_of (s_val (v := .map (some mg)) (wt0 rfl) rfl rfl (x_load1 H2 0 rfl rfl Tryd.underlying47 rfl rfl rfl) ?_)
    refine l_of (s_val (v := .int .i64 id) (wt0 rfl) rfl rfl (x_move rfl rfl) ?_)
    refine l_of (s_makeMap (α := Bool) (Value.int .i64) Value.bool okI H2 (wt0 rfl) rfl rfl rfl ?_)
    intro mg6 wq7 H8
    replace H8 : S wq7 [Mp (Value.int .i64) Value.bool okI mg6 (fun _ => none), Ob g (.cells #[.slice dp n dc, .slice ep n ec, .string seed, .map (some mg)] 49 (0, 0)), Mp (Value.int .i64) ptV okI mg (peerM ps), Rw 3 1 dp n dc (fl intL (cntL n (tcF (ps.map Pp.sh)))), Rw 3 1 ep n ec (fl intL (cntL n (hcF (ps.map Pp.sh)))), (Lst PeI ps), Old w (fps [(XM.I ⟨g, mg, dp, dc, ep, ec, seed, n, ps⟩)])] := H8
    refine l_of (s_val (v := .agg #[.slice none 0 0, .map (some mg6)]) (wt0 rfl) rfl rfl (x_build (vs := [.map (some mg6)]) rfl rfl (cells := #[.slice none 0 0, .map (some mg6)]) (by kernel_rfl)) ?_)
    refine l_of (s_box H8 (wt0 rfl) rfl rfl rfl rfl ?_)
    intro g9 wq10 H11
    refine l_of (s_mapUpdate (x := id) (a := g9) (intTy Tryd.underlying47 Tryd.underlying3) H11 3 (wt0 rfl) rfl rfl rfl rfl rfl rfl (hid) ?_)
    intro wq12 H13
    replace H13 : S wq12 [Ob g9 (.cells #[.slice none 0 0, .map (some mg6)] 58 (0, 0)), Mp (Value.int .i64) Value.bool okI mg6 (fun _ => none), Ob g (.cells #[.slice dp n dc, .slice ep n ec, .string seed, .map (some mg)] 49 (0, 0)), Mp (Value.int .i64) ptV okI mg (upM (peerM ps) id g9), Rw 3 1 dp n dc (fl intL (cntL n (tcF (ps.map Pp.sh)))), Rw 3 1 ep n ec (fl intL (cntL n (hcF (ps.map Pp.sh)))), (Lst PeI ps), Old w (fps [(XM.I ⟨g, mg, dp, dc, ep, ec, seed, n, ps⟩)])] := H13
    refine g_nil ?_
    refine g_then ?_
    refine g_weak [] trivial ?_
    refine g_seq ?_
    refine g_region ?_
    refine l_of (s_val (v := .int .i64 0) (wt0 rfl) rfl rfl (x_assign rfl rfl) ?_)
    refine g_nil ?_
    refine g_then ?_
    refine g_ret ?_
    refine g_in_ret ?_
    refine g_then_ret ?_
    refine fin_ret [.tmp 4] [.int .i64 0] rfl ⟨rfl, trivial⟩ ?_
    have hv : comeE (⟨seed, n, ps.map Pp.sh⟩ : SP) id = 0 := by unfold comeE; rw [show fnd (SP.ps (⟨seed, n, ps.map Pp.sh⟩ : SP)) id = none from hf]; exact if_neg (by omega)
    have hA : comeA (⟨seed, n, ps.map Pp.sh⟩ : SP) id = ⟨seed, n, (ps ++ [(⟨id, g9, none, 0, [], mg6, []⟩ : Pp)]).map Pp.sh⟩ := by unfold comeA; rw [if_pos hv, List.map_append]; rfl
    have hn9 : ((ps ++ [(⟨id, g9, none, 0, [], mg6, []⟩ : Pp)]).map Pp.id).Nodup := by have h8 := (hPI.come id).nd; rw [hA] at h8; rwa [sh_ids] at h8
    have e2 : (cntL n (tcF (ps.map Pp.sh))) = cntL n (tcF ((ps ++ [(⟨id, g9, none, 0, [], mg6, []⟩ : Pp)]).map Pp.sh)) := by rw [List.map_append]; exact (tcF_new n _ id).symm
    have e1 : (cntL n (hcF (ps.map Pp.sh))) = cntL n (hcF ((ps ++ [(⟨id, g9, none, 0, [], mg6, []⟩ : Pp)]).map Pp.sh)) := by rw [List.map_append]; exact (hcF_new n _ id).symm
    have e3 : upM (peerM ps) id g9 = peerM (ps ++ [(⟨id, g9, none, 0, [], mg6, []⟩ : Pp)]) := peerM_snoc (r := (⟨id, g9, none, 0, [], mg6, []⟩ : Pp)) hn9
    rw [e3, e1, e2, hMap_nil] at H13
    have h8 := H13.nilFl 3 1 intL
    rw [hv]
    have h9 := S.lstSnoc (F := PeI) (x := (⟨id, g9, none, 0, [], mg6, []⟩ : Pp)) (S.big (L := [_, _, _]) (h8.takes [1, 0, 2, 7, 3, 5, 6, 4, 8] (by decide)))
    exact ⟨⟨g, mg, dp, dc, ep, ec, seed, n, ps ++ [(⟨id, g9, none, 0, [], mg6, []⟩ : Pp)]⟩, rfl, hA.symm, rfl, S.big (L := [_, _, _, _, _]) (h9.takes [1, 2, 3, 4, 0, 5] (by decide))⟩
theorem told_new {l : List Int} (hn : l.Nodup) {t : Nat} {x : Int} (hx : l[t]? = some x) : x ∉ l.take t := fun hm => by
  obtain ⟨k, hk⟩ := List.getElem?_of_mem hm
  have hkt : k < t := by
    have := (List.getElem?_eq_some_iff.1 hk).1
    rw [List.length_take] at this; omega
  rw [List.getElem?_take_of_lt hkt] at hk
  obtain ⟨h1, h2⟩ := List.getElem?_eq_some_iff.1 hk
  obtain ⟨h3, h4⟩ := List.getElem?_eq_some_iff.1 hx
  exact List.pairwise_iff_getElem.1 hn k t h1 h3 hkt (h2.trans h4.symm)
theorem hMap_v {l : List Int} {k : Int} {b : Bool} (h : hMap l k = some b) : b = true := by
  unfold hMap at h
  split at h
  · exact (Option.some.inj h).symm
  · cases h
theorem hMap_in {l : List Int} {k : Int} {b : Bool} (h : hMap l k = some b) : k ∈ l := by
  unfold hMap at h
  split at h
  · assumption
  · cases h
theorem dn_new {dn l : List Int} {rem : List (Int × Bool)} (hdn : ∀ k, k ∈ dn ↔ (k ∈ l ∧ (k, true) ∉ rem)) {q : Int × Bool} (hq : q ∈ rem) (hb : q.2 = true) : q.1 ∉ dn := fun h => ((hdn q.1).1 h).2 (by rw [← hb]; exact hq)
theorem dn_next {dn l : List Int} {rem rem' : List (Int × Bool)} (hdn : ∀ k, k ∈ dn ↔ (k ∈ l ∧ (k, true) ∉ rem)) {q : Int × Bool} (hm : ∀ r, r ∈ rem' ↔ r ∈ rem ∧ r ≠ q) (hl : q.1 ∈ l) (hb : q.2 = true) (hq : q ∈ rem) : ∀ k, k ∈ dn ++ [q.1] ↔ (k ∈ l ∧ (k, true) ∉ rem') := fun k => by
  rw [List.mem_append, List.mem_singleton, hdn, hm]
  constructor
  · rintro (⟨h1, h2⟩ | rfl)
    · exact ⟨h1, fun h => h2 h.1⟩
    · exact ⟨hl, fun h => h.2 (by rw [← hb])⟩
  · rintro ⟨h1, h2⟩
    by_cases h3 : k = q.1
    · exact .inr h3
    · exact .inl ⟨h1, fun h => h2 ⟨h, fun e => h3 (by rw [← e])⟩⟩
theorem dn_end {dn l : List Int} (hdn : ∀ k, k ∈ dn ↔ (k ∈ l ∧ (k, true) ∉ ([] : List (Int × Bool)))) : ∀ k, k ∈ dn ↔ k ∈ l := fun k => (hdn k).trans ⟨fun h => h.1, fun h => ⟨h, by simp⟩⟩
def goE (A : SP) (id : Int) : Int := findE A id
set_option maxRecDepth 20000 in
set_option maxHeartbeats 4000000 in
set_option maxRecDepth 20000 in
set_option maxHeartbeats 4000000 in
theorem go_s (j g mg : Nat) (dp : Option Addr) (dc : Nat) (ep : Option Addr) (ec : Nat) (seed : ByteArray) (n : Nat) (ps : List Pp) (hX : PI j (⟨seed, n, ps.map Pp.sh⟩ : SP)) (hj : j ≤ 1000) (id : Int) (hid : okI id)  (w : World) (HS : S w [(XM.I ⟨g, mg, dp, dc, ep, ec, seed, n, ps⟩)]) : Calls Tryd.prog 9 #[.pointer (some ⟨g, 0, none⟩), .int .i64 id] w fun e w' => ∃ Y : XM, Y.g = g ∧ Y.A = goA (⟨seed, n, ps.map Pp.sh⟩ : SP) id ∧ e = .returned (.int .i64 (goE (⟨seed, n, ps.map Pp.sh⟩ : SP) id)) ∧ S w' ([Y.I] ++ [Old w (fps [(XM.I ⟨g, mg, dp, dc, ep, ec, seed, n, ps⟩)])]) := by
  have H00 := HS.beginI
  have H0 : S w ([(XM.I ⟨g, mg, dp, dc, ep, ec, seed, n, ps⟩), Old w (fps [(XM.I ⟨g, mg, dp, dc, ep, ec, seed, n, ps⟩)])]) := H00
  have hPI : PI j (⟨seed, n, ps.map Pp.sh⟩ : SP) := hX
  have hnd : (ps.map Pp.id).Nodup := by have := hPI.nd; rwa [sh_ids] at this
  have hps : ps.length ≤ j := by have := hPI.len; simpa using this
  have hn30 : n ≤ 30 := hPI.n30
  replace H0 : S w [Ob g (.cells #[.slice dp n dc, .slice ep n ec, .string seed, .map (some mg)] 49 (0, 0)), Rw 3 1 dp n dc (fl intL (cntL n (tcF (ps.map Pp.sh)))), Rw 3 1 ep n ec (fl intL (cntL n (hcF (ps.map Pp.sh)))), Mp (Value.int .i64) ptV okI mg (peerM ps), (Lst PeI ps), Old w (fps [(XM.I ⟨g, mg, dp, dc, ep, ec, seed, n, ps⟩)])] := S.unbig H0
  have hcD : (cntL n (tcF (ps.map Pp.sh))).length = n := cntL_len _ _
  have hcE : (cntL n (hcF (ps.map Pp.sh))).length = n := cntL_len _ _
  refine enter 63 Tryd.func9 rfl rfl rfl ?_
  refine g_weak [(0, .pointer (some ⟨g, 0, none⟩)), (1, .int .i64 id)] ⟨rfl, rfl, trivial⟩ ?_
  refine g_seq ?_
  refine g_region ?_
  refine l_of (s_val (v := .int .i64 0) (wt0 rfl) rfl rfl (x_assign rfl rfl) ?_)
  refine g_nil ?_
  refine g_then ?_
  refine g_seq ?_
  refine g_region ?_
  refine l_of (s_val (v := .pointer (some ⟨g, 0, none⟩)) (wt0 rfl) rfl rfl (x_move rfl rfl) ?_)
  refine l_of (s_val (v := .int .i64 id) (wt0 rfl) rfl rfl (x_move rfl rfl) ?_)
  refine l_of (s_call (wt0 rfl) (x_call' rfl rfl cl24) (find_s g mg dp dc ep ec seed n (peerM ps) id hid _ (H0.takes [0, 3] (by decide))) ?_)
  rintro ee3 wq1 hor4
  rcases hor4 with ⟨b, h0i, hMb, rfl, H2⟩ | ⟨h0i, rfl, H2⟩ | ⟨h0i, hMb, rfl, H2⟩
  · skip
    replace H2 : S wq1 [Ob g (.cells #[.slice dp n dc, .slice ep n ec, .string seed, .map (some mg)] 49 (0, 0)), Mp (Value.int .i64) ptV okI mg (peerM ps), Rw 3 1 dp n dc (fl intL (cntL n (tcF (ps.map Pp.sh)))), Rw 3 1 ep n ec (fl intL (cntL n (hcF (ps.map Pp.sh)))), (Lst PeI ps), Old w (fps [(XM.I ⟨g, mg, dp, dc, ep, ec, seed, n, ps⟩)])] := H0.absorbI (new := [Ob g (.cells #[.slice dp n dc, .slice ep n ec, .string seed, .map (some mg)] 49 (0, 0)), Mp (Value.int .i64) ptV okI mg (peerM ps)]) [0, 3] H2
    obtain ⟨i, p, hp, hpi, hpb⟩ := peerM_some hMb
    subst hpb
    subst hpi
    have hq : (ps.map Pp.sh)[i]? = some p.sh := by rw [List.getElem?_map, hp]; rfl
    have hf : fnd (ps.map Pp.sh) p.id = some i := fnd_of hPI.nd hq rfl
    have hpk := hPI.at (p := p.sh) hq
    have hg9 : getP (⟨seed, n, ps.map Pp.sh⟩ : SP) i = p.sh := getP_at hq
    have htl : p.told.length ≤ j := hpk.2.1
    have hinr : ∀ k ∈ p.holds, 0 ≤ k ∧ k < (n : Int) := hpk.2.2.2.2.2
    have hinb : ∀ k ∈ p.holds, okI k := fun k hk => by have := hinr k hk; exact ⟨by omega, by omega⟩
    have H5 : S wq1 [Ob p.b (.cells #[.slice p.tp p.told.length p.tc, .map (some p.hm)] 58 (0, 0)), Rw 3 1 p.tp p.told.length p.tc (fl intL p.told), Mp (Value.int .i64) Value.bool okI p.hm (hMap p.holds), (Lst PeI (ps.eraseIdx i)), Ob g (.cells #[.slice dp n dc, .slice ep n ec, .string seed, .map (some mg)] 49 (0, 0)), Mp (Value.int .i64) ptV okI mg (peerM ps), Rw 3 1 dp n dc (fl intL (cntL n (tcF (ps.map Pp.sh)))), Rw 3 1 ep n ec (fl intL (cntL n (hcF (ps.map Pp.sh)))), Old w (fps [(XM.I ⟨g, mg, dp, dc, ep, ec, seed, n, ps⟩)])] := S.unbig (L := [_, _, _]) (S.lstOut (F := PeI) (H2.takes [4, 0, 1, 2, 3, 5] (by decide)) hp)
    refine b_ret rfl rfl ?_
    refine l_of (s_val (v := .tuple #[.pointer (some ⟨p.b, 0, none⟩), .int .i64 0]) (wt0 rfl) rfl rfl (x_move rfl rfl) ?_)
    refine l_of (s_val (v := .pointer (some ⟨p.b, 0, none⟩)) (wt0 rfl) rfl rfl (x_extract rfl rfl rfl) ?_)
    refine l_of (s_val (v := .int .i64 0) (wt0 rfl) rfl rfl (x_extract rfl rfl rfl) ?_)
    refine l_of (s_val (v := .pointer (some ⟨p.b, 0, none⟩)) (wt0 rfl) rfl rfl (x_assign rfl rfl) ?_)
    refine l_of (s_val (v := .int .i64 0) (wt0 rfl) rfl rfl (x_assign rfl rfl) ?_)
    refine g_nil ?_
    refine g_then ?_
    refine g_seq ?_
    refine g_seq ?_
    refine g_region ?_
    refine l_of (s_val (v := .int .i64 0) (wt0 rfl) rfl rfl (x_move rfl rfl) ?_)
    refine l_of (s_val (v := .bool (!decide ((0 : Int) = 0))) (wt0 rfl) rfl rfl (x_bin rfl rfl rfl b_neq) ?_)
    refine g_nil ?_
    refine g_then ?_
    refine g_cond_f rfl (nf rfl) ?_
    refine g_skip ?_
    refine g_then ?_
    refine g_seq ?_
    refine g_seq ?_
    refine g_region ?_
    refine l_of (s_val (v := .pointer (some ⟨p.b, 0, none⟩)) (wt0 rfl) rfl rfl (x_move rfl rfl) ?_)
    refine l_of (s_val (v := .pointer (some ⟨p.b, 0, none⟩)) (wt0 rfl) rfl rfl (x_nilCheck rfl rfl) ?_)
    refine l_of (s_val (v := .pointer (some ⟨p.b, 0, none⟩)) (wt0 rfl) rfl rfl (x_fieldAddr rfl rfl fo58_0 rfl) ?_)
    refine l_of (s_val (v := .slice p.tp p.told.length p.tc) (wt0 rfl) rfl rfl (x_load1 H5 0 rfl rfl Tryd.underlying35 rfl rfl rfl) ?_)
    refine l_of (s_val (v := .int .i64 ((p.told.length : Int))) (wt0 rfl) rfl rfl (x_lenl rfl rfl Tryd.underlying35) ?_)
    refine l_of (s_val (v := .int .i64 0) (wt0 rfl) rfl rfl (x_move rfl rfl) ?_)
    refine g_nil ?_
    refine g_then ?_
    refine g_weak [(0, .pointer (some ⟨g, 0, none⟩)), (1, .int .i64 (p.id)), (5, .pointer (some ⟨p.b, 0, none⟩)), (22, .slice p.tp p.told.length p.tc), (23, .int .i64 ((p.told.length : Int))), (24, .int .i64 0)] ⟨rfl, rfl, rfl, rfl, rfl, rfl, trivial⟩ ?_
    refine g_block ?_
    refine g_loop (ι := Nat) (fun t => [(0, .pointer (some ⟨g, 0, none⟩)), (1, .int .i64 (p.id)), (5, .pointer (some ⟨p.b, 0, none⟩)), (22, .slice p.tp p.told.length p.tc), (23, .int .i64 ((p.told.length : Int))), (24, .int .i64 ((t : Int)))]) (fun t wx => (t ≤ p.told.length) ∧ S wx [Ob p.b (.cells #[.slice p.tp p.told.length p.tc, .map (some p.hm)] 58 (0, 0)), Rw 3 1 p.tp p.told.length p.tc (fl intL p.told), Mp (Value.int .i64) Value.bool okI p.hm (hMap p.holds), (Lst PeI (ps.eraseIdx i)), Ob g (.cells #[.slice dp n dc, .slice ep n ec, .string seed, .map (some mg)] 49 (0, 0)), Rw 3 1 dp n dc (fl intL (cntL n (decF (tcF (ps.map Pp.sh)) (p.told.take t)))), Rw 3 1 ep n ec (fl intL (cntL n (hcF (ps.map Pp.sh)))), Mp (Value.int .i64) ptV okI mg (peerM ps), Old w (fps [(XM.I ⟨g, mg, dp, dc, ep, ec, seed, n, ps⟩)])]) (fun t => p.told.length - t) (0) ⟨rfl, rfl, rfl, rfl, rfl, rfl, trivial⟩ ⟨Nat.zero_le _, (by rw [List.take_zero, decF_nil]; exact H5.takes [0, 1, 2, 3, 4, 6, 7, 5, 8] (by decide))⟩ ?_
    rintro t wq6 ⟨ht, H7⟩
    replace H7 : S wq6 [Ob p.b (.cells #[.slice p.tp p.told.length p.tc, .map (some p.hm)] 58 (0, 0)), Rw 3 1 p.tp p.told.length p.tc (fl intL p.told), Mp (Value.int .i64) Value.bool okI p.hm (hMap p.holds), (Lst PeI (ps.eraseIdx i)), Ob g (.cells #[.slice dp n dc, .slice ep n ec, .string seed, .map (some mg)] 49 (0, 0)), Rw 3 1 dp n dc (fl intL (cntL n (decF (tcF (ps.map Pp.sh)) (p.told.take t)))), Rw 3 1 ep n ec (fl intL (cntL n (hcF (ps.map Pp.sh)))), Mp (Value.int .i64) ptV okI mg (peerM ps), Old w (fps [(XM.I ⟨g, mg, dp, dc, ep, ec, seed, n, ps⟩)])] := H7
    refine g_weak [(0, .pointer (some ⟨g, 0, none⟩)), (1, .int .i64 (p.id)), (5, .pointer (some ⟨p.b, 0, none⟩)), (22, .slice p.tp p.told.length p.tc), (23, .int .i64 ((p.told.length : Int))), (24, .int .i64 ((t : Int)))] ⟨rfl, rfl, rfl, rfl, rfl, rfl, trivial⟩ ?_
    refine g_seq ?_
    refine g_region ?_
    refine l_of (s_val (v := .bool (decide (((t : Int) : Int) < (p.told.length : Int)))) (wt0 rfl) rfl rfl (x_bin rfl rfl rfl b_lss) ?_)
    refine g_nil ?_
    refine g_then ?_
    refine g_seq ?_
    by_cases hb8 : ((t : Int) : Int) < (p.told.length : Int)
    · skip
      refine g_cond_t rfl (decide_eq_true hb8) ?_
      refine g_skip ?_
      refine g_then ?_
      refine g_seq ?_
      refine g_block ?_
      refine g_seq ?_
      refine g_region ?_
      refine l_of (s_val (v := .pointer ((p.tp).map fun q => q.add (t * 1))) (wt0 rfl) rfl rfl (x_idxR t (H7.rwReads (k := 1) rfl) rfl rfl rfl Tryd.underlying35 sz3 (by omega)) ?_)
      have hlq := (H7.rwReads (k := 1) rfl).lenL intE
      obtain ⟨x9, hx9⟩ := ex_at (l := p.told) (j := t) (by omega)
      clear hlq
      have hkx9 : 0 ≤ x9 ∧ x9 < (n : Int) := hpk.2.2.2.2.1 x9 (at_mem hx9)
      refine l_of (s_val (v := .int .i64 x9) (wt0 rfl) rfl rfl (x_loadR1 t (H7.rwReads (k := 1) rfl) (by omega) rfl rfl Tryd.underlying3 rfl (intE.flAt1 hx9 rfl)) ?_)
      refine l_of (s_val (v := .int .i64 x9) (wt0 rfl) rfl rfl (x_assign rfl rfl) ?_)
      refine g_nil ?_
      refine g_then ?_
      refine g_region ?_
      refine l_of (s_val (v := .pointer (some ⟨g, 0, none⟩)) (wt0 rfl) rfl rfl (x_move rfl rfl) ?_)
      refine l_of (s_val (v := .pointer (some ⟨g, 0, none⟩)) (wt0 rfl) rfl rfl (x_nilCheck rfl rfl) ?_)
      refine l_of (s_val (v := .pointer (some ⟨g, 0, none⟩)) (wt0 rfl) rfl rfl (x_fieldAddr rfl rfl fo49_0 rfl) ?_)
      refine l_of (s_val (v := .pointer (some ⟨g, 0, none⟩)) (wt0 rfl) rfl rfl (x_fieldAddr rfl rfl fo46_0 rfl) ?_)
      refine l_of (s_val (v := .slice dp n dc) (wt0 rfl) rfl rfl (x_load1 H7 4 rfl rfl Tryd.underlying35 rfl rfl rfl) ?_)
      refine l_of (s_val (v := .int .i64 x9) (wt0 rfl) rfl rfl (x_move rfl rfl) ?_)
      refine l_of (s_val (v := .pointer ((dp).map fun q => q.add (((x9).toNat) * 1))) (wt0 rfl) rfl rfl (x_idxR ((x9).toNat) (H7.rwReads (k := 5) rfl) rfl rfl rfl Tryd.underlying35 sz3 (by omega)) ?_)
      have hlq := (H7.rwReads (k := 5) rfl).lenL intE
      obtain ⟨x10, hx10⟩ := ex_at (l := (cntL n (decF (tcF (ps.map Pp.sh)) (p.told.take t)))) (j := ((x9).toNat)) (by omega)
      clear hlq
      have hyx10 := cntL_at hx10
      unfold decF tcF at hyx10
      have hzx10 := tcN_le (ps.map Pp.sh) ((((x9).toNat) : Nat) : Int)
      rw [List.length_map] at hzx10
      have hux10 : x10 = (tcN (ps.map Pp.sh) ((((x9).toNat) : Nat) : Int) : Int) ∨ x10 = (tcN (ps.map Pp.sh) ((((x9).toNat) : Nat) : Int) : Int) - 1 := by rw [hyx10.2]; split <;> omega
      clear hyx10
      refine l_of (s_val (v := .int .i64 x10) (wt0 rfl) rfl rfl (x_loadR1 ((x9).toNat) (H7.rwReads (k := 5) rfl) (by omega) rfl rfl Tryd.underlying3 rfl (intE.flAt1 hx10 rfl)) ?_)
      refine l_of (s_val (v := .int .i64 (x10 - 1)) (wt0 rfl) rfl rfl (x_bin rfl rfl rfl (b_sub (w64 (by omega)))) ?_)
      refine l_of (s_val (v := .pointer ((dp).map fun q => q.add (((x9).toNat) * 1))) (wt0 rfl) rfl rfl (x_idxR ((x9).toNat) (H7.rwReads (k := 5) rfl) rfl rfl rfl Tryd.underlying35 sz3 (by omega)) ?_)
      refine l_of (s_stoL (j := ((x9).toNat)) intE (x10 - 1) H7 5 (wt0 rfl) rfl rfl rfl rfl rfl rfl sz3 (by omega) ?_)
      intro wq11 H12
      replace H12 : S wq11 [Ob p.b (.cells #[.slice p.tp p.told.length p.tc, .map (some p.hm)] 58 (0, 0)), Rw 3 1 p.tp p.told.length p.tc (fl intL p.told), Mp (Value.int .i64) Value.bool okI p.hm (hMap p.holds), (Lst PeI (ps.eraseIdx i)), Ob g (.cells #[.slice dp n dc, .slice ep n ec, .string seed, .map (some mg)] 49 (0, 0)), Rw 3 1 dp n dc (fl intL ((cntL n (decF (tcF (ps.map Pp.sh)) (p.told.take t))).set ((x9).toNat) (x10 - 1))), Rw 3 1 ep n ec (fl intL (cntL n (hcF (ps.map Pp.sh)))), Mp (Value.int .i64) ptV okI mg (peerM ps), Old w (fps [(XM.I ⟨g, mg, dp, dc, ep, ec, seed, n, ps⟩)])] := H12
      refine g_nil ?_
      refine g_in ?_
      refine g_then ?_
      refine g_weak [(0, .pointer (some ⟨g, 0, none⟩)), (1, .int .i64 (p.id)), (5, .pointer (some ⟨p.b, 0, none⟩)), (22, .slice p.tp p.told.length p.tc), (23, .int .i64 ((p.told.length : Int))), (24, .int .i64 ((t : Int)))] ⟨rfl, rfl, rfl, rfl, rfl, rfl, trivial⟩ ?_
      refine g_region ?_
      refine l_of (s_val (v := .int .i64 (((t + 1 : Nat) : Int))) (wt0 rfl) rfl rfl (x_bin rfl rfl rfl (b_add (by rw [w64 (by omega)]; omega))) ?_)
      refine l_of (s_val (v := .int .i64 (((t + 1 : Nat) : Int))) (wt0 rfl) rfl rfl (x_move rfl rfl) ?_)
      refine g_nil ?_
      refine g_then ?_
      refine g_round (i := (t)) ((t + 1)) ?_ ?_ ?_
      · exact ⟨rfl, rfl, rfl, rfl, rfl, rfl, trivial⟩
      · exact ⟨by omega, (by rw [take_snocL hx9, ← dec_add (told_new (l := p.told) hpk.2.2.2.1 hx9) (hkx9).1 hx10]; exact H12.takes [0, 1, 2, 3, 4, 5, 6, 7, 8] (by decide))⟩
      · (try dsimp only); omega
    · skip
      refine g_cond_f rfl (decide_eq_false hb8) ?_
      refine g_exit ?_
      have htt : t = p.told.length := by omega
      rw [htt, List.take_length] at H7
      have H13 : S wq6 [Ob p.b (.cells #[.slice p.tp p.told.length p.tc, .map (some p.hm)] 58 (0, 0)), Rw 3 1 p.tp p.told.length p.tc (fl intL p.told), Mp (Value.int .i64) Value.bool okI p.hm (hMap p.holds), (Lst PeI (ps.eraseIdx i)), Ob g (.cells #[.slice dp n dc, .slice ep n ec, .string seed, .map (some mg)] 49 (0, 0)), Rw 3 1 dp n dc (fl intL (cntL n (decF (tcF (ps.map Pp.sh)) p.sh.told))), Rw 3 1 ep n ec (fl intL (cntL n (hcF (ps.map Pp.sh)))), Mp (Value.int .i64) ptV okI mg (peerM ps), Old w (fps [(XM.I ⟨g, mg, dp, dc, ep, ec, seed, n, ps⟩)])] := H7
      refine g_then_exit ?_
      refine g_then_exit ?_
      refine g_in_hit ?_
      refine g_then ?_
      refine g_seq ?_
      refine g_seq ?_
      refine g_region ?_
      refine l_of (s_val (v := .pointer (some ⟨p.b, 0, none⟩)) (wt0 rfl) rfl rfl (x_move rfl rfl) ?_)
      refine l_of (s_val (v := .pointer (some ⟨p.b, 0, none⟩)) (wt0 rfl) rfl rfl (x_nilCheck rfl rfl) ?_)
      refine l_of (s_val (v := .pointer (some ⟨p.b, 1, none⟩)) (wt0 rfl) rfl rfl (x_fieldAddr rfl rfl fo58_1 rfl) ?_)
      refine l_of (s_val (v := .map (some p.hm)) (wt0 rfl) rfl rfl (x_load1 H13 0 rfl rfl Tryd.underlying56 rfl rfl rfl) ?_)
      refine l_of (s_rangeN (intTy Tryd.underlying56 Tryd.underlying3) H13 2 (wt0 rfl) rfl rfl rfl rfl rfl ?_)
      intro rr14 rem15 wq16 hnrem15 hrem15 H17
      replace H17 : S wq16 [Ob p.b (.cells #[.slice p.tp p.told.length p.tc, .map (some p.hm)] 58 (0, 0)), Rw 3 1 p.tp p.told.length p.tc (fl intL p.told), MpR (Value.int .i64) Value.bool okI p.hm rr14 (hMap p.holds) rem15 none, (Lst PeI (ps.eraseIdx i)), Ob g (.cells #[.slice dp n dc, .slice ep n ec, .string seed, .map (some mg)] 49 (0, 0)), Rw 3 1 dp n dc (fl intL (cntL n (decF (tcF (ps.map Pp.sh)) p.sh.told))), Rw 3 1 ep n ec (fl intL (cntL n (hcF (ps.map Pp.sh)))), Mp (Value.int .i64) ptV okI mg (peerM ps), Old w (fps [(XM.I ⟨g, mg, dp, dc, ep, ec, seed, n, ps⟩)])] := H17
      refine g_nil ?_
      refine g_then ?_
      refine g_block ?_
      refine g_loop (ι := List (Int × Bool) × Option (Int × Bool) × List Int) (fun (rem, cur, dn) => [(0, .pointer (some ⟨g, 0, none⟩)), (1, .int .i64 (p.id)), (43, .pointer (some ⟨rr14, 0, none⟩))]) (fun (rem, cur, dn) wx => (∀ k, k ∈ dn ↔ (k ∈ p.holds ∧ (k, true) ∉ rem)) ∧ (∀ q ∈ rem, q.2 = true) ∧ S wx [Ob p.b (.cells #[.slice p.tp p.told.length p.tc, .map (some p.hm)] 58 (0, 0)), Rw 3 1 p.tp p.told.length p.tc (fl intL p.told), MpR (Value.int .i64) Value.bool okI p.hm rr14 (hMap p.holds) rem cur, (Lst PeI (ps.eraseIdx i)), Ob g (.cells #[.slice dp n dc, .slice ep n ec, .string seed, .map (some mg)] 49 (0, 0)), Rw 3 1 dp n dc (fl intL (cntL n (tcF ((ps.map Pp.sh).eraseIdx i)))), Rw 3 1 ep n ec (fl intL (cntL n (decF (hcF (ps.map Pp.sh)) dn))), Mp (Value.int .i64) ptV okI mg (peerM ps), Old w (fps [(XM.I ⟨g, mg, dp, dc, ep, ec, seed, n, ps⟩)])]) (fun (rem, cur, dn) => rem.length) (rem15, none, []) ⟨rfl, rfl, rfl, trivial⟩ ⟨(fun k => ⟨fun h => by simp at h, fun h => absurd ((hrem15 (k, true)).2 ⟨(hinb _ h.1), if_pos h.1⟩) h.2⟩), (fun q hq => hMap_v ((hrem15 q).1 hq).2), (by rw [decF_nil, ← dec_tc hq]; exact H17.takes [0, 1, 2, 3, 4, 5, 6, 7, 8] (by decide))⟩ ?_
      rintro ⟨rem, cur, dn⟩ wq18 ⟨hdn, hrm, H19⟩
      replace H19 : S wq18 [Ob p.b (.cells #[.slice p.tp p.told.length p.tc, .map (some p.hm)] 58 (0, 0)), Rw 3 1 p.tp p.told.length p.tc (fl intL p.told), MpR (Value.int .i64) Value.bool okI p.hm rr14 (hMap p.holds) rem cur, (Lst PeI (ps.eraseIdx i)), Ob g (.cells #[.slice dp n dc, .slice ep n ec, .string seed, .map (some mg)] 49 (0, 0)), Rw 3 1 dp n dc (fl intL (cntL n (tcF ((ps.map Pp.sh).eraseIdx i)))), Rw 3 1 ep n ec (fl intL (cntL n (decF (hcF (ps.map Pp.sh)) dn))), Mp (Value.int .i64) ptV okI mg (peerM ps), Old w (fps [(XM.I ⟨g, mg, dp, dc, ep, ec, seed, n, ps⟩)])] := H19
      refine g_weak [(0, .pointer (some ⟨g, 0, none⟩)), (1, .int .i64 (p.id)), (43, .pointer (some ⟨rr14, 0, none⟩))] ⟨rfl, rfl, rfl, trivial⟩ ?_
      refine g_seq ?_
      refine g_region ?_
      refine l_of (s_next H19 2 (wt0 rfl) rfl rfl rfl rfl rfl (fun hnil29 => ?_) (fun q20 rem21 wx22 hp23 hok24 hN25 hm26 hl27 Hx28 => ?_))
      · skip
        subst hnil29
        have H30 : S wq18 [Ob p.b (.cells #[.slice p.tp p.told.length p.tc, .map (some p.hm)] 58 (0, 0)), Rw 3 1 p.tp p.told.length p.tc (fl intL p.told), Mp (Value.int .i64) Value.bool okI p.hm (hMap p.holds), (Lst PeI (ps.eraseIdx i)), Ob g (.cells #[.slice dp n dc, .slice ep n ec, .string seed, .map (some mg)] 49 (0, 0)), Rw 3 1 dp n dc (fl intL (cntL n (tcF ((ps.map Pp.sh).eraseIdx i)))), Rw 3 1 ep n ec (fl intL (cntL n (decF (hcF (ps.map Pp.sh)) dn))), Mp (Value.int .i64) ptV okI mg (peerM ps), Old w (fps [(XM.I ⟨g, mg, dp, dc, ep, ec, seed, n, ps⟩)])] := H19.unR (k0 := 2) rfl
        refine l_of (s_val (v := .bool false) (wt0 rfl) rfl rfl (x_extract rfl rfl rfl) ?_)
        refine g_nil ?_
        refine g_then ?_
        refine g_seq ?_
        refine g_cond_f rfl rfl ?_
        refine g_exit ?_
        refine g_then_exit ?_
        refine g_then_exit ?_
        refine g_in_hit ?_
        refine g_then ?_
        refine g_seq ?_
        refine g_region ?_
        refine l_of (s_val (v := .pointer (some ⟨g, 0, none⟩)) (wt0 rfl) rfl rfl (x_move rfl rfl) ?_)
        refine l_of (s_val (v := .pointer (some ⟨g, 0, none⟩)) (wt0 rfl) rfl rfl (x_nilCheck rfl rfl) ?_)
        refine l_of (s_val (v := .pointer (some ⟨g, 3, none⟩)) (wt0 rfl) rfl rfl (x_fieldAddr rfl rfl fo49_2 rfl) ?_)
        refine l_of (s_val (v := .map (some mg)) (wt0 rfl) rfl rfl (x_load1 H30 4 rfl rfl Tryd.underlying47 rfl rfl rfl) ?_)
        refine l_of (s_val (v := .int .i64 (p.id)) (wt0 rfl) rfl rfl (x_move rfl rfl) ?_)
        refine l_of (s_delete (x := p.id) (intTy Tryd.underlying47 Tryd.underlying3) H30 7 (wt0 rfl) rfl rfl rfl rfl rfl (hid) ?_)
        intro wq31 H32
        replace H32 : S wq31 [Ob p.b (.cells #[.slice p.tp p.told.length p.tc, .map (some p.hm)] 58 (0, 0)), Rw 3 1 p.tp p.told.length p.tc (fl intL p.told), Mp (Value.int .i64) Value.bool okI p.hm (hMap p.holds), (Lst PeI (ps.eraseIdx i)), Ob g (.cells #[.slice dp n dc, .slice ep n ec, .string seed, .map (some mg)] 49 (0, 0)), Rw 3 1 dp n dc (fl intL (cntL n (tcF ((ps.map Pp.sh).eraseIdx i)))), Rw 3 1 ep n ec (fl intL (cntL n (decF (hcF (ps.map Pp.sh)) dn))), Mp (Value.int .i64) ptV okI mg (delM (peerM ps) p.id), Old w (fps [(XM.I ⟨g, mg, dp, dc, ep, ec, seed, n, ps⟩)])] := H32
        refine g_nil ?_
        refine g_then ?_
        refine g_seq ?_
        refine g_region ?_
        refine l_of (s_val (v := .int .i64 0) (wt0 rfl) rfl rfl (x_assign rfl rfl) ?_)
        refine g_nil ?_
        refine g_then ?_
        refine g_ret ?_
        refine fin_ret [.tmp 4] [.int .i64 0] rfl ⟨rfl, trivial⟩ ?_
        have hE : goE (⟨seed, n, ps.map Pp.sh⟩ : SP) p.id = 0 := by unfold goE findE; rw [show fnd (SP.ps (⟨seed, n, ps.map Pp.sh⟩ : SP)) p.id = some i from hf]
        have hA : goA (⟨seed, n, ps.map Pp.sh⟩ : SP) p.id = ⟨seed, n, (ps.eraseIdx i).map Pp.sh⟩ := by unfold goA; rw [show fnd (SP.ps (⟨seed, n, ps.map Pp.sh⟩ : SP)) p.id = some i from hf, map_eraseF]
        have e1 := dec_hc (n := n) hq (dn_end hdn)
        have e3 := peerM_erase hnd hp
        rw [e1, e3, ← map_eraseF] at H32
        rw [hE]
        exact ⟨⟨g, mg, dp, dc, ep, ec, seed, n, ps.eraseIdx i⟩, rfl, hA.symm, rfl, S.big (L := [_, _, _, _, _]) (H32.takes [4, 5, 6, 7, 3, 8] (by decide))⟩
      · skip
        have H33 : S wx22 [Ob p.b (.cells #[.slice p.tp p.told.length p.tc, .map (some p.hm)] 58 (0, 0)), Rw 3 1 p.tp p.told.length p.tc (fl intL p.told), MpR (Value.int .i64) Value.bool okI p.hm rr14 (hMap p.holds) rem21 (some q20), (Lst PeI (ps.eraseIdx i)), Ob g (.cells #[.slice dp n dc, .slice ep n ec, .string seed, .map (some mg)] 49 (0, 0)), Rw 3 1 dp n dc (fl intL (cntL n (tcF ((ps.map Pp.sh).eraseIdx i)))), Rw 3 1 ep n ec (fl intL (cntL n (decF (hcF (ps.map Pp.sh)) dn))), Mp (Value.int .i64) ptV okI mg (peerM ps), Old w (fps [(XM.I ⟨g, mg, dp, dc, ep, ec, seed, n, ps⟩)])] := Hx28
        refine l_of (s_val (v := .bool true) (wt0 rfl) rfl rfl (x_extract rfl rfl rfl) ?_)
        refine g_nil ?_
        refine g_then ?_
        refine g_seq ?_
        refine g_cond_t rfl rfl ?_
        refine g_skip ?_
        refine g_then ?_
        refine g_block ?_
        refine g_seq ?_
        refine g_region ?_
        refine l_of (s_val (v := .tuple #[.int .i64 (q20.1), .bool q20.2]) (wt0 rfl) rfl rfl (x_entry (k := 0) (t := 0) (e0 := 0) H33 2 rfl rfl rfl) ?_)
        refine l_of (s_val (v := .int .i64 (q20.1)) (wt0 rfl) rfl rfl (x_extract rfl rfl rfl) ?_)
        refine l_of (s_val (v := .int .i64 (q20.1)) (wt0 rfl) rfl rfl (x_assign rfl rfl) ?_)
        refine g_nil ?_
        refine g_then ?_
        refine g_region ?_
        refine l_of (s_val (v := .pointer (some ⟨g, 0, none⟩)) (wt0 rfl) rfl rfl (x_move rfl rfl) ?_)
        refine l_of (s_val (v := .pointer (some ⟨g, 0, none⟩)) (wt0 rfl) rfl rfl (x_nilCheck rfl rfl) ?_)
        refine l_of (s_val (v := .pointer (some ⟨g, 0, none⟩)) (wt0 rfl) rfl rfl (x_fieldAddr rfl rfl fo49_0 rfl) ?_)
        refine l_of (s_val (v := .pointer (some ⟨g, 1, none⟩)) (wt0 rfl) rfl rfl (x_fieldAddr rfl rfl fo46_1 rfl) ?_)
        refine l_of (s_val (v := .slice ep n ec) (wt0 rfl) rfl rfl (x_load1 H33 4 rfl rfl Tryd.underlying35 rfl rfl rfl) ?_)
        have hq9 := hinr _ (hMap_in hN25)
        refine l_of (s_val (v := .int .i64 (q20.1)) (wt0 rfl) rfl rfl (x_move rfl rfl) ?_)
        refine l_of (s_val (v := .pointer ((ep).map fun q => q.add (((q20.1).toNat) * 1))) (wt0 rfl) rfl rfl (x_idxR ((q20.1).toNat) (H33.rwReads (k := 6) rfl) rfl rfl rfl Tryd.underlying35 sz3 (by omega)) ?_)
        have hlq := (H33.rwReads (k := 6) rfl).lenL intE
        obtain ⟨x34, hx34⟩ := ex_at (l := (cntL n (decF (hcF (ps.map Pp.sh)) dn))) (j := ((q20.1).toNat)) (by omega)
        clear hlq
        have hyx34 := cntL_at hx34
        unfold decF hcF at hyx34
        have hzx34 := hcN_le (ps.map Pp.sh) ((((q20.1).toNat) : Nat) : Int)
        rw [List.length_map] at hzx34
        have hux34 : x34 = (hcN (ps.map Pp.sh) ((((q20.1).toNat) : Nat) : Int) : Int) ∨ x34 = (hcN (ps.map Pp.sh) ((((q20.1).toNat) : Nat) : Int) : Int) - 1 := by rw [hyx34.2]; split <;> omega
        clear hyx34
        refine l_of (s_val (v := .int .i64 x34) (wt0 rfl) rfl rfl (x_loadR1 ((q20.1).toNat) (H33.rwReads (k := 6) rfl) (by omega) rfl rfl Tryd.underlying3 rfl (intE.flAt1 hx34 rfl)) ?_)
        refine l_of (s_val (v := .int .i64 (x34 - 1)) (wt0 rfl) rfl rfl (x_bin rfl rfl rfl (b_sub (w64 (by omega)))) ?_)
        refine l_of (s_val (v := .pointer ((ep).map fun q => q.add (((q20.1).toNat) * 1))) (wt0 rfl) rfl rfl (x_idxR ((q20.1).toNat) (H33.rwReads (k := 6) rfl) rfl rfl rfl Tryd.underlying35 sz3 (by omega)) ?_)
        refine l_of (s_stoL (j := ((q20.1).toNat)) intE (x34 - 1) H33 6 (wt0 rfl) rfl rfl rfl rfl rfl rfl sz3 (by omega) ?_)
        intro wq35 H36
        replace H36 : S wq35 [Ob p.b (.cells #[.slice p.tp p.told.length p.tc, .map (some p.hm)] 58 (0, 0)), Rw 3 1 p.tp p.told.length p.tc (fl intL p.told), MpR (Value.int .i64) Value.bool okI p.hm rr14 (hMap p.holds) rem21 (some q20), (Lst PeI (ps.eraseIdx i)), Ob g (.cells #[.slice dp n dc, .slice ep n ec, .string seed, .map (some mg)] 49 (0, 0)), Rw 3 1 dp n dc (fl intL (cntL n (tcF ((ps.map Pp.sh).eraseIdx i)))), Rw 3 1 ep n ec (fl intL ((cntL n (decF (hcF (ps.map Pp.sh)) dn)).set ((q20.1).toNat) (x34 - 1))), Mp (Value.int .i64) ptV okI mg (peerM ps), Old w (fps [(XM.I ⟨g, mg, dp, dc, ep, ec, seed, n, ps⟩)])] := H36
        refine g_nil ?_
        refine g_in ?_
        refine g_then ?_
        refine g_round (i := (rem, cur, dn)) (rem21, (some q20), (dn ++ [q20.1])) ?_ ?_ ?_
        · exact ⟨rfl, rfl, rfl, trivial⟩
        · exact ⟨(dn_next hdn hm26 (hMap_in hN25) (hrm _ hp23) hp23), (fun q hq => hrm q ((hm26 q).1 hq).1), (by rw [← dec_add (dn_new hdn hp23 (hrm _ hp23)) (hinr _ (hMap_in hN25)).1 hx34]; exact H36.takes [0, 1, 2, 3, 4, 5, 6, 7, 8] (by decide))⟩
        · (try dsimp only); exact hl27
  · skip
    replace H2 : S wq1 [Ob g (.cells #[.slice dp n dc, .slice ep n ec, .string seed, .map (some mg)] 49 (0, 0)), Mp (Value.int .i64) ptV okI mg (peerM ps), Rw 3 1 dp n dc (fl intL (cntL n (tcF (ps.map Pp.sh)))), Rw 3 1 ep n ec (fl intL (cntL n (hcF (ps.map Pp.sh)))), (Lst PeI ps), Old w (fps [(XM.I ⟨g, mg, dp, dc, ep, ec, seed, n, ps⟩)])] := H0.absorbI (new := [Ob g (.cells #[.slice dp n dc, .slice ep n ec, .string seed, .map (some mg)] 49 (0, 0)), Mp (Value.int .i64) ptV okI mg (peerM ps)]) [0, 3] H2
    have hf : fnd (ps.map Pp.sh) id = none := by cases h9 : fnd (ps.map Pp.sh) id with | none => rfl | some i9 => have := hPI.neg (id := id) h9; omega
    refine b_ret rfl rfl ?_
    refine l_of (s_val (v := .tuple #[.pointer none, .int .i64 7]) (wt0 rfl) rfl rfl (x_move rfl rfl) ?_)
    refine l_of (s_val (v := .pointer none) (wt0 rfl) rfl rfl (x_extract rfl rfl rfl) ?_)
    refine l_of (s_val (v := .int .i64 7) (wt0 rfl) rfl rfl (x_extract rfl rfl rfl) ?_)
    refine l_of (s_val (v := .pointer none) (wt0 rfl) rfl rfl (x_assign rfl rfl) ?_)
    refine l_of (s_val (v := .int .i64 7) (wt0 rfl) rfl rfl (x_assign rfl rfl) ?_)
    refine g_nil ?_
    refine g_then ?_
    refine g_seq ?_
    refine g_seq ?_
    refine g_region ?_
    refine l_of (s_val (v := .int .i64 7) (wt0 rfl) rfl rfl (x_move rfl rfl) ?_)
    refine l_of (s_val (v := .bool (!decide ((7 : Int) = 0))) (wt0 rfl) rfl rfl (x_bin rfl rfl rfl b_neq) ?_)
    refine g_nil ?_
    refine g_then ?_
    refine g_cond_t rfl (by decide) ?_
    refine g_seq ?_
    refine g_region ?_
    refine l_of (s_val (v := .int .i64 7) (wt0 rfl) rfl rfl (x_move rfl rfl) ?_)
    refine l_of (s_val (v := .int .i64 7) (wt0 rfl) rfl rfl (x_assign rfl rfl) ?_)
    refine g_nil ?_
    refine g_then ?_
    refine g_weak [(4, .int .i64 7)] ⟨rfl, trivial⟩ ?_
    refine g_ret ?_
    refine g_then_ret ?_
    refine fin_ret [.tmp 4] [.int .i64 7] rfl ⟨rfl, trivial⟩ ?_
    have hE : goE (⟨seed, n, ps.map Pp.sh⟩ : SP) id = 7 := (by unfold goE findE; rw [show fnd (SP.ps (⟨seed, n, ps.map Pp.sh⟩ : SP)) id = none from hf]; exact if_pos h0i)
    have hA : goA (⟨seed, n, ps.map Pp.sh⟩ : SP) id = (⟨seed, n, ps.map Pp.sh⟩ : SP) := by unfold goA; rw [show fnd (SP.ps (⟨seed, n, ps.map Pp.sh⟩ : SP)) id = none from hf]
    rw [hE]
    exact ⟨⟨g, mg, dp, dc, ep, ec, seed, n, ps⟩, rfl, hA.symm, rfl, (S.big (L := [_, _, _, _, _]) (H2.takes [0, 2, 3, 1, 4, 5] (by decide)))⟩
  · skip
    replace H2 : S wq1 [Ob g (.cells #[.slice dp n dc, .slice ep n ec, .string seed, .map (some mg)] 49 (0, 0)), Mp (Value.int .i64) ptV okI mg (peerM ps), Rw 3 1 dp n dc (fl intL (cntL n (tcF (ps.map Pp.sh)))), Rw 3 1 ep n ec (fl intL (cntL n (hcF (ps.map Pp.sh)))), (Lst PeI ps), Old w (fps [(XM.I ⟨g, mg, dp, dc, ep, ec, seed, n, ps⟩)])] := H0.absorbI (new := [Ob g (.cells #[.slice dp n dc, .slice ep n ec, .string seed, .map (some mg)] 49 (0, 0)), Mp (Value.int .i64) ptV okI mg (peerM ps)]) [0, 3] H2
    have hf : fnd (ps.map Pp.sh) id = none := peerM_none hMb
    refine b_ret rfl rfl ?_
    refine l_of (s_val (v := .tuple #[.pointer none, .int .i64 8]) (wt0 rfl) rfl rfl (x_move rfl rfl) ?_)
    refine l_of (s_val (v := .pointer none) (wt0 rfl) rfl rfl (x_extract rfl rfl rfl) ?_)
    refine l_of (s_val (v := .int .i64 8) (wt0 rfl) rfl rfl (x_extract rfl rfl rfl) ?_)
    refine l_of (s_val (v := .pointer none) (wt0 rfl) rfl rfl (x_assign rfl rfl) ?_)
    refine l_of (s_val (v := .int .i64 8) (wt0 rfl) rfl rfl (x_assign rfl rfl) ?_)
    refine g_nil ?_
    refine g_then ?_
    refine g_seq ?_
    refine g_seq ?_
    refine g_region ?_
    refine l_of (s_val (v := .int .i64 8) (wt0 rfl) rfl rfl (x_move rfl rfl) ?_)
    refine l_of (s_val (v := .bool (!decide ((8 : Int) = 0))) (wt0 rfl) rfl rfl (x_bin rfl rfl rfl b_neq) ?_)
    refine g_nil ?_
    refine g_then ?_
    refine g_cond_t rfl (by decide) ?_
    refine g_seq ?_
    refine g_region ?_
    refine l_of (s_val (v := .int .i64 8) (wt0 rfl) rfl rfl (x_move rfl rfl) ?_)
    refine l_of (s_val (v := .int .i64 8) (wt0 rfl) rfl rfl (x_assign rfl rfl) ?_)
    refine g_nil ?_
    refine g_then ?_
    refine g_weak [(4, .int .i64 8)] ⟨rfl, trivial⟩ ?_
    refine g_ret ?_
    refine g_then_ret ?_
    refine fin_ret [.tmp 4] [.int .i64 8] rfl ⟨rfl, trivial⟩ ?_
    have hE : goE (⟨seed, n, ps.map Pp.sh⟩ : SP) id = 8 := (by unfold goE findE; rw [show fnd (SP.ps (⟨seed, n, ps.map Pp.sh⟩ : SP)) id = none from hf]; exact if_neg (by omega))
    have hA : goA (⟨seed, n, ps.map Pp.sh⟩ : SP) id = (⟨seed, n, ps.map Pp.sh⟩ : SP) := by unfold goA; rw [show fnd (SP.ps (⟨seed, n, ps.map Pp.sh⟩ : SP)) id = none from hf]
    rw [hE]
    exact ⟨⟨g, mg, dp, dc, ep, ec, seed, n, ps⟩, rfl, hA.symm, rfl, (S.big (L := [_, _, _, _, _]) (H2.takes [0, 2, 3, 1, 4, 5] (by decide)))⟩
end Go.Proofs.YthfglkkjkpdkpaaDoor
