import Derived.Test.YthfglkkjkpdkpaaDoorNf
set_option linter.unusedSimpArgs false
set_option linter.unusedVariables false
namespace Go.Proofs.YthfglkkjkpdkpaaDoor
open Go.RowKit

theorem cl29 : callable Tryd.prog 29 = true := by kernel_rfl
theorem cl34 : callable Tryd.prog 34 = true := by kernel_rfl
theorem sz35 : szO Tryd.prog 35 = some 1 := by kernel_rfl
theorem sz66 : szO Tryd.prog 66 = some 1 := by kernel_rfl
theorem ze3 : zeO Tryd.prog 3 = some (.int .i64 0) := by kernel_rfl
theorem ze66 : zeO Tryd.prog 66 = some (.nilFunc) := by kernel_rfl
set_option maxRecDepth 20000 in
set_option maxHeartbeats 4000000 in
set_option maxRecDepth 20000 in
set_option maxHeartbeats 4000000 in
theorem next_s (j g mg : Nat) (dp : Option Addr) (dc : Nat) (ep : Option Addr) (ec : Nat) (seed : ByteArray) (n : Nat) (ps : List Pp) (hX : PI j (⟨seed, n, ps.map Pp.sh⟩ : SP)) (hj : j ≤ 1000) (ho : ∀ p ∈ ps, okI p.id) (w0 : World) (ht : PowTab w0) (id : Int) (hid : okI id)  (w : World) (HS : S w [(XM.I ⟨g, mg, dp, dc, ep, ec, seed, n, ps⟩), Old w0 no]) : Calls Tryd.prog 16 #[.pointer (some ⟨g, 0, none⟩), .int .i64 id] w fun e w' => ∃ Y : XM, Y.g = g ∧ Y.A = nextA (⟨seed, n, ps.map Pp.sh⟩ : SP) id ∧ e = .returned (.tuple #[.int .i64 (nextV (⟨seed, n, ps.map Pp.sh⟩ : SP) id), .int .i64 (nextE (⟨seed, n, ps.map Pp.sh⟩ : SP) id)]) ∧ S w' ([Y.I, Old w0 no] ++ [Old w (fps [(XM.I ⟨g, mg, dp, dc, ep, ec, seed, n, ps⟩), Old w0 no])]) := by
  have H00 := HS.beginI
  have H0 : S w ([(XM.I ⟨g, mg, dp, dc, ep, ec, seed, n, ps⟩), Old w0 no, Old w (fps [(XM.I ⟨g, mg, dp, dc, ep, ec, seed, n, ps⟩), Old w0 no])]) := H00
  have hPI : PI j (⟨seed, n, ps.map Pp.sh⟩ : SP) := hX
  have hnd : (ps.map Pp.id).Nodup := by have := hPI.nd; rwa [sh_ids] at this
  have hps : ps.length ≤ j := by have := hPI.len; simpa using this
  have hn30 : n ≤ 30 := hPI.n30
  have hsd : seed.size ≤ 100 := hPI.sd
  replace H0 : S w [Ob g (.cells #[.slice dp n dc, .slice ep n ec, .string seed, .map (some mg)] 49 (0, 0)), Rw 3 1 dp n dc (fl intL (cntL n (tcF (ps.map Pp.sh)))), Rw 3 1 ep n ec (fl intL (cntL n (hcF (ps.map Pp.sh)))), Mp (Value.int .i64) ptV okI mg (peerM ps), (Lst PeI ps), Old w0 no, Old w (fps [(XM.I ⟨g, mg, dp, dc, ep, ec, seed, n, ps⟩), Old w0 no])] := S.unbig H0
  have hcD : (cntL n (tcF (ps.map Pp.sh))).length = n := cntL_len _ _
  have hcE : (cntL n (hcF (ps.map Pp.sh))).length = n := cntL_len _ _
  refine enter 82 Tryd.func16 rfl rfl rfl ?_
  refine g_weak [(0, .pointer (some ⟨g, 0, none⟩)), (1, .int .i64 id)] ⟨rfl, rfl, trivial⟩ ?_
  refine g_seq ?_
  refine g_region ?_
  refine l_of (s_box H0 (wt0 rfl) rfl rfl rfl rfl ?_)
  intro g1 wq2 H3
  refine l_of (s_val (v := .int .i64 0) (wt0 rfl) rfl rfl (x_assign rfl rfl) ?_)
  refine l_of (s_val (v := .int .i64 0) (wt0 rfl) rfl rfl (x_assign rfl rfl) ?_)
  refine g_nil ?_
  refine g_then ?_
  refine g_seq ?_
  refine g_region ?_
  refine l_of (s_val (v := .pointer (some ⟨g, 0, none⟩)) (wt0 rfl) rfl rfl (x_load1 H3 0 rfl rfl Tryd.underlying24 rfl rfl rfl) ?_)
  refine l_of (s_val (v := .int .i64 id) (wt0 rfl) rfl rfl (x_move rfl rfl) ?_)
  refine l_of (s_call (wt0 rfl) (x_call' rfl rfl cl24) (find_s g mg dp dc ep ec seed n (peerM ps) id hid _ (H3.takes [1, 4] (by decide))) ?_)
  rintro ee6 wq4 hor7
  rcases hor7 with ⟨b, h0i, hMb, rfl, H5⟩ | ⟨h0i, rfl, H5⟩ | ⟨h0i, hMb, rfl, H5⟩
  · skip
    replace H5 : S wq4 [Ob g (.cells #[.slice dp n dc, .slice ep n ec, .string seed, .map (some mg)] 49 (0, 0)), Mp (Value.int .i64) ptV okI mg (peerM ps), Ob g1 (.cells #[.pointer (some ⟨g, 0, none⟩)] 24 (0, 0)), Rw 3 1 dp n dc (fl intL (cntL n (tcF (ps.map Pp.sh)))), Rw 3 1 ep n ec (fl intL (cntL n (hcF (ps.map Pp.sh)))), (Lst PeI ps), Old w0 no, Old w (fps [(XM.I ⟨g, mg, dp, dc, ep, ec, seed, n, ps⟩), Old w0 no])] := H3.absorbI (new := [Ob g (.cells #[.slice dp n dc, .slice ep n ec, .string seed, .map (some mg)] 49 (0, 0)), Mp (Value.int .i64) ptV okI mg (peerM ps)]) [1, 4] H5
    obtain ⟨i, p, hp, hpi, hpb⟩ := peerM_some hMb
    subst hpb
    subst hpi
    have hq : (ps.map Pp.sh)[i]? = some p.sh := by rw [List.getElem?_map, hp]; rfl
    have hf : fnd (ps.map Pp.sh) p.id = some i := fnd_of hPI.nd hq rfl
    have hpk := hPI.at (p := p.sh) hq
    have hg9 : getP (⟨seed, n, ps.map Pp.sh⟩ : SP) i = p.sh := getP_at hq
    have htl : p.told.length ≤ j := hpk.2.1
    have hinr : ∀ k ∈ p.holds, 0 ≤ k ∧ k < (n : Int) := hpk.2.2.2.2.2
    have hinb : ∀ k ∈ p.holds, okI k := fun k hk => by have := hinr k hk; exact ⟨by omega, by omega⟩
    have H8 : S wq4 [Ob p.b (.cells #[.slice p.tp p.told.length p.tc, .map (some p.hm)] 58 (0, 0)), Rw 3 1 p.tp p.told.length p.tc (fl intL p.told), Mp (Value.int .i64) Value.bool okI p.hm (hMap p.holds), (Lst PeI (ps.eraseIdx i)), Ob g (.cells #[.slice dp n dc, .slice ep n ec, .string seed, .map (some mg)] 49 (0, 0)), Mp (Value.int .i64) ptV okI mg (peerM ps), Ob g1 (.cells #[.pointer (some ⟨g, 0, none⟩)] 24 (0, 0)), Rw 3 1 dp n dc (fl intL (cntL n (tcF (ps.map Pp.sh)))), Rw 3 1 ep n ec (fl intL (cntL n (hcF (ps.map Pp.sh)))), Old w0 no, Old w (fps [(XM.I ⟨g, mg, dp, dc, ep, ec, seed, n, ps⟩), Old w0 no])] := S.unbig (L := [_, _, _]) (S.lstOut (F := PeI) (H5.takes [5, 0, 1, 2, 3, 4, 6, 7] (by decide)) hp)
    refine b_ret rfl rfl ?_
    refine l_of (s_val (v := .tuple #[.pointer (some ⟨p.b, 0, none⟩), .int .i64 0]) (wt0 rfl) rfl rfl (x_move rfl rfl) ?_)
    refine l_of (s_val (v := .pointer (some ⟨p.b, 0, none⟩)) (wt0 rfl) rfl rfl (x_extract rfl rfl rfl) ?_)
    refine l_of (s_val (v := .int .i64 0) (wt0 rfl) rfl rfl (x_extract rfl rfl rfl) ?_)
    refine l_of (s_val (v := .pointer (some ⟨p.b, 0, none⟩)) (wt0 rfl) rfl rfl (x_assign rfl rfl) ?_)
    refine l_of (s_val (v := .int .i64 0) (wt0 rfl) rfl rfl (x_assign rfl rfl) ?_)
    refine g_nil ?_
    refine g_then ?_
    refine g_seq ?_
    refine g_seq ?_
    refine g_region ?_
    refine l_of (s_val (v := .int .i64 0) (wt0 rfl) rfl rfl (x_move rfl rfl) ?_)
    refine l_of (s_val (v := .bool (!decide ((0 : Int) = 0))) (wt0 rfl) rfl rfl (x_bin rfl rfl rfl b_neq) ?_)
    refine g_nil ?_
    refine g_then ?_
    refine g_cond_f rfl (nf rfl) ?_
    refine g_skip ?_
    refine g_then ?_
    refine g_weak [(2, .pointer (some ⟨g1, 0, none⟩)), (6, .pointer (some ⟨p.b, 0, none⟩))] ⟨rfl, rfl, trivial⟩ ?_
    refine g_seq ?_
    refine g_seq ?_
    refine g_region ?_
    refine l_of (s_val (v := .pointer (some ⟨g, 0, none⟩)) (wt0 rfl) rfl rfl (x_load1 H8 6 rfl rfl Tryd.underlying24 rfl rfl rfl) ?_)
    refine l_of (s_val (v := .pointer (some ⟨p.b, 0, none⟩)) (wt0 rfl) rfl rfl (x_move rfl rfl) ?_)
    refine l_of (s_call (wt0 rfl) (x_call' rfl rfl cl29) (waits_s j g mg dp dc ep ec seed n ps hX hj i p hp ho _ (H8.takes [0, 1, 2, 4, 8, 5] (by decide))) ?_)
    rintro _ wq9 ⟨rfl, H10⟩
    replace H10 : S wq9 [Ob p.b (.cells #[.slice p.tp p.told.length p.tc, .map (some p.hm)] 58 (0, 0)), Rw 3 1 p.tp p.told.length p.tc (fl intL p.told), Mp (Value.int .i64) Value.bool okI p.hm (hMap p.holds), Ob g (.cells #[.slice dp n dc, .slice ep n ec, .string seed, .map (some mg)] 49 (0, 0)), Rw 3 1 ep n ec (fl intL (cntL n (hcF (ps.map Pp.sh)))), Mp (Value.int .i64) ptV okI mg (peerM ps), (Lst PeI (ps.eraseIdx i)), Ob g1 (.cells #[.pointer (some ⟨g, 0, none⟩)] 24 (0, 0)), Rw 3 1 dp n dc (fl intL (cntL n (tcF (ps.map Pp.sh)))), Old w0 no, Old w (fps [(XM.I ⟨g, mg, dp, dc, ep, ec, seed, n, ps⟩), Old w0 no])] := H8.absorbI (new := [Ob p.b (.cells #[.slice p.tp p.told.length p.tc, .map (some p.hm)] 58 (0, 0)), Rw 3 1 p.tp p.told.length p.tc (fl intL p.told), Mp (Value.int .i64) Value.bool okI p.hm (hMap p.holds), Ob g (.cells #[.slice dp n dc, .slice ep n ec, .string seed, .map (some mg)] 49 (0, 0)), Rw 3 1 ep n ec (fl intL (cntL n (hcF (ps.map Pp.sh)))), Mp (Value.int .i64) ptV okI mg (peerM ps)]) [0, 1, 2, 4, 8, 5] H10
    refine b_ret rfl rfl ?_
    refine g_nil ?_
    refine g_then ?_
    rcases Bool.eq_false_or_eq_true ((waitB (⟨seed, n, ps.map Pp.sh⟩ : SP) p.sh)) with hb11 | hb11
    · skip
      refine g_cond_t rfl hb11 ?_
      refine g_seq ?_
      refine g_region ?_
      refine l_of (s_val (v := .int .i64 0) (wt0 rfl) rfl rfl (x_assign rfl rfl) ?_)
      refine l_of (s_val (v := .int .i64 9) (wt0 rfl) rfl rfl (x_assign rfl rfl) ?_)
      refine g_nil ?_
      refine g_then ?_
      refine g_ret ?_
      refine g_then_ret ?_
      refine fin_ret [.tmp 4, .tmp 5] [.int .i64 0, .int .i64 9] rfl ⟨rfl, rfl, trivial⟩ ?_
      have hnE : nextE (⟨seed, n, ps.map Pp.sh⟩ : SP) p.id = if waitB (⟨seed, n, ps.map Pp.sh⟩ : SP) p.sh = true then 9 else if candM p.sh n = [] then 9 else 0 := by unfold nextE; rw [show fnd (SP.ps (⟨seed, n, ps.map Pp.sh⟩ : SP)) p.id = some i from hf]; show (if waitB (⟨seed, n, ps.map Pp.sh⟩ : SP) (getP (⟨seed, n, ps.map Pp.sh⟩ : SP) i) = true then (9 : Int) else if candM (getP (⟨seed, n, ps.map Pp.sh⟩ : SP) i) n = [] then 9 else 0) = _; rw [hg9]
      have hv : nextE (⟨seed, n, ps.map Pp.sh⟩ : SP) p.id = 9 := by rw [hnE]; exact if_pos hb11
      have hE : nextE (⟨seed, n, ps.map Pp.sh⟩ : SP) p.id = 9 := by exact hv
      have hA : nextA (⟨seed, n, ps.map Pp.sh⟩ : SP) p.id = (⟨seed, n, ps.map Pp.sh⟩ : SP) := by unfold nextA; rw [hE]; exact if_neg (by decide)
      have hV : nextV (⟨seed, n, ps.map Pp.sh⟩ : SP) p.id = 0 := by unfold nextV; rw [show fnd (SP.ps (⟨seed, n, ps.map Pp.sh⟩ : SP)) p.id = some i from hf]; show (if nextE (⟨seed, n, ps.map Pp.sh⟩ : SP) p.id = 0 then _ else (0 : Int)) = 0; rw [hE]; exact if_neg (by decide)
      rw [hE, hV]
      exact ⟨⟨g, mg, dp, dc, ep, ec, seed, n, ps⟩, rfl, hA.symm, rfl, (S.big (L := [_, _, _, _, _]) ((S.lstBack (F := PeI) (S.big (L := [_, _, _]) (H10.takes [0, 1, 2, 6, 3, 8, 4, 5, 9, 10] (by decide))) hp).takes [1, 2, 3, 4, 0, 5, 6] (by decide)))⟩
    · skip
      refine g_cond_f rfl hb11 ?_
      refine g_skip ?_
      refine g_then ?_
      refine g_seq ?_
      refine g_region ?_
      refine l_of (s_val (v := .func (.func 30) #[] #[.pointer (some ⟨g1, 0, none⟩)]) (wt0 rfl) rfl rfl (x_makeFunc rfl rfl rfl) ?_)
      refine l_of (s_alloc H10 (wt0 rfl) rfl rfl rfl ze66 ?_)
      intro g12 wq13 H14
      refine l_of (s_store H14 0 (wt0 rfl) rfl rfl rfl rfl rfl sz66 rfl rfl (cs' := #[.func (.func 30) #[] #[.pointer (some ⟨g1, 0, none⟩)]]) rfl ?_)
      intro wq15 H16
      refine g_nil ?_
      refine g_then ?_
      refine g_seq ?_
      refine g_region ?_
      refine l_of (s_val (v := .slice none 0 0) (wt0 rfl) rfl rfl (x_assign rfl rfl) ?_)
      refine g_nil ?_
      refine g_then ?_
      refine g_seq ?_
      refine g_seq ?_
      refine g_region ?_
      refine l_of (s_val (v := .pointer (some ⟨g, 0, none⟩)) (wt0 rfl) rfl rfl (x_load1 H16 8 rfl rfl Tryd.underlying24 rfl rfl rfl) ?_)
      refine l_of (s_val (v := .pointer (some ⟨g, 0, none⟩)) (wt0 rfl) rfl rfl (x_nilCheck rfl rfl) ?_)
      refine l_of (s_val (v := .pointer (some ⟨g, 0, none⟩)) (wt0 rfl) rfl rfl (x_fieldAddr rfl rfl fo49_0 rfl) ?_)
      refine l_of (s_val (v := .pointer (some ⟨g, 0, none⟩)) (wt0 rfl) rfl rfl (x_fieldAddr rfl rfl fo46_0 rfl) ?_)
      refine l_of (s_val (v := .slice dp n dc) (wt0 rfl) rfl rfl (x_load1 H16 4 rfl rfl Tryd.underlying35 rfl rfl rfl) ?_)
      refine l_of (s_val (v := .int .i64 ((n : Int))) (wt0 rfl) rfl rfl (x_lenl rfl rfl Tryd.underlying35) ?_)
      refine l_of (s_val (v := .int .i64 0) (wt0 rfl) rfl rfl (x_move rfl rfl) ?_)
      refine g_nil ?_
      refine g_then ?_
      refine g_block ?_
      refine g_loop (ι := Nat × Option Addr × Nat × List Int) (fun (i9, pa, ca, A) => [(2, .pointer (some ⟨g1, 0, none⟩)), (6, .pointer (some ⟨p.b, 0, none⟩)), (8, .pointer (some ⟨g12, 0, none⟩)), (9, .slice pa A.length ca), (30, .int .i64 ((n : Int))), (31, .int .i64 ((i9 : Int)))]) (fun (i9, pa, ca, A) wx => (i9 ≤ n) ∧ (A = candM p.sh i9) ∧ (A.length ≤ i9) ∧ S wx [Rw 3 1 pa A.length ca (fl intL A), Ob g12 (.cells #[.func (.func 30) #[] #[.pointer (some ⟨g1, 0, none⟩)]] 66 (0, 0)), Ob p.b (.cells #[.slice p.tp p.told.length p.tc, .map (some p.hm)] 58 (0, 0)), Rw 3 1 p.tp p.told.length p.tc (fl intL p.told), Mp (Value.int .i64) Value.bool okI p.hm (hMap p.holds), Ob g (.cells #[.slice dp n dc, .slice ep n ec, .string seed, .map (some mg)] 49 (0, 0)), Rw 3 1 ep n ec (fl intL (cntL n (hcF (ps.map Pp.sh)))), Mp (Value.int .i64) ptV okI mg (peerM ps), (Lst PeI (ps.eraseIdx i)), Ob g1 (.cells #[.pointer (some ⟨g, 0, none⟩)] 24 (0, 0)), Rw 3 1 dp n dc (fl intL (cntL n (tcF (ps.map Pp.sh)))), Old w0 no, Old w (fps [(XM.I ⟨g, mg, dp, dc, ep, ec, seed, n, ps⟩), Old w0 no])]) (fun (i9, pa, ca, A) => n - i9) (0, none, 0, []) ⟨rfl, rfl, rfl, rfl, rfl, rfl, trivial⟩ ⟨Nat.zero_le _, rfl, (Nat.le_refl 0), ((H16.takes [0, 1, 2, 3, 4, 5, 6, 7, 8, 9, 10, 11] (by decide)).nilFl 3 1 intL)⟩ ?_
      rintro ⟨i9, pa, ca, A⟩ wq17 ⟨hi9, hA, hAl, H18⟩
      replace H18 : S wq17 [Rw 3 1 pa A.length ca (fl intL A), Ob g12 (.cells #[.func (.func 30) #[] #[.pointer (some ⟨g1, 0, none⟩)]] 66 (0, 0)), Ob p.b (.cells #[.slice p.tp p.told.length p.tc, .map (some p.hm)] 58 (0, 0)), Rw 3 1 p.tp p.told.length p.tc (fl intL p.told), Mp (Value.int .i64) Value.bool okI p.hm (hMap p.holds), Ob g (.cells #[.slice dp n dc, .slice ep n ec, .string seed, .map (some mg)] 49 (0, 0)), Rw 3 1 ep n ec (fl intL (cntL n (hcF (ps.map Pp.sh)))), Mp (Value.int .i64) ptV okI mg (peerM ps), (Lst PeI (ps.eraseIdx i)), Ob g1 (.cells #[.pointer (some ⟨g, 0, none⟩)] 24 (0, 0)), Rw 3 1 dp n dc (fl intL (cntL n (tcF (ps.map Pp.sh)))), Old w0 no, Old w (fps [(XM.I ⟨g, mg, dp, dc, ep, ec, seed, n, ps⟩), Old w0 no])] := H18
      refine g_weak [(2, .pointer (some ⟨g1, 0, none⟩)), (6, .pointer (some ⟨p.b, 0, none⟩)), (8, .pointer (some ⟨g12, 0, none⟩)), (9, .slice pa A.length ca), (30, .int .i64 ((n : Int))), (31, .int .i64 ((i9 : Int)))] ⟨rfl, rfl, rfl, rfl, rfl, rfl, trivial⟩ ?_
      refine g_seq ?_
      refine g_region ?_
      refine l_of (s_val (v := .bool (decide (((i9 : Int) : Int) < (n : Int)))) (wt0 rfl) rfl rfl (x_bin rfl rfl rfl b_lss) ?_)
      refine g_nil ?_
      refine g_then ?_
      refine g_seq ?_
      by_cases hb19 : ((i9 : Int) : Int) < (n : Int)
      · skip
        refine g_cond_t rfl (decide_eq_true hb19) ?_
        refine g_skip ?_
        refine g_then ?_
        refine g_seq ?_
        refine g_block ?_
        refine g_seq ?_
        refine g_region ?_
        refine l_of (s_val (v := .int .i64 ((i9 : Int))) (wt0 rfl) rfl rfl (x_move rfl rfl) ?_)
        refine l_of (s_val (v := .int .i64 ((i9 : Int))) (wt0 rfl) rfl rfl (x_assign rfl rfl) ?_)
        refine g_nil ?_
        refine g_then ?_
        refine g_seq ?_
        refine g_region ?_
        refine l_of (s_val (v := .pointer (some ⟨p.b, 0, none⟩)) (wt0 rfl) rfl rfl (x_move rfl rfl) ?_)
        refine l_of (s_val (v := .pointer (some ⟨p.b, 0, none⟩)) (wt0 rfl) rfl rfl (x_nilCheck rfl rfl) ?_)
        refine l_of (s_val (v := .pointer (some ⟨p.b, 1, none⟩)) (wt0 rfl) rfl rfl (x_fieldAddr rfl rfl fo58_1 rfl) ?_)
        refine l_of (s_val (v := .map (some p.hm)) (wt0 rfl) rfl rfl (x_load1 H18 2 rfl rfl Tryd.underlying56 rfl rfl rfl) ?_)
        refine l_of (s_val (v := .int .i64 ((i9 : Int))) (wt0 rfl) rfl rfl (x_move rfl rfl) ?_)
        refine l_of (s_val (v := .bool ((decide ((i9 : Int) ∈ p.holds)))) (wt0 rfl) rfl rfl (ex_cast (x_lookup1 (x := (i9 : Int)) (intTy Tryd.underlying56 Tryd.underlying3) H18 4 rfl rfl rfl rfl (⟨by omega, by omega⟩) ze4) (by rw [look_B, hMap_get])) ?_)
        refine l_of (s_val (v := .bool (!((decide ((i9 : Int) ∈ p.holds))))) (wt0 rfl) rfl rfl (x_not (b := (decide ((i9 : Int) ∈ p.holds))) rfl rfl) ?_)
        refine l_of (s_val (v := .bool (!((decide ((i9 : Int) ∈ p.holds))))) (wt0 rfl) rfl rfl (x_move rfl rfl) ?_)
        rcases Bool.eq_false_or_eq_true ((decide ((i9 : Int) ∈ p.holds))) with hb20 | hb20
        · skip
          refine l_of (s_not (wn1 rfl rfl rfl rfl (neg_of hb20)) rfl rfl ?_)
          refine l_of (s_not (wn1 rfl rfl rfl rfl (neg_of hb20)) rfl rfl ?_)
          refine l_of (s_not (wn1 rfl rfl rfl rfl (neg_of hb20)) rfl rfl ?_)
          refine l_of (s_not (wn1 rfl rfl rfl rfl (neg_of hb20)) rfl rfl ?_)
          refine l_of (s_not (wn1 rfl rfl rfl rfl (neg_of hb20)) rfl rfl ?_)
          refine l_of (s_not (wn1 rfl rfl rfl rfl (neg_of hb20)) rfl rfl ?_)
          refine l_of (s_not (wn1 rfl rfl rfl rfl (neg_of hb20)) rfl rfl ?_)
          refine l_of (s_val (v := .bool false) (wt0 rfl) rfl rfl (x_pick_f rfl rfl (neg_of hb20) rfl) ?_)
          refine g_nil ?_
          refine g_then ?_
          refine g_weak [(2, .pointer (some ⟨g1, 0, none⟩)), (6, .pointer (some ⟨p.b, 0, none⟩)), (8, .pointer (some ⟨g12, 0, none⟩)), (9, .slice pa A.length ca), (10, .int .i64 ((i9 : Int))), (30, .int .i64 ((n : Int))), (31, .int .i64 ((i9 : Int))), (49, .bool false)] ⟨rfl, rfl, rfl, rfl, rfl, rfl, rfl, rfl, trivial⟩ ?_
          refine g_cond_f rfl rfl ?_
          refine g_skip ?_
          refine g_in ?_
          refine g_then ?_
          refine g_region ?_
          refine l_of (s_val (v := .int .i64 (((i9 + 1 : Nat) : Int))) (wt0 rfl) rfl rfl (x_bin rfl rfl rfl (b_add (by rw [w64 (by omega)]; omega))) ?_)
          refine l_of (s_val (v := .int .i64 (((i9 + 1 : Nat) : Int))) (wt0 rfl) rfl rfl (x_move rfl rfl) ?_)
          refine g_nil ?_
          refine g_then ?_
          refine g_round (i := (i9, pa, ca, A)) ((i9 + 1), pa, ca, A) ?_ ?_ ?_
          · exact ⟨rfl, rfl, rfl, rfl, rfl, rfl, trivial⟩
          · exact ⟨by omega, (by rw [cand_snoc, ← hA]; unfold qC; simp [show p.sh.holds = p.holds from rfl, show p.sh.told = p.told from rfl, hb20]), (by first | omega | (simp only [List.length_append, List.length_cons, List.length_nil]; omega)), (H18.takes [0, 1, 2, 3, 4, 5, 6, 7, 8, 9, 10, 11, 12] (by decide))⟩
          · (try dsimp only); omega
        · skip
          refine l_of (s_val (v := .pointer (some ⟨p.b, 0, none⟩)) (wt1 rfl rfl rfl rfl (neg_of hb20)) rfl rfl (x_move rfl rfl) ?_)
          refine l_of (s_val (v := .pointer (some ⟨p.b, 0, none⟩)) (wt1 rfl rfl rfl rfl (neg_of hb20)) rfl rfl (x_nilCheck rfl rfl) ?_)
          refine l_of (s_val (v := .pointer (some ⟨p.b, 0, none⟩)) (wt1 rfl rfl rfl rfl (neg_of hb20)) rfl rfl (x_fieldAddr rfl rfl fo58_0 rfl) ?_)
          refine l_of (s_val (v := .slice p.tp p.told.length p.tc) (wt1 rfl rfl rfl rfl (neg_of hb20)) rfl rfl (x_load1 H18 2 rfl rfl Tryd.underlying35 rfl rfl rfl) ?_)
          refine l_of (s_val (v := .int .i64 ((i9 : Int))) (wt1 rfl rfl rfl rfl (neg_of hb20)) rfl rfl (x_move rfl rfl) ?_)
          refine l_of (s_call (wt1 rfl rfl rfl rfl (neg_of hb20)) (x_call' rfl rfl cl33) (cont_i p.told p.tp p.told.length p.tc (i9 : Int) (by omega) _ (H18.rwReads (k := 3) rfl)) ?_)
          rintro _ wq21 ⟨rfl, H22⟩
          replace H22 : S wq21 [Rw 3 1 pa A.length ca (fl intL A), Ob g12 (.cells #[.func (.func 30) #[] #[.pointer (some ⟨g1, 0, none⟩)]] 66 (0, 0)), Ob p.b (.cells #[.slice p.tp p.told.length p.tc, .map (some p.hm)] 58 (0, 0)), Rw 3 1 p.tp p.told.length p.tc (fl intL p.told), Mp (Value.int .i64) Value.bool okI p.hm (hMap p.holds), Ob g (.cells #[.slice dp n dc, .slice ep n ec, .string seed, .map (some mg)] 49 (0, 0)), Rw 3 1 ep n ec (fl intL (cntL n (hcF (ps.map Pp.sh)))), Mp (Value.int .i64) ptV okI mg (peerM ps), (Lst PeI (ps.eraseIdx i)), Ob g1 (.cells #[.pointer (some ⟨g, 0, none⟩)] 24 (0, 0)), Rw 3 1 dp n dc (fl intL (cntL n (tcF (ps.map Pp.sh)))), Old w0 no, Old w (fps [(XM.I ⟨g, mg, dp, dc, ep, ec, seed, n, ps⟩), Old w0 no])] := H18.absorb (new := []) H22
          refine b_ret rfl rfl ?_
          refine l_of (s_val (v := .bool (!((decide ((i9 : Int) ∈ p.told))))) (wt1 rfl rfl rfl rfl (neg_of hb20)) rfl rfl (x_not (b := (decide ((i9 : Int) ∈ p.told))) rfl rfl) ?_)
          refine l_of (s_val (v := .bool (!((decide ((i9 : Int) ∈ p.told))))) (wt0 rfl) rfl rfl (x_pick_t rfl rfl (neg_of hb20) rfl) ?_)
          refine g_nil ?_
          refine g_then ?_
          refine g_weak [(2, .pointer (some ⟨g1, 0, none⟩)), (6, .pointer (some ⟨p.b, 0, none⟩)), (8, .pointer (some ⟨g12, 0, none⟩)), (9, .slice pa A.length ca), (10, .int .i64 ((i9 : Int))), (30, .int .i64 ((n : Int))), (31, .int .i64 ((i9 : Int))), (49, .bool (!((decide ((i9 : Int) ∈ p.told)))))] ⟨rfl, rfl, rfl, rfl, rfl, rfl, rfl, rfl, trivial⟩ ?_
          rcases Bool.eq_false_or_eq_true ((decide ((i9 : Int) ∈ p.told))) with hb23 | hb23
          · skip
            refine g_cond_f rfl (neg_of hb23) ?_
            refine g_skip ?_
            refine g_in ?_
            refine g_then ?_
            refine g_region ?_
            refine l_of (s_val (v := .int .i64 (((i9 + 1 : Nat) : Int))) (wt0 rfl) rfl rfl (x_bin rfl rfl rfl (b_add (by rw [w64 (by omega)]; omega))) ?_)
            refine l_of (s_val (v := .int .i64 (((i9 + 1 : Nat) : Int))) (wt0 rfl) rfl rfl (x_move rfl rfl) ?_)
            refine g_nil ?_
            refine g_then ?_
            refine g_round (i := (i9, pa, ca, A)) ((i9 + 1), pa, ca, A) ?_ ?_ ?_
            · exact ⟨rfl, rfl, rfl, rfl, rfl, rfl, trivial⟩
            · exact ⟨by omega, (by rw [cand_snoc, ← hA]; unfold qC; simp [show p.sh.holds = p.holds from rfl, show p.sh.told = p.told from rfl, hb20, hb23]), (by first | omega | (simp only [List.length_append, List.length_cons, List.length_nil]; omega)), (H22.takes [0, 1, 2, 3, 4, 5, 6, 7, 8, 9, 10, 11, 12] (by decide))⟩
            · (try dsimp only); omega
          · skip
            refine g_cond_t rfl (neg_of hb23) ?_
            refine g_region ?_
            refine l_of (s_val (v := .slice pa A.length ca) (wt0 rfl) rfl rfl (x_move rfl rfl) ?_)
            refine l_of (s_val (v := .int .i64 ((i9 : Int))) (wt0 rfl) rfl rfl (x_move rfl rfl) ?_)
            refine l_of (s_buildSlice H22 (wt0 rfl) rfl rfl rfl (vs := [.int .i64 ((i9 : Int))]) rfl Tryd.underlying35 sz3 ze3 rfl rfl (cells := #[.int .i64 ((i9 : Int))]) (by kernel_rfl) ?_)
            intro g24 wq25 H26
            have hln31a := (H26.rwReads (k := 1) rfl).lenL intE
            have hln31 : (A ++ [(i9 : Int)]).length = A.length + 1 := by simp only [List.length_append, List.length_cons, List.length_nil] <;> omega
            refine l_of (s_appBn (m := 1) (l := A) (l2 := [(i9 : Int)]) intE H26 1 (j0 := 0) rfl rfl ⟨rfl, Nat.le_refl _⟩ (wt0 rfl) rfl rfl rfl rfl rfl rfl Tryd.underlying35 inf3 rfl (by decide) (by omega) ?_)
            intro p27 c28 wq29 H30
            replace H30 : S wq29 [Ob g24 (.cells #[.int .i64 ((i9 : Int))] 3 (0, 0)), Rw 3 1 p27 ((A ++ [(i9 : Int)]).length) c28 (fl intL (A ++ [(i9 : Int)])), Ob g12 (.cells #[.func (.func 30) #[] #[.pointer (some ⟨g1, 0, none⟩)]] 66 (0, 0)), Ob p.b (.cells #[.slice p.tp p.told.length p.tc, .map (some p.hm)] 58 (0, 0)), Rw 3 1 p.tp p.told.length p.tc (fl intL p.told), Mp (Value.int .i64) Value.bool okI p.hm (hMap p.holds), Ob g (.cells #[.slice dp n dc, .slice ep n ec, .string seed, .map (some mg)] 49 (0, 0)), Rw 3 1 ep n ec (fl intL (cntL n (hcF (ps.map Pp.sh)))), Mp (Value.int .i64) ptV okI mg (peerM ps), (Lst PeI (ps.eraseIdx i)), Ob g1 (.cells #[.pointer (some ⟨g, 0, none⟩)] 24 (0, 0)), Rw 3 1 dp n dc (fl intL (cntL n (tcF (ps.map Pp.sh)))), Old w0 no, Old w (fps [(XM.I ⟨g, mg, dp, dc, ep, ec, seed, n, ps⟩), Old w0 no])] := H30
            refine l_of (s_val (v := .slice p27 ((A ++ [(i9 : Int)]).length) c28) (wt0 rfl) rfl rfl (x_assign rfl rfl) ?_)
            refine g_nil ?_
            refine g_in ?_
            refine g_then ?_
            refine g_region ?_
            refine l_of (s_val (v := .int .i64 (((i9 + 1 : Nat) : Int))) (wt0 rfl) rfl rfl (x_bin rfl rfl rfl (b_add (by rw [w64 (by omega)]; omega))) ?_)
            refine l_of (s_val (v := .int .i64 (((i9 + 1 : Nat) : Int))) (wt0 rfl) rfl rfl (x_move rfl rfl) ?_)
            refine g_nil ?_
            refine g_then ?_
            refine g_round (i := (i9, pa, ca, A)) ((i9 + 1), p27, c28, (A ++ [(i9 : Int)])) ?_ ?_ ?_
            · exact ⟨rfl, rfl, rfl, rfl, rfl, rfl, trivial⟩
            · exact ⟨by omega, (by rw [cand_snoc, ← hA]; unfold qC; simp [show p.sh.holds = p.holds from rfl, show p.sh.told = p.told from rfl, hb20, hb23]), (by first | omega | (simp only [List.length_append, List.length_cons, List.length_nil]; omega)), (H30.takes [1, 2, 3, 4, 5, 6, 7, 8, 9, 10, 11, 12, 13] (by decide))⟩
            · (try dsimp only); omega
      · skip
        refine g_cond_f rfl (decide_eq_false hb19) ?_
        refine g_exit ?_
        refine g_then_exit ?_
        refine g_then_exit ?_
        refine g_in_hit ?_
        refine g_then ?_
        refine g_seq ?_
        refine g_seq ?_
        refine g_region ?_
        refine l_of (s_val (v := .slice pa A.length ca) (wt0 rfl) rfl rfl (x_move rfl rfl) ?_)
        refine l_of (s_val (v := .int .i64 ((A.length : Int))) (wt0 rfl) rfl rfl (x_lenl rfl rfl Tryd.underlying35) ?_)
        refine l_of (s_val (v := .bool (decide (((A.length : Int) : Int) = 0))) (wt0 rfl) rfl rfl (x_bin rfl rfl rfl b_eql) ?_)
        refine g_nil ?_
        refine g_then ?_
        by_cases hb32 : ((A.length : Int) : Int) = 0
        · skip
          refine g_cond_t rfl (decide_eq_true hb32) ?_
          refine g_seq ?_
          refine g_region ?_
          refine l_of (s_val (v := .int .i64 0) (wt0 rfl) rfl rfl (x_assign rfl rfl) ?_)
          refine l_of (s_val (v := .int .i64 9) (wt0 rfl) rfl rfl (x_assign rfl rfl) ?_)
          refine g_nil ?_
          refine g_then ?_
          refine g_ret ?_
          refine g_then_ret ?_
          refine fin_ret [.tmp 4, .tmp 5] [.int .i64 0, .int .i64 9] rfl ⟨rfl, rfl, trivial⟩ ?_
          rw [show (i9 : Nat) = n from by omega] at hA
          have hnE : nextE (⟨seed, n, ps.map Pp.sh⟩ : SP) p.id = if waitB (⟨seed, n, ps.map Pp.sh⟩ : SP) p.sh = true then 9 else if candM p.sh n = [] then 9 else 0 := by unfold nextE; rw [show fnd (SP.ps (⟨seed, n, ps.map Pp.sh⟩ : SP)) p.id = some i from hf]; show (if waitB (⟨seed, n, ps.map Pp.sh⟩ : SP) (getP (⟨seed, n, ps.map Pp.sh⟩ : SP) i) = true then (9 : Int) else if candM (getP (⟨seed, n, ps.map Pp.sh⟩ : SP) i) n = [] then 9 else 0) = _; rw [hg9]
          have hce : candM p.sh n = [] := by rw [← hA]; exact List.eq_nil_of_length_eq_zero (by omega)
          have hv : nextE (⟨seed, n, ps.map Pp.sh⟩ : SP) p.id = 9 := by rw [hnE, if_neg (by rw [hb11]; decide)]; exact if_pos hce
          have hE : nextE (⟨seed, n, ps.map Pp.sh⟩ : SP) p.id = 9 := by exact hv
          have hA : nextA (⟨seed, n, ps.map Pp.sh⟩ : SP) p.id = (⟨seed, n, ps.map Pp.sh⟩ : SP) := by unfold nextA; rw [hE]; exact if_neg (by decide)
          have hV : nextV (⟨seed, n, ps.map Pp.sh⟩ : SP) p.id = 0 := by unfold nextV; rw [show fnd (SP.ps (⟨seed, n, ps.map Pp.sh⟩ : SP)) p.id = some i from hf]; show (if nextE (⟨seed, n, ps.map Pp.sh⟩ : SP) p.id = 0 then _ else (0 : Int)) = 0; rw [hE]; exact if_neg (by decide)
          rw [hE, hV]
          exact ⟨⟨g, mg, dp, dc, ep, ec, seed, n, ps⟩, rfl, hA.symm, rfl, (S.big (L := [_, _, _, _, _]) ((S.lstBack (F := PeI) (S.big (L := [_, _, _]) (H18.takes [2, 3, 4, 8, 5, 10, 6, 7, 11, 12] (by decide))) hp).takes [1, 2, 3, 4, 0, 5, 6] (by decide)))⟩
        · skip
          refine g_cond_f rfl (decide_eq_false hb32) ?_
          refine g_skip ?_
          refine g_then ?_
          refine g_seq ?_
          refine g_region ?_
          refine l_of (s_val (v := .slice pa A.length ca) (wt0 rfl) rfl rfl (x_move rfl rfl) ?_)
          refine l_of (s_val (v := .func (.func 35) #[] #[.pointer (some ⟨g1, 0, none⟩), .pointer (some ⟨g12, 0, none⟩)]) (wt0 rfl) rfl rfl (x_makeFunc rfl rfl rfl) ?_)
          rw [show (i9 : Nat) = n from by omega] at hA
          subst hA
          have H33 : S wq17 [Rw 3 1 pa ((candM p.sh n).length) ca (fl intL (candM p.sh n)), Ob g12 (.cells #[.func (.func 30) #[] #[.pointer (some ⟨g1, 0, none⟩)]] 66 (0, 0)), Ob p.b (.cells #[.slice p.tp p.told.length p.tc, .map (some p.hm)] 58 (0, 0)), Rw 3 1 p.tp p.told.length p.tc (fl intL p.told), Mp (Value.int .i64) Value.bool okI p.hm (hMap p.holds), Ob g (.cells #[.slice dp n dc, .slice ep n ec, .string seed, .map (some mg)] 49 (0, 0)), Rw 3 1 ep n ec (fl intL (cntL n (hcF (ps.map Pp.sh)))), Mp (Value.int .i64) ptV okI mg (peerM ps), (Lst PeI (ps.eraseIdx i)), Ob g1 (.cells #[.pointer (some ⟨g, 0, none⟩)] 24 (0, 0)), Rw 3 1 dp n dc (fl intL (cntL n (tcF (ps.map Pp.sh)))), Old w0 no, Old w (fps [(XM.I ⟨g, mg, dp, dc, ep, ec, seed, n, ps⟩), Old w0 no])] := H18
          have H34 : S wq17 [(Big [Ob g1 (.cells #[.pointer (some ⟨g, 0, none⟩)] 24 (0, 0)), Ob g12 (.cells #[.func (.func 30) #[] #[.pointer (some ⟨g1, 0, none⟩)]] 66 (0, 0)), Ob g (.cells #[.slice dp n dc, .slice ep n ec, .string seed, .map (some mg)] 49 (0, 0)), Rw 3 1 dp n dc (fl intL (cntL n (tcF (ps.map Pp.sh)))), Rw 3 1 ep n ec (fl intL (cntL n (hcF (ps.map Pp.sh)))), Old w0 no]), Rw 3 1 pa ((candM p.sh n).length) ca (fl intL (candM p.sh n)), Ob p.b (.cells #[.slice p.tp p.told.length p.tc, .map (some p.hm)] 58 (0, 0)), Rw 3 1 p.tp p.told.length p.tc (fl intL p.told), Mp (Value.int .i64) Value.bool okI p.hm (hMap p.holds), Mp (Value.int .i64) ptV okI mg (peerM ps), (Lst PeI (ps.eraseIdx i)), Old w (fps [(XM.I ⟨g, mg, dp, dc, ep, ec, seed, n, ps⟩), Old w0 no])] := S.big (L := [Ob g1 (.cells #[.pointer (some ⟨g, 0, none⟩)] 24 (0, 0)), Ob g12 (.cells #[.func (.func 30) #[] #[.pointer (some ⟨g1, 0, none⟩)]] 66 (0, 0)), Ob g (.cells #[.slice dp n dc, .slice ep n ec, .string seed, .map (some mg)] 49 (0, 0)), Rw 3 1 dp n dc (fl intL (cntL n (tcF (ps.map Pp.sh)))), Rw 3 1 ep n ec (fl intL (cntL n (hcF (ps.map Pp.sh)))), Old w0 no]) (H33.takes [9, 1, 5, 10, 6, 11, 0, 2, 3, 4, 7, 8, 12] (by decide))
          refine l_of (s_call (wt0 rfl) (x_call' rfl rfl cl34) (minF_s (candM p.sh n) pa (candM p.sh n).length ca (by omega) (by omega) 35 #[] #[.pointer (some ⟨g1, 0, none⟩), .pointer (some ⟨g12, 0, none⟩)] (Big [Ob g1 (.cells #[.pointer (some ⟨g, 0, none⟩)] 24 (0, 0)), Ob g12 (.cells #[.func (.func 30) #[] #[.pointer (some ⟨g1, 0, none⟩)]] 66 (0, 0)), Ob g (.cells #[.slice dp n dc, .slice ep n ec, .string seed, .map (some mg)] 49 (0, 0)), Rw 3 1 dp n dc (fl intL (cntL n (tcF (ps.map Pp.sh)))), Rw 3 1 ep n ec (fl intL (cntL n (hcF (ps.map Pp.sh)))), Old w0 no]) (cN seed (ps.map Pp.sh)) (fun x => 0 ≤ x ∧ x < (n : Int)) (cN_wk seed (ps.map Pp.sh)) (next2_f g1 g12 g mg dp dc ep ec seed n ps hsd hn30 (by omega) w0 ht) (fun x hx => ⟨(cand_mem hx).1, (cand_mem hx).2.1⟩) _ (H34.takes [0] (by decide)) (H34.apartRw (i := 1) (k := 0) rfl rfl (by decide))) ?_)
          rintro _ wq35 ⟨j9, x9, rfl, hB9, H36⟩
          replace H36 : S wq35 [(Big [Ob g1 (.cells #[.pointer (some ⟨g, 0, none⟩)] 24 (0, 0)), Ob g12 (.cells #[.func (.func 30) #[] #[.pointer (some ⟨g1, 0, none⟩)]] 66 (0, 0)), Ob g (.cells #[.slice dp n dc, .slice ep n ec, .string seed, .map (some mg)] 49 (0, 0)), Rw 3 1 dp n dc (fl intL (cntL n (tcF (ps.map Pp.sh)))), Rw 3 1 ep n ec (fl intL (cntL n (hcF (ps.map Pp.sh)))), Old w0 no]), Rw 3 1 pa ((candM p.sh n).length) ca (fl intL (candM p.sh n)), Ob p.b (.cells #[.slice p.tp p.told.length p.tc, .map (some p.hm)] 58 (0, 0)), Rw 3 1 p.tp p.told.length p.tc (fl intL p.told), Mp (Value.int .i64) Value.bool okI p.hm (hMap p.holds), Mp (Value.int .i64) ptV okI mg (peerM ps), (Lst PeI (ps.eraseIdx i)), Old w (fps [(XM.I ⟨g, mg, dp, dc, ep, ec, seed, n, ps⟩), Old w0 no])] := H34.absorbI (new := [(Big [Ob g1 (.cells #[.pointer (some ⟨g, 0, none⟩)] 24 (0, 0)), Ob g12 (.cells #[.func (.func 30) #[] #[.pointer (some ⟨g1, 0, none⟩)]] 66 (0, 0)), Ob g (.cells #[.slice dp n dc, .slice ep n ec, .string seed, .map (some mg)] 49 (0, 0)), Rw 3 1 dp n dc (fl intL (cntL n (tcF (ps.map Pp.sh)))), Rw 3 1 ep n ec (fl intL (cntL n (hcF (ps.map Pp.sh)))), Old w0 no])]) [0] H36
          have hx9 := cand_mem (at_mem hB9.2.1)
          have H37 : S wq35 [Ob g1 (.cells #[.pointer (some ⟨g, 0, none⟩)] 24 (0, 0)), Ob g12 (.cells #[.func (.func 30) #[] #[.pointer (some ⟨g1, 0, none⟩)]] 66 (0, 0)), Ob g (.cells #[.slice dp n dc, .slice ep n ec, .string seed, .map (some mg)] 49 (0, 0)), Rw 3 1 dp n dc (fl intL (cntL n (tcF (ps.map Pp.sh)))), Rw 3 1 ep n ec (fl intL (cntL n (hcF (ps.map Pp.sh)))), Old w0 no, Rw 3 1 pa ((candM p.sh n).length) ca (fl intL (candM p.sh n)), Ob p.b (.cells #[.slice p.tp p.told.length p.tc, .map (some p.hm)] 58 (0, 0)), Rw 3 1 p.tp p.told.length p.tc (fl intL p.told), Mp (Value.int .i64) Value.bool okI p.hm (hMap p.holds), Mp (Value.int .i64) ptV okI mg (peerM ps), (Lst PeI (ps.eraseIdx i)), Old w (fps [(XM.I ⟨g, mg, dp, dc, ep, ec, seed, n, ps⟩), Old w0 no])] := S.unbig (H36.takes [0, 1, 2, 3, 4, 5, 6, 7] (by decide))
          refine b_ret rfl rfl ?_
          refine l_of (s_val (v := .int .i64 x9) (wt0 rfl) rfl rfl (x_assign rfl rfl) ?_)
          refine g_nil ?_
          refine g_then ?_
          refine g_seq ?_
          refine g_region ?_
          refine l_of (s_val (v := .pointer (some ⟨p.b, 0, none⟩)) (wt0 rfl) rfl rfl (x_move rfl rfl) ?_)
          refine l_of (s_val (v := .pointer (some ⟨p.b, 0, none⟩)) (wt0 rfl) rfl rfl (x_move rfl rfl) ?_)
          refine l_of (s_val (v := .pointer (some ⟨p.b, 0, none⟩)) (wt0 rfl) rfl rfl (x_nilCheck rfl rfl) ?_)
          refine l_of (s_val (v := .pointer (some ⟨p.b, 0, none⟩)) (wt0 rfl) rfl rfl (x_fieldAddr rfl rfl fo58_0 rfl) ?_)
          refine l_of (s_val (v := .slice p.tp p.told.length p.tc) (wt0 rfl) rfl rfl (x_load1 H37 7 rfl rfl Tryd.underlying35 rfl rfl rfl) ?_)
          refine l_of (s_val (v := .int .i64 x9) (wt0 rfl) rfl rfl (x_move rfl rfl) ?_)
          refine l_of (s_buildSlice H37 (wt0 rfl) rfl rfl rfl (vs := [.int .i64 x9]) rfl Tryd.underlying35 sz3 ze3 rfl rfl (cells := #[.int .i64 x9]) (by kernel_rfl) ?_)
          intro g38 wq39 H40
          have hln45a := (H40.rwReads (k := 9) rfl).lenL intE
          have hln45 : (p.told ++ [x9]).length = p.told.length + 1 := by simp only [List.length_append, List.length_cons, List.length_nil] <;> omega
          refine l_of (s_appBn (m := 1) (l := p.told) (l2 := [x9]) intE H40 9 (j0 := 0) rfl rfl ⟨rfl, Nat.le_refl _⟩ (wt0 rfl) rfl rfl rfl rfl rfl rfl Tryd.underlying35 inf3 rfl (by decide) (by omega) ?_)
          intro p41 c42 wq43 H44
          replace H44 : S wq43 [Ob g38 (.cells #[.int .i64 x9] 3 (0, 0)), Ob g1 (.cells #[.pointer (some ⟨g, 0, none⟩)] 24 (0, 0)), Ob g12 (.cells #[.func (.func 30) #[] #[.pointer (some ⟨g1, 0, none⟩)]] 66 (0, 0)), Ob g (.cells #[.slice dp n dc, .slice ep n ec, .string seed, .map (some mg)] 49 (0, 0)), Rw 3 1 dp n dc (fl intL (cntL n (tcF (ps.map Pp.sh)))), Rw 3 1 ep n ec (fl intL (cntL n (hcF (ps.map Pp.sh)))), Old w0 no, Rw 3 1 pa ((candM p.sh n).length) ca (fl intL (candM p.sh n)), Ob p.b (.cells #[.slice p.tp p.told.length p.tc, .map (some p.hm)] 58 (0, 0)), Rw 3 1 p41 ((p.told ++ [x9]).length) c42 (fl intL (p.told ++ [x9])), Mp (Value.int .i64) Value.bool okI p.hm (hMap p.holds), Mp (Value.int .i64) ptV okI mg (peerM ps), (Lst PeI (ps.eraseIdx i)), Old w (fps [(XM.I ⟨g, mg, dp, dc, ep, ec, seed, n, ps⟩), Old w0 no])] := H44
          refine l_of (s_val (v := .pointer (some ⟨p.b, 0, none⟩)) (wt0 rfl) rfl rfl (x_nilCheck rfl rfl) ?_)
          refine l_of (s_val (v := .pointer (some ⟨p.b, 0, none⟩)) (wt0 rfl) rfl rfl (x_fieldAddr rfl rfl fo58_0 rfl) ?_)
          refine l_of (s_store H44 8 (wt0 rfl) rfl rfl rfl rfl rfl sz35 rfl rfl (cs' := #[.slice p41 ((p.told ++ [x9]).length) c42, .map (some p.hm)]) rfl ?_)
          intro wq46 H47
          refine g_nil ?_
          refine g_then ?_
          refine g_weak [(2, .pointer (some ⟨g1, 0, none⟩)), (11, .int .i64 x9)] ⟨rfl, rfl, trivial⟩ ?_
          refine g_seq ?_
          refine g_region ?_
          refine l_of (s_val (v := .pointer (some ⟨g, 0, none⟩)) (wt0 rfl) rfl rfl (x_load1 H47 1 rfl rfl Tryd.underlying24 rfl rfl rfl) ?_)
          refine l_of (s_val (v := .pointer (some ⟨g, 0, none⟩)) (wt0 rfl) rfl rfl (x_nilCheck rfl rfl) ?_)
          refine l_of (s_val (v := .pointer (some ⟨g, 0, none⟩)) (wt0 rfl) rfl rfl (x_fieldAddr rfl rfl fo49_0 rfl) ?_)
          refine l_of (s_val (v := .pointer (some ⟨g, 0, none⟩)) (wt0 rfl) rfl rfl (x_fieldAddr rfl rfl fo46_0 rfl) ?_)
          refine l_of (s_val (v := .slice dp n dc) (wt0 rfl) rfl rfl (x_load1 H47 3 rfl rfl Tryd.underlying35 rfl rfl rfl) ?_)
          refine l_of (s_val (v := .int .i64 x9) (wt0 rfl) rfl rfl (x_move rfl rfl) ?_)
          refine l_of (s_val (v := .pointer ((dp).map fun q => q.add (((x9).toNat) * 1))) (wt0 rfl) rfl rfl (x_idxR ((x9).toNat) (H47.rwReads (k := 4) rfl) rfl rfl rfl Tryd.underlying35 sz3 (by omega)) ?_)
          have hlq := (H47.rwReads (k := 4) rfl).lenL intE
          obtain ⟨x48, hx48⟩ := ex_at (l := (cntL n (tcF (ps.map Pp.sh)))) (j := ((x9).toNat)) (by omega)
          clear hlq
          have hyx48 : x48 = (tcN (ps.map Pp.sh) x9 : Int) := by have h9 := (cntL_at hx48).2; unfold tcF at h9; rw [show ((x9.toNat : Nat) : Int) = x9 from by omega] at h9; exact h9
          have hzx48 := tcN_le (ps.map Pp.sh) x9
          rw [List.length_map] at hzx48
          refine l_of (s_val (v := .int .i64 x48) (wt0 rfl) rfl rfl (x_loadR1 ((x9).toNat) (H47.rwReads (k := 4) rfl) (by omega) rfl rfl Tryd.underlying3 rfl (intE.flAt1 hx48 rfl)) ?_)
          refine l_of (s_val (v := .int .i64 (x48 + 1)) (wt0 rfl) rfl rfl (x_bin rfl rfl rfl (b_add (w64 (by omega)))) ?_)
          refine l_of (s_val (v := .pointer ((dp).map fun q => q.add (((x9).toNat) * 1))) (wt0 rfl) rfl rfl (x_idxR ((x9).toNat) (H47.rwReads (k := 4) rfl) rfl rfl rfl Tryd.underlying35 sz3 (by omega)) ?_)
          refine l_of (s_stoL (j := ((x9).toNat)) intE (x48 + 1) H47 4 (wt0 rfl) rfl rfl rfl rfl rfl rfl sz3 (by omega) ?_)
          intro wq49 H50
          replace H50 : S wq49 [Ob g38 (.cells #[.int .i64 x9] 3 (0, 0)), Ob g1 (.cells #[.pointer (some ⟨g, 0, none⟩)] 24 (0, 0)), Ob g12 (.cells #[.func (.func 30) #[] #[.pointer (some ⟨g1, 0, none⟩)]] 66 (0, 0)), Ob g (.cells #[.slice dp n dc, .slice ep n ec, .string seed, .map (some mg)] 49 (0, 0)), Rw 3 1 dp n dc (fl intL ((cntL n (tcF (ps.map Pp.sh))).set ((x9).toNat) (x48 + 1))), Rw 3 1 ep n ec (fl intL (cntL n (hcF (ps.map Pp.sh)))), Old w0 no, Rw 3 1 pa ((candM p.sh n).length) ca (fl intL (candM p.sh n)), Ob p.b (.cells #[.slice p41 ((p.told ++ [x9]).length) c42, .map (some p.hm)] 58 (0, 0)), Rw 3 1 p41 ((p.told ++ [x9]).length) c42 (fl intL (p.told ++ [x9])), Mp (Value.int .i64) Value.bool okI p.hm (hMap p.holds), Mp (Value.int .i64) ptV okI mg (peerM ps), (Lst PeI (ps.eraseIdx i)), Old w (fps [(XM.I ⟨g, mg, dp, dc, ep, ec, seed, n, ps⟩), Old w0 no])] := H50
          refine g_nil ?_
          refine g_then ?_
          refine g_seq ?_
          refine g_region ?_
          refine l_of (s_val (v := .int .i64 x9) (wt0 rfl) rfl rfl (x_move rfl rfl) ?_)
          refine l_of (s_val (v := .int .i64 x9) (wt0 rfl) rfl rfl (x_assign rfl rfl) ?_)
          refine l_of (s_val (v := .int .i64 0) (wt0 rfl) rfl rfl (x_assign rfl rfl) ?_)
          refine g_nil ?_
          refine g_then ?_
          refine g_weak [(4, .int .i64 x9), (5, .int .i64 0)] ⟨rfl, rfl, trivial⟩ ?_
          refine g_ret ?_
          refine fin_ret [.tmp 4, .tmp 5] [.int .i64 x9, .int .i64 0] rfl ⟨rfl, rfl, trivial⟩ ?_
          have hnE : nextE (⟨seed, n, ps.map Pp.sh⟩ : SP) p.id = if waitB (⟨seed, n, ps.map Pp.sh⟩ : SP) p.sh = true then 9 else if candM p.sh n = [] then 9 else 0 := by unfold nextE; rw [show fnd (SP.ps (⟨seed, n, ps.map Pp.sh⟩ : SP)) p.id = some i from hf]; show (if waitB (⟨seed, n, ps.map Pp.sh⟩ : SP) (getP (⟨seed, n, ps.map Pp.sh⟩ : SP) i) = true then (9 : Int) else if candM (getP (⟨seed, n, ps.map Pp.sh⟩ : SP) i) n = [] then 9 else 0) = _; rw [hg9]
          have hxm := cand_mem (at_mem hB9.2.1)
          have hv : nextE (⟨seed, n, ps.map Pp.sh⟩ : SP) p.id = 0 := by rw [hnE, if_neg (by rw [hb11]; decide)]; exact if_neg (fun h => by rw [h] at hB9; exact absurd hB9.1 (by simp))
          have hV : nextV (⟨seed, n, ps.map Pp.sh⟩ : SP) p.id = x9 := by unfold nextV; rw [show fnd (SP.ps (⟨seed, n, ps.map Pp.sh⟩ : SP)) p.id = some i from hf]; show (if nextE (⟨seed, n, ps.map Pp.sh⟩ : SP) p.id = 0 then bestI seed (ps.map Pp.sh) (candM (getP (⟨seed, n, ps.map Pp.sh⟩ : SP) i) n) else 0) = x9; rw [if_pos hv, hg9]; exact bestI_is (by have := cand_len p.sh n; omega) hB9
          have hA9 : nextA (⟨seed, n, ps.map Pp.sh⟩ : SP) p.id = ⟨seed, n, (ps.set i ({ p with tp := p41, tc := c42, told := p.told ++ [x9] } : Pp)).map Pp.sh⟩ := by unfold nextA; rw [if_pos hv, show fnd (SP.ps (⟨seed, n, ps.map Pp.sh⟩ : SP)) p.id = some i from hf, List.map_set]; show (⟨seed, n, (ps.map Pp.sh).set i { getP (⟨seed, n, ps.map Pp.sh⟩ : SP) i with told := (getP (⟨seed, n, ps.map Pp.sh⟩ : SP) i).told ++ [nextV (⟨seed, n, ps.map Pp.sh⟩ : SP) p.id] }⟩ : SP) = _; rw [hg9, hV]; rfl
          have e1 : ((cntL n (tcF (ps.map Pp.sh))).set ((x9).toNat) (x48 + 1)) = cntL n (tcF ((ps.set i ({ p with tp := p41, tc := c42, told := p.told ++ [x9] } : Pp)).map Pp.sh)) := by rw [List.map_set]; exact inc_tc hq hxm.2.2.2 hxm.1 hx48
          have e2 : (cntL n (hcF (ps.map Pp.sh))) = cntL n (hcF ((ps.set i ({ p with tp := p41, tc := c42, told := p.told ++ [x9] } : Pp)).map Pp.sh)) := by rw [List.map_set]; exact (hcF_put (r := ({ p with tp := p41, tc := c42, told := p.told ++ [x9] } : Pp).sh) hq rfl).symm
          have e3 : peerM ps = peerM (ps.set i ({ p with tp := p41, tc := c42, told := p.told ++ [x9] } : Pp)) := (peerM_put (r := ({ p with tp := p41, tc := c42, told := p.told ++ [x9] } : Pp)) hnd hp rfl rfl).symm
          rw [e1, e2, e3] at H50
          rw [hv, hV]
          have h9 := S.lstIn (F := PeI) (x := ({ p with tp := p41, tc := c42, told := p.told ++ [x9] } : Pp)) (S.big (L := [_, _, _]) (H50.takes [8, 9, 10, 12, 3, 4, 5, 11, 6, 13] (by decide))) (List.getElem?_eq_some_iff.1 hp).1
          exact ⟨⟨g, mg, dp, dc, ep, ec, seed, n, ps.set i ({ p with tp := p41, tc := c42, told := p.told ++ [x9] } : Pp)⟩, rfl, hA9.symm, rfl, S.big (L := [_, _, _, _, _]) (h9.takes [1, 2, 3, 4, 0, 5, 6] (by decide))⟩
  · skip
    replace H5 : S wq4 [Ob g (.cells #[.slice dp n dc, .slice ep n ec, .string seed, .map (some mg)] 49 (0, 0)), Mp (Value.int .i64) ptV okI mg (peerM ps), Ob g1 (.cells #[.pointer (some ⟨g, 0, none⟩)] 24 (0, 0)), Rw 3 1 dp n dc (fl intL (cntL n (tcF (ps.map Pp.sh)))), Rw 3 1 ep n ec (fl intL (cntL n (hcF (ps.map Pp.sh)))), (Lst PeI ps), Old w0 no, Old w (fps [(XM.I ⟨g, mg, dp, dc, ep, ec, seed, n, ps⟩), Old w0 no])] := H3.absorbI (new := [Ob g (.cells #[.slice dp n dc, .slice ep n ec, .string seed, .map (some mg)] 49 (0, 0)), Mp (Value.int .i64) ptV okI mg (peerM ps)]) [1, 4] H5
    have hf : fnd (ps.map Pp.sh) id = none := by cases h9 : fnd (ps.map Pp.sh) id with | none => rfl | some i9 => have := hPI.neg (id := id) h9; omega
    refine b_ret rfl rfl ?_
    refine l_of (s_val (v := .tuple #[.pointer none, .int .i64 7]) (wt0 rfl) rfl rfl (x_move rfl rfl) ?_)
    refine l_of (s_val (v := .pointer none) (wt0 rfl) rfl rfl (x_extract rfl rfl rfl) ?_)
    refine l_of (s_val (v := .int .i64 7) (wt0 rfl) rfl rfl (x_extract rfl rfl rfl) ?_)
    refine l_of (s_val (v := .pointer none) (wt0 rfl) rfl rfl (x_assign rfl rfl) ?_)
    refine l_of (s_val (v := .int .i64 7) (wt0 rfl) rfl rfl (x_assign rfl rfl) ?_)
    refine g_nil ?_
    refine g_then ?_
    refine g_seq ?_
    refine g_seq ?_
    refine g_region ?_
    refine l_of (s_val (v := .int .i64 7) (wt0 rfl) rfl rfl (x_move rfl rfl) ?_)
    refine l_of (s_val (v := .bool (!decide ((7 : Int) = 0))) (wt0 rfl) rfl rfl (x_bin rfl rfl rfl b_neq) ?_)
    refine g_nil ?_
    refine g_then ?_
    refine g_cond_t rfl (by decide) ?_
    refine g_seq ?_
    refine g_region ?_
    refine l_of (s_val (v := .int .i64 7) (wt0 rfl) rfl rfl (x_move rfl rfl) ?_)
    refine l_of (s_val (v := .int .i64 0) (wt0 rfl) rfl rfl (x_assign rfl rfl) ?_)
    refine l_of (s_val (v := .int .i64 7) (wt0 rfl) rfl rfl (x_assign rfl rfl) ?_)
    refine g_nil ?_
    refine g_then ?_
    refine g_weak [(4, .int .i64 0), (5, .int .i64 7)] ⟨rfl, rfl, trivial⟩ ?_
    refine g_ret ?_
    refine g_then_ret ?_
    refine fin_ret [.tmp 4, .tmp 5] [.int .i64 0, .int .i64 7] rfl ⟨rfl, rfl, trivial⟩ ?_
    have hv : nextE (⟨seed, n, ps.map Pp.sh⟩ : SP) id = 7 := by unfold nextE; rw [show fnd (SP.ps (⟨seed, n, ps.map Pp.sh⟩ : SP)) id = none from hf]; exact if_pos h0i
    have hE : nextE (⟨seed, n, ps.map Pp.sh⟩ : SP) id = 7 := by exact hv
    have hA : nextA (⟨seed, n, ps.map Pp.sh⟩ : SP) id = (⟨seed, n, ps.map Pp.sh⟩ : SP) := by unfold nextA; rw [hE]; exact if_neg (by decide)
    have hV : nextV (⟨seed, n, ps.map Pp.sh⟩ : SP) id = 0 := by unfold nextV; rw [show fnd (SP.ps (⟨seed, n, ps.map Pp.sh⟩ : SP)) id = none from hf]
    rw [hE, hV]
    exact ⟨⟨g, mg, dp, dc, ep, ec, seed, n, ps⟩, rfl, hA.symm, rfl, (S.big (L := [_, _, _, _, _]) (H5.takes [0, 3, 4, 1, 5, 6, 7] (by decide)))⟩
  · skip
    replace H5 : S wq4 [Ob g (.cells #[.slice dp n dc, .slice ep n ec, .string seed, .map (some mg)] 49 (0, 0)), Mp (Value.int .i64) ptV okI mg (peerM ps), Ob g1 (.cells #[.pointer (some ⟨g, 0, none⟩)] 24 (0, 0)), Rw 3 1 dp n dc (fl intL (cntL n (tcF (ps.map Pp.sh)))), Rw 3 1 ep n ec (fl intL (cntL n (hcF (ps.map Pp.sh)))), (Lst PeI ps), Old w0 no, Old w (fps [(XM.I ⟨g, mg, dp, dc, ep, ec, seed, n, ps⟩), Old w0 no])] := H3.absorbI (new := [Ob g (.cells #[.slice dp n dc, .slice ep n ec, .string seed, .map (some mg)] 49 (0, 0)), Mp (Value.int .i64) ptV okI mg (peerM ps)]) [1, 4] H5
    have hf : fnd (ps.map Pp.sh) id = none := peerM_none hMb
    refine b_ret rfl rfl ?_
    refine l_of (s_val (v := .tuple #[.pointer none, .int .i64 8]) (wt0 rfl) rfl rfl (x_move rfl rfl) ?_)
    refine l_of (s_val (v := .pointer none) (wt0 rfl) rfl rfl (x_extract rfl rfl rfl) ?_)
    refine l_of (s_val (v := .int .i64 8) (wt0 rfl) rfl rfl (x_extract rfl rfl rfl) ?_)
    refine l_of (s_val (v := .pointer none) (wt0 rfl) rfl rfl (x_assign rfl rfl) ?_)
    refine l_of (s_val (v := .int .i64 8) (wt0 rfl) rfl rfl (x_assign rfl rfl) ?_)
    refine g_nil ?_
    refine g_then ?_
    refine g_seq ?_
    refine g_seq ?_
    refine g_region ?_
    refine l_of (s_val (v := .int .i64 8) (wt0 rfl) rfl rfl (x_move rfl rfl) ?_)
    refine l_of (s_val (v := .bool (!decide ((8 : Int) = 0))) (wt0 rfl) rfl rfl (x_bin rfl rfl rfl b_neq) ?_)
    refine g_nil ?_
    refine g_then ?_
    refine g_cond_t rfl (by decide) ?_
    refine g_seq ?_
    refine g_region ?_
    refine l_of (s_val (v := .int .i64 8) (wt0 rfl) rfl rfl (x_move rfl rfl) ?_)
    refine l_of (s_val (v := .int .i64 0) (wt0 rfl) rfl rfl (x_assign rfl rfl) ?_)
    refine l_of (s_val (v := .int .i64 8) (wt0 rfl) rfl rfl (x_assign rfl rfl) ?_)
    refine g_nil ?_
    refine g_then ?_
    refine g_weak [(4, .int .i64 0), (5, .int .i64 8)] ⟨rfl, rfl, trivial⟩ ?_
    refine g_ret ?_
    refine g_then_ret ?_
    refine fin_ret [.tmp 4, .tmp 5] [.int .i64 0, .int .i64 8] rfl ⟨rfl, rfl, trivial⟩ ?_
    have hv : nextE (⟨seed, n, ps.map Pp.sh⟩ : SP) id = 8 := by unfold nextE; rw [show fnd (SP.ps (⟨seed, n, ps.map Pp.sh⟩ : SP)) id = none from hf]; exact if_neg (by omega)
    have hE : nextE (⟨seed, n, ps.map Pp.sh⟩ : SP) id = 8 := by exact hv
    have hA : nextA (⟨seed, n, ps.map Pp.sh⟩ : SP) id = (⟨seed, n, ps.map Pp.sh⟩ : SP) := by unfold nextA; rw [hE]; exact if_neg (by decide)
    have hV : nextV (⟨seed, n, ps.map Pp.sh⟩ : SP) id = 0 := by unfold nextV; rw [show fnd (SP.ps (⟨seed, n, ps.map Pp.sh⟩ : SP)) id = none from hf]
    rw [hE, hV]
    exact ⟨⟨g, mg, dp, dc, ep, ec, seed, n, ps⟩, rfl, hA.symm, rfl, (S.big (L := [_, _, _, _, _]) (H5.takes [0, 3, 4, 1, 5, 6, 7] (by decide)))⟩
end Go.Proofs.YthfglkkjkpdkpaaDoor
