import Derived.Test.YtlikhpfdncidkaaBz
set_option linter.unusedSimpArgs false
set_option linter.unusedVariables false
namespace Go.Proofs.Ytlikhpfdncidkaa
open Go.RowKit

/-! ## The page's example, in plain words -/
theorem upM_some {κ α : Type} [DecidableEq κ] {t : κ → Option α} {s x : κ} {v y : α} (h : upM t s v x = some y) : (x = s ∧ y = v) ∨ (¬ x = s ∧ t x = some y) := by
  unfold upM at h
  split at h
  · rename_i e; cases h; exact .inl ⟨e, rfl⟩
  · rename_i e; exact .inr ⟨e, h⟩
theorem upM_at {κ α : Type} [DecidableEq κ] {t : κ → Option α} {s : κ} {v : α} : upM t s v s = some v := if_pos rfl
theorem upM_other {κ α : Type} [DecidableEq κ] {t : κ → Option α} {s x : κ} {v : α} (h : ¬ x = s) : upM t s v x = t x := if_neg h
theorem sentA_ok {A : BS} {p i bg ln : Int} {data : ByteArray} (h : sentE A p i bg ln data = 0) : sentA A p i bg ln data = { A with nw := fun j => if j = i then upM (A.nw i) (bg, ln) (p, sumS data) else A.nw j } := if_pos h
theorem sentA_nw {A : BS} {p i bg ln : Int} {data : ByteArray} (h : sentE A p i bg ln data = 0) : (sentA A p i bg ln data).nw i = upM (A.nw i) (bg, ln) (p, sumS data) := by rw [sentA_ok h]; exact if_pos rfl
theorem sentA_sc {A : BS} {p i bg ln : Int} {data : ByteArray} : (sentA A p i bg ln data).sc = A.sc ∧ (sentA A p i bg ln data).bn = A.bn ∧ (sentA A p i bg ln data).od = A.od := by
  unfold sentA
  split <;> exact ⟨rfl, rfl, rfl⟩
theorem okp_01 {a b : Int} (h : 0 ≤ a ∧ a ≤ 1024 ∧ 1 ≤ b ∧ b ≤ 1024) : okP (a, b) := okP_of h
theorem ascI_nil : ascI [] = [] := by unfold ascI; rw [show sortI [] = [] from by simp [sortI]]; rfl
theorem ascI_one (x : Int) : ascI [x] = [x] := ascI_of (List.pairwise_singleton ..) fun _ => Iff.rfl
theorem banL_nil (A : BS) : banL A [] = [] := by unfold banL; rw [ascI_nil]; rfl
theorem banM_nil (A : BS) : banM A [] = A.bn := by funext y; unfold banM; simp
theorem failA_bn {A : BS} {i : Int} (h : endE A i = 0) : (failA A i).bn = banM A (failL (A.nw i)) := by unfold failA; rw [if_pos h]
theorem failA_nw {A : BS} {i : Int} (h : endE A i = 0) (j : Int) : (failA A i).nw j = if j = i then noT else A.nw j := by unfold failA; rw [if_pos h]
theorem failA_od {A : BS} {i : Int} (h : endE A i = 0) (j : Int) : (failA A i).od j = if j = i then lastTen (A.od i ++ [A.nw i]) else A.od j := by unfold failA; rw [if_pos h]
theorem goodA_bn {A : BS} {i : Int} (h : endE A i = 0) : (goodA A i).bn = banM A (outL (A.nw i) (A.od i)) := by unfold goodA; rw [if_pos h]
theorem goodA_od {A : BS} {i : Int} (h : endE A i = 0) (j : Int) : (goodA A i).od j = if j = i then [] else A.od j := by unfold goodA; rw [if_pos h]
noncomputable def aw1 : BS := sentA BS.none 1 0 0 1 baA
noncomputable def aw2 : BS := sentA aw1 2 0 1 1 baB
noncomputable def aw3 : BS := failA aw2 0
noncomputable def aw4 : BS := sentA aw3 3 0 0 1 baA
noncomputable def aw5 : BS := sentA aw4 3 0 1 1 baC
noncomputable def aw6 : BS := goodA aw5 0
def aT1 : Tr := upM noT (0, 1) (1, sumS baA)
def aT2 : Tr := upM aT1 (1, 1) (2, sumS baB)
def aT4 : Tr := upM noT (0, 1) (3, sumS baA)
def aT5 : Tr := upM aT4 (1, 1) (3, sumS baC)
theorem aw_e1 : sentE BS.none 1 0 0 1 baA = 0 := sentE_ok (by decide) rfl rfl (fun s v h => by cases h)
theorem aw_n1 : aw1.nw 0 = aT1 := sentA_nw aw_e1
theorem aw_e2 : sentE aw1 2 0 1 1 baB = 0 := sentE_ok (by decide) rfl (by unfold aw1; rw [sentA_sc.2.1]; rfl) (fun s v h => by
  rw [aw_n1] at h
  rcases upM_some h with ⟨rfl, _⟩ | ⟨_, h⟩
  · decide
  · cases h)
theorem aw_n2 : aw2.nw 0 = aT2 := by unfold aw2; rw [sentA_nw aw_e2, aw_n1]; rfl
theorem aw_b2 (y : Int) : aw2.bn y = false := by unfold aw2 aw1; rw [sentA_sc.2.1, sentA_sc.2.1]; rfl
theorem aw_o2 (y : Int) : aw2.od y = [] := by unfold aw2 aw1; rw [sentA_sc.2.2, sentA_sc.2.2]; rfl
theorem aT2_1 : aT2 (0, 1) = some (1, sumS baA) := (upM_other (by decide)).trans upM_at
theorem aT2_2 : aT2 (1, 1) = some (2, sumS baB) := upM_at
theorem aT2_of {s : Sp} {v : Sn} (h : aT2 s = some v) : (s = (0, 1) ∧ v = (1, sumS baA)) ∨ (s = (1, 1) ∧ v = (2, sumS baB)) := by
  rcases upM_some h with h | ⟨_, h⟩
  · exact .inr h
  · rcases upM_some h with h | ⟨_, h⟩
    · exact .inl h
    · cases h
theorem aT2_who : whoL aT2 = [1, 2] := whoL_eq ⟨by decide, fun x => by
  constructor
  · intro h
    rcases List.mem_cons.1 h with rfl | h
    · exact ⟨(0, 1), _, okp_01 (by decide), aT2_1⟩
    · rw [List.mem_singleton] at h; subst h
      exact ⟨(1, 1), _, okp_01 (by decide), aT2_2⟩
  · rintro ⟨s, d, _, h⟩
    rcases aT2_of h with ⟨_, h⟩ | ⟨_, h⟩ <;> cases h <;> simp⟩
theorem aw_f2 : endE aw2 0 = 0 := endE_ok (by decide) (by rw [aw_n2]; exact aT2_1)
theorem aT2_fail : failL aT2 = [] := if_neg (by rw [aT2_who]; decide)
theorem aw_r2 : failR aw2 0 = [] := by unfold failR; rw [if_pos aw_f2, aw_n2, aT2_fail, banL_nil]
theorem aw_b3 (y : Int) : aw3.bn y = false := by unfold aw3; rw [failA_bn aw_f2, aw_n2, aT2_fail, banM_nil, aw_b2]
theorem aw_n3 : aw3.nw 0 = noT := by unfold aw3; rw [failA_nw aw_f2, if_pos rfl]
theorem aw_o3 : aw3.od 0 = [aT2] := by unfold aw3; rw [failA_od aw_f2, if_pos rfl, aw_o2, aw_n2]; rfl
theorem aw_o3n (y : Int) (h : ¬ y = 0) : aw3.od y = [] := by unfold aw3; rw [failA_od aw_f2, if_neg h, aw_o2]
theorem par_yes {A : BS} {p i : Int} {t : Tr} (hb : A.bn p = false) (hi : okI i) (ht : t ∈ A.od i) (hp : p ∈ whoL t) : A.par p = true := by
  unfold BS.par
  rw [hb, @decide_eq_true _ (_) (show A.onOld p from ⟨i, hi, t, ht, hp⟩)]; rfl
theorem par_no {A : BS} {p : Int} (h : ∀ i, ∀ t ∈ A.od i, ¬ p ∈ whoL t) : A.par p = false := by
  unfold BS.par
  rw [@decide_eq_false _ (_) (show ¬ A.onOld p from fun ⟨i, _, t, a, b⟩ => h i t a b), Bool.and_false]
theorem aw_p1 : aw3.par 1 = true := par_yes (aw_b3 1) (ok_small (by decide : (0:Int) ≤ 0 ∧ (0:Int) ≤ 1048576)) (t := aT2) (by rw [aw_o3]; simp) (by rw [aT2_who]; simp)
theorem aw_p2 : aw3.par 2 = true := par_yes (aw_b3 2) (ok_small (by decide : (0:Int) ≤ 0 ∧ (0:Int) ≤ 1048576)) (t := aT2) (by rw [aw_o3]; simp) (by rw [aT2_who]; simp)
theorem aw_e4 : sentE aw3 3 0 0 1 baA = 0 := sentE_ok (by decide) rfl (aw_b3 3) (fun s v h => by rw [aw_n3] at h; cases h)
theorem aw_n4 : aw4.nw 0 = aT4 := by unfold aw4; rw [sentA_nw aw_e4, aw_n3]; rfl
theorem aw_e5 : sentE aw4 3 0 1 1 baC = 0 := sentE_ok (by decide) rfl (by unfold aw4; rw [sentA_sc.2.1]; exact aw_b3 3) (fun s v h => by
  rw [aw_n4] at h
  rcases upM_some h with ⟨rfl, _⟩ | ⟨_, h⟩
  · decide
  · cases h)
theorem aw_n5 : aw5.nw 0 = aT5 := by unfold aw5; rw [sentA_nw aw_e5, aw_n4]; rfl
theorem aw_b5 (y : Int) : aw5.bn y = false := by unfold aw5 aw4; rw [sentA_sc.2.1, sentA_sc.2.1]; exact aw_b3 y
theorem aw_o5 : aw5.od = aw3.od := by unfold aw5 aw4; rw [sentA_sc.2.2, sentA_sc.2.2]
theorem aT5_1 : aT5 (0, 1) = some (3, sumS baA) := (upM_other (by decide)).trans upM_at
theorem aT5_2 : aT5 (1, 1) = some (3, sumS baC) := upM_at
theorem aw_f5 : endE aw5 0 = 0 := endE_ok (by decide) (by rw [aw_n5]; exact aT5_1)
theorem gB_yes {right t : Tr} {p : Int} (h : differ right t p) : gB right t p = true := by unfold gB; rw [@decide_eq_true _ (_) h]; rfl
theorem gB_no {right t : Tr} {p : Int} (h : ¬ differ right t p) (h2 : ¬ (whoL t).length = 1) : gB right t p = false := by unfold gB; rw [@decide_eq_false _ (_) h, decide_eq_false h2]; rfl
theorem aw_g1 : gB aT5 aT2 1 = false := gB_no (by
  rintro ⟨s, d, y, d2, _, h1, h2, h3⟩
  rcases aT2_of h1 with ⟨rfl, h⟩ | ⟨rfl, h⟩
  · cases h
    rw [aT5_1] at h2
    cases h2
    exact h3 rfl
  · cases h) (by rw [aT2_who]; decide)
theorem aw_g2 : gB aT5 aT2 2 = true := gB_yes ⟨(1, 1), _, _, _, okp_01 (by decide), aT2_2, aT5_2, sum_bc⟩
theorem aw_out : outL aT5 [aT2] = [2] := by
  unfold outL
  rw [List.flatMap_cons, List.flatMap_nil, List.append_nil, aT2_who]
  rw [List.filter_cons_of_neg (by rw [aw_g1]; decide), List.filter_cons_of_pos aw_g2, List.filter_nil]
theorem aw_r5 : goodR aw5 0 = [2] := by
  unfold goodR
  rw [if_pos aw_f5, aw_n5, aw_o5, aw_o3, aw_out]
  unfold banL
  rw [ascI_one, List.filter_cons_of_pos (by rw [aw_b5]; rfl), List.filter_nil]
theorem aw_b6 (y : Int) : aw6.bn y = decide (y ∈ [(2 : Int)]) := by
  unfold aw6
  rw [goodA_bn aw_f5, aw_n5, aw_o5, aw_o3, aw_out]
  unfold banM
  rw [aw_b5]; rfl
theorem aw_k2 : aw6.bn 2 = true := by rw [aw_b6]; rfl
theorem aw_k1 : aw6.bn 1 = false := by rw [aw_b6]; rfl
theorem aw_p6 : aw6.par 1 = false := par_no fun i t ht => by
  unfold aw6 at ht
  rw [goodA_od aw_f5] at ht
  split at ht
  · cases ht
  · rename_i h; rw [aw_o5, aw_o3n i h] at ht; cases ht
end Go.Proofs.Ytlikhpfdncidkaa
