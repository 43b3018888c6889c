import Derived.Test.YtlikhpfdncidkaaBb
set_option linter.unusedSimpArgs false
set_option linter.unusedVariables false
namespace Go.Proofs.Ytlikhpfdncidkaa
open Go.RowKit

/-! ## BlameAlone in plain words -/
theorem sentE_inv {A : BS} {p i bg ln : Int} {data : ByteArray} (h : sentE A p i bg ln data = 0) : (peerB p && blockB i bg ln) = true ∧ (data.size : Int) = ln ∧ A.bn p = false ∧ ∀ s v, A.nw i s = some v → ¬ s.1 = bg := by
  unfold sentE at h
  split at h
  · cases h
  rename_i h1
  split at h
  · cases h
  rename_i h2
  split at h
  · cases h
  rename_i h3
  split at h
  · cases h
  rename_i h4
  refine ⟨by simpa using h1, by omega, by simpa using h3, fun s v a b => h4 ⟨s, v, a, b⟩⟩
structure AL (A : BS) (p i at_ : Int) : Prop where
  bn : ∀ y, A.bn y = false
  od : ∀ j, A.od j = []
  mine : ∀ s v, A.nw i s = some v → v.1 = p ∧ s.1 < at_
  tok : Tok (A.nw i)
  pos : 0 ≤ at_
  some : 0 < at_ → (∃ s v, A.nw i s = some v) ∧ pieceB i = true ∧ peerB p = true ∧ at_ ≤ 1024
theorem al_none (p i : Int) : AL BS.none p i 0 := ⟨fun _ => rfl, fun _ => rfl, fun s v h => (by cases h), tok_none, Int.le_refl _, fun h => absurd h (by decide)⟩
theorem sent_tok {A : BS} {p i bg ln : Int} {data : ByteArray} (h : sentE A p i bg ln data = 0) (ht : Tok (A.nw i)) : Tok ((sentA A p i bg ln data).nw i) := by
  obtain ⟨h1, h2, h3, h4⟩ := sentE_inv h
  have hb := blockB_true h1
  rw [sentA_nw h]
  exact ht.add hb.2.2 hb.1 h4
theorem al_sent {A : BS} {p i at_ ln : Int} {s : ByteArray} (h : AL A p i at_) (hs : sentE A p i at_ ln s = 0) : AL (sentA A p i at_ ln s) p i (at_ + ln) := by
  obtain ⟨h1, h2, h3, h4⟩ := sentE_inv hs
  have hb := blockB_true h1
  have hq : pieceB i = true ∧ peerB p = true ∧ at_ + ln ≤ 1024 := by
    unfold blockB at h1
    simp only [Bool.and_eq_true, decide_eq_true_eq] at h1
    exact ⟨h1.2.1.1.1.1, h1.1, by omega⟩
  refine ⟨fun y => by rw [sentA_sc.2.1]; exact h.bn y, fun j => by rw [sentA_sc.2.2]; exact h.od j, fun x v hx => ?_, sent_tok hs h.tok, by have := h.pos; omega, fun _ => ⟨⟨(at_, ln), (p, sumS s), by rw [sentA_nw hs]; exact upM_at⟩, hq.1, hq.2.1, hq.2.2⟩⟩
  rw [sentA_nw hs] at hx
  rcases upM_some hx with ⟨rfl, rfl⟩ | ⟨_, hx⟩
  · exact ⟨rfl, by show at_ < _; omega⟩
  · have := h.mine x v hx
    exact ⟨this.1, by omega⟩
theorem al_prov {A : BS} {p i at_ ln : Int} {s : ByteArray} (hs : sentE A p i at_ ln s = 0) : provE (sentA A p i at_ ln s) p i at_ ln = 0 := by
  obtain ⟨h1, _⟩ := sentE_inv hs
  unfold provE
  rw [if_neg (by rw [h1]; decide)]
  exact if_pos ⟨_, by rw [sentA_nw hs]; exact upM_at⟩
theorem al_provR {A : BS} {p i at_ ln : Int} {s : ByteArray} (h : AL A p i at_) (hs : sentE A p i at_ ln s = 0) : provR (sentA A p i at_ ln s) p i at_ ln false = true := by
  unfold provR
  rw [if_pos ⟨al_prov hs, rfl⟩, sentA_sc.2.1, h.bn]; rfl
theorem provA_ok {A : BS} {p i bg ln : Int} (h : provE A p i bg ln = 0) : provA A p i bg ln false = { A with bn := banM A [p], nw := fun j => if j = i then delM (A.nw i) (bg, ln) else A.nw j } := if_pos ⟨h, rfl⟩
noncomputable def alP (A : BS) (p i at_ ln : Int) (s : ByteArray) : BS := provA (sentA A p i at_ ln s) p i at_ ln false
theorem al_ban {A : BS} {p i at_ ln : Int} {s : ByteArray} (hs : sentE A p i at_ ln s = 0) : (alP A p i at_ ln s).bn p = true := by
  unfold alP
  rw [provA_ok (al_prov hs)]
  show banM _ [p] p = true
  unfold banM; simp
theorem al_nw {A : BS} {p i at_ ln : Int} {s : ByteArray} (hs : sentE A p i at_ ln s = 0) : (alP A p i at_ ln s).nw i = delM (upM (A.nw i) (at_, ln) (p, sumS s)) (at_, ln) := by
  unfold alP
  rw [provA_ok (al_prov hs)]
  show (if i = i then delM ((sentA A p i at_ ln s).nw i) (at_, ln) else _) = _
  rw [if_pos rfl, sentA_nw hs]
theorem al_len {A : BS} {p i at_ ln : Int} {s : ByteArray} (h : AL A p i at_) (hs : sentE A p i at_ ln s = 0) : (decide (((whoL ((alP A p i at_ ln s).nw i)).length : Int) = 0) == decide (at_ = 0)) = true := by
  have ht : Tok ((alP A p i at_ ln s).nw i) := by
    have := (sent_tok hs h.tok).del (at_, ln)
    rw [sentA_nw hs] at this
    rw [al_nw hs]; exact this
  have key : whoL ((alP A p i at_ ln s).nw i) = [] ↔ at_ = 0 := by
    rw [whoL_nil ht, al_nw hs]
    constructor
    · intro h1
      rcases Int.lt_or_le 0 at_ with h2 | h2
      · obtain ⟨⟨x, v, hx⟩, _⟩ := h.some h2
        have h3 := (h.mine x v hx).2
        have h4 := h1 x
        have hne : ¬ x = (at_, ln) := fun e => by rw [e] at h3; exact absurd h3 (Int.lt_irrefl _)
        unfold delM at h4
        rw [if_neg hne, upM_other hne, hx] at h4
        cases h4
      · have := h.pos; omega
    · intro h1 x
      unfold delM
      by_cases hx : x = (at_, ln)
      · rw [if_pos hx]
      · rw [if_neg hx, upM_other hx]
        cases hq : A.nw i x with
        | none => rfl
        | some v =>
          have h2 := (h.mine x v hq).2
          have h3 := (h.tok.inn x v hq).1.1
          omega
  by_cases h0 : at_ = 0
  · rw [decide_eq_true h0, decide_eq_true (by rw [key.2 h0]; rfl)]; rfl
  · rw [decide_eq_false h0, decide_eq_false (fun hl => h0 (key.1 (List.eq_nil_of_length_eq_zero (by omega))))]; rfl
theorem al_ref {A : BS} {p i at_ ln : Int} {s : ByteArray} (hs : sentE A p i at_ ln s = 0) : sentE (alP A p i at_ ln s) p i at_ ln s = 20 := by
  obtain ⟨h1, h2, _⟩ := sentE_inv hs
  unfold sentE
  rw [if_neg (by rw [h1]; decide), if_neg (by rw [h2]; simp)]
  exact if_pos (al_ban hs)
/-! the end -/
theorem al_who {A : BS} {p i at_ : Int} (h : AL A p i at_) (h0 : 0 < at_) : whoL (A.nw i) = [p] := whoL_eq ⟨List.pairwise_singleton .., fun x => by
  rw [List.mem_singleton]
  constructor
  · rintro rfl
    obtain ⟨⟨s, v, hs⟩, _⟩ := h.some h0
    have h1 := (h.mine s v hs).1
    exact ⟨s, v.2, h.tok.okp hs, by rw [hs, ← h1]⟩
  · rintro ⟨s, d, _, hs⟩
    exact (h.mine s _ hs).1⟩
theorem al_endE {A : BS} {p i at_ : Int} (h : AL A p i at_) (h0 : 0 < at_) : endE A i = 0 := by
  obtain ⟨⟨s, v, hs⟩, hp, _⟩ := h.some h0
  exact endE_ok hp hs
theorem al_failR {A : BS} {p i at_ : Int} (h : AL A p i at_) (h0 : 0 < at_) : failR A i = [p] := by
  have hf : failL (A.nw i) = [p] := by unfold failL; rw [al_who h h0]; rfl
  unfold failR
  rw [if_pos (al_endE h h0), hf]
  unfold banL
  rw [ascI_one, List.filter_cons_of_pos (by rw [h.bn]; rfl), List.filter_nil]
theorem al_bn {A : BS} {p i at_ : Int} (h : AL A p i at_) (h0 : 0 < at_) : (failA A i).bn p = true := by
  have hf : failL (A.nw i) = [p] := by unfold failL; rw [al_who h h0]; rfl
  rw [failA_bn (al_endE h h0), hf]
  unfold banM; simp
theorem al_may {A : BS} {p i at_ : Int} (h : AL A p i at_) (h0 : 0 < at_) : (failA A i).may p i = false := by
  unfold BS.may
  rw [al_bn h h0]; simp
theorem al_par {A : BS} {p i at_ : Int} (h : AL A p i at_) (h0 : 0 < at_) : (failA A i).par p = false := par_ban (al_bn h h0)
end Go.Proofs.Ytlikhpfdncidkaa
