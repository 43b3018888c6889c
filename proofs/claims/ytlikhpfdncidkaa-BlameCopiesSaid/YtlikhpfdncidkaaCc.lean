import Derived.Test.YtlikhpfdncidkaaCb
set_option linter.unusedSimpArgs false
set_option linter.unusedVariables false
namespace Go.Proofs.Ytlikhpfdncidkaa
open Go.RowKit

/-! ## The reference's state in plain words -/
def RA (nw : Int → Option (Ro E5)) (od : Int → Option (Ro (Ro E5))) (bn : Int → Option Bool) (sc : Int → Option Int) : BS :=
  ⟨fun x => (sc x).getD 0, fun x => (bn x).getD false, fun i => trE (roG (nw i)).l, fun i => (roG (od i)).l.map fun r => trE r.l⟩
section
variable {nw : Int → Option (Ro E5)} {od : Int → Option (Ro (Ro E5))} {bn : Int → Option Bool} {sc : Int → Option Int} {s : RSt} {p i bg ln : Int} {data : ByteArray} {gd : Bool} {A : BS}
theorem sentE_7 (h : (peerB p && blockB i bg ln) = false) : sentE A p i bg ln data = 7 := if_pos h
theorem sentE_11 (h : (peerB p && blockB i bg ln) = true) (h2 : ¬ (data.size : Int) = ln) : sentE A p i bg ln data = 11 := by
  unfold sentE; rw [if_neg (by rw [h]; decide), if_pos h2]
theorem sentE_20 (h : (peerB p && blockB i bg ln) = true) (h2 : (data.size : Int) = ln) (h3 : A.bn p = true) : sentE A p i bg ln data = 20 := by
  unfold sentE; rw [if_neg (by rw [h]; decide), if_neg (by rw [h2]; simp), if_pos h3]
theorem sentE_6 (h : (peerB p && blockB i bg ln) = true) (h2 : (data.size : Int) = ln) (h3 : A.bn p = false) (h4 : ∃ s v, A.nw i s = some v ∧ s.1 = bg) : sentE A p i bg ln data = 6 := by
  unfold sentE; rw [if_neg (by rw [h]; decide), if_neg (by rw [h2]; simp), if_neg (by rw [h3]; decide), if_pos h4]
theorem sentA_err {k : Int} (h : sentE A p i bg ln data = k) (hk : ¬ k = 0) : sentA A p i bg ln data = A := if_neg (by rw [h]; exact hk)
theorem RA_sent {r : Ro E5} (hE : sentE (RA nw od bn sc) p i bg ln data = 0) (hn : ∀ y ∈ (roG (nw i)).l, ¬ y.bg = bg) (hr : r.l = (roG (nw i)).l ++ [⟨p, i, bg, ln, sumS data⟩]) : RA (upM nw i r) od bn sc = sentA (RA nw od bn sc) p i bg ln data := by
  have h1 : sentA (RA nw od bn sc) p i bg ln data = _ := if_pos hE
  rw [h1]
  refine BS.ext rfl rfl (funext fun j => ?_) rfl
  show trE (roG (upM nw i r j)).l = if j = i then upM (trE (roG (nw i)).l) (bg, ln) (p, sumS data) else trE (roG (nw j)).l
  unfold upM
  split
  · show trE r.l = _
    rw [hr, trE_snoc hn]; rfl
  · rfl
theorem endE_7 (h : pieceB i = false) : endE A i = 7 := if_pos h
theorem endE_8 (h : pieceB i = true) (h2 : A.nw i = noT) : endE A i = 8 := by unfold endE; rw [if_neg (by rw [h]; decide), if_pos fun s => by rw [h2]; rfl]
theorem endE_0 (h : pieceB i = true) {l : List E5} (h2 : A.nw i = trE l) (h3 : ¬ l = []) : endE A i = 0 := by
  unfold endE; rw [if_neg (by rw [h]; decide), if_neg fun hc => h3 (trE_none.1 fun s => by rw [← h2]; exact hc s)]
theorem failA_err {k : Int} (h : endE A i = k) (hk : ¬ k = 0) : failA A i = A ∧ failR A i = [] ∧ goodA A i = A ∧ goodR A i = [] ∧ dropA A i = A :=
  ⟨if_neg (by rw [h]; exact hk), if_neg (by rw [h]; exact hk), if_neg (by rw [h]; exact hk), if_neg (by rw [h]; exact hk), if_neg (by rw [h]; exact hk)⟩
theorem RA_drop (hE : endE (RA nw od bn sc) i = 0) : RA (delM nw i) od bn sc = dropA (RA nw od bn sc) i := by
  have h1 : dropA (RA nw od bn sc) i = _ := if_pos hE
  rw [h1]
  refine BS.ext rfl rfl (funext fun j => ?_) rfl
  show trE (roG (delM nw i j)).l = if j = i then noT else trE (roG (nw j)).l
  unfold delM
  split <;> rfl
/-- A try that failed. -/
theorem RA_fail {sc' : Int → Option Int} {bn' : Int → Option Bool} {q : Ro (Ro E5)} (hE : endE (RA nw od bn sc) i = 0) (hok : EOk i (roG (nw i)).l) (hq : q.l = lastTen ((roG (od i)).l ++ [roG (nw i)]))
    (hsc : ∀ y, (sc' y).getD 0 = if y ∈ ascI ((roG (nw i)).l.map E5.pr) then IntKind.i64.wrap ((sc y).getD 0 + 1) else (sc y).getD 0) (hbn : ∀ y, (bn' y).getD false = ((bn y).getD false || decide (y ∈ failL (trE (roG (nw i)).l)))) :
    RA (delM nw i) (upM od i q) bn' sc' = failA (RA nw od bn sc) i := by
  have h1 : failA (RA nw od bn sc) i = _ := if_pos hE
  rw [h1]
  refine BS.ext (funext fun y => ?_) (funext fun y => ?_) (funext fun j => ?_) (funext fun j => ?_)
  · show (sc' y).getD 0 = if y ∈ whoL (trE (roG (nw i)).l) then _ else _
    rw [hsc, whoE hok]; rfl
  · exact hbn y
  · show trE (roG (delM nw i j)).l = if j = i then noT else trE (roG (nw j)).l
    unfold delM
    split <;> rfl
  · show (roG (upM od i q j)).l.map (fun r => trE r.l) = if j = i then lastTen ((roG (od i)).l.map (fun r => trE r.l) ++ [trE (roG (nw i)).l]) else (roG (od j)).l.map fun r => trE r.l
    unfold upM
    split
    · show q.l.map (fun r => trE r.l) = _
      rw [hq, ← lastTen_map, List.map_append]; rfl
    · rfl
theorem failR_eq (hE : endE (RA nw od bn sc) i = 0) : failR (RA nw od bn sc) i = banL (RA nw od bn sc) (failL (trE (roG (nw i)).l)) := if_pos hE
theorem banL_nil : banL A [] = [] := by unfold banL; rw [show ascI [] = [] from ascI_of .nil fun _ => Iff.rfl]; rfl
theorem ascI_one (p : Int) : ascI [p] = [p] := ascI_of (List.pairwise_singleton ..) fun _ => Iff.rfl
theorem banL_one {p : Int} : banL A [p] = if A.bn p = true then [] else [p] := by
  unfold banL; rw [ascI_one]
  by_cases h : A.bn p = true <;> simp [h]
/-- A try that is good. -/
theorem RA_good {sc' : Int → Option Int} {bn' : Int → Option Bool} (hE : endE (RA nw od bn sc) i = 0)
    (hsc : ∀ y, (sc' y).getD 0 = scJ (trE (roG (nw i)).l) ((roG (od i)).l.map fun r => trE r.l) ((sc y).getD 0) y) (hbn : ∀ y, (bn' y).getD false = ((bn y).getD false || decide (y ∈ outL (trE (roG (nw i)).l) ((roG (od i)).l.map fun r => trE r.l)))) :
    RA (delM nw i) (delM od i) bn' sc' = goodA (RA nw od bn sc) i := by
  have h1 : goodA (RA nw od bn sc) i = _ := if_pos hE
  rw [h1]
  refine BS.ext (funext fun y => hsc y) (funext fun y => hbn y) (funext fun j => ?_) (funext fun j => ?_)
  · show trE (roG (delM nw i j)).l = if j = i then noT else trE (roG (nw j)).l
    unfold delM
    split <;> rfl
  · show (roG (delM od i j)).l.map (fun r => trE r.l) = if j = i then [] else (roG (od j)).l.map fun r => trE r.l
    unfold delM
    split <;> rfl
theorem goodR_eq (hE : endE (RA nw od bn sc) i = 0) : goodR (RA nw od bn sc) i = banL (RA nw od bn sc) (outL (trE (roG (nw i)).l) ((roG (od i)).l.map fun r => trE r.l)) := if_pos hE
theorem banL_of {l m : List Int} (h : ∀ y, y ∈ m ↔ y ∈ l ∧ A.bn y = false) : ascI m = banL A l := by
  unfold banL
  refine ascI_of ((ascI_lt l).sublist List.filter_sublist) fun y => ?_
  rw [h, List.mem_filter, ascI_mem]
  simp
/-! what a tree proves -/
theorem provE_7 (h : (peerB p && blockB i bg ln) = false) : provE A p i bg ln = 7 := if_pos h
theorem provE_8 (h : (peerB p && blockB i bg ln) = true) (h2 : ¬ ∃ d, A.nw i (bg, ln) = some (p, d)) : provE A p i bg ln = 8 := by unfold provE; rw [if_neg (by rw [h]; decide), if_neg h2]
theorem provE_0 (h : (peerB p && blockB i bg ln) = true) (h2 : ∃ d, A.nw i (bg, ln) = some (p, d)) : provE A p i bg ln = 0 := by unfold provE; rw [if_neg (by rw [h]; decide), if_pos h2]
theorem provA_not {k : Int} (h : provE A p i bg ln = k) (hk : ¬ (k = 0 ∧ gd = false)) : provA A p i bg ln gd = A ∧ provR A p i bg ln gd = false := ⟨if_neg (by rw [h]; exact hk), if_neg (by rw [h]; exact hk)⟩
theorem RA_prov {r : Ro E5} {k : Nat} {x : E5} (hE : provE (RA nw od bn sc) p i bg ln = 0) (hok : EOk i (roG (nw i)).l) (hk : (roG (nw i)).l[k]? = some x) (hx : x.sp = (bg, ln)) (hr : r.l = cutE (roG (nw i)).l k) : RA (upM nw i r) od (upM bn p true) sc = provA (RA nw od bn sc) p i bg ln false := by
  have h1 : provA (RA nw od bn sc) p i bg ln false = _ := if_pos ⟨hE, rfl⟩
  rw [h1]
  refine BS.ext rfl (funext fun y => ?_) (funext fun j => ?_) rfl
  · show (upM bn p true y).getD false = ((bn y).getD false || decide (y ∈ [p]))
    unfold upM
    by_cases e : y = p
    · subst e; simp
    · rw [if_neg e]; simp [e]
  · show trE (roG (upM nw i r j)).l = if j = i then delM (trE (roG (nw i)).l) (bg, ln) else trE (roG (nw j)).l
    unfold upM
    split
    · show trE r.l = _
      rw [hr, trE_cut hok hk, hx]
    · rfl
theorem prov_some (hok : EOk i (roG (nw i)).l) : (∃ d, (RA nw od bn sc).nw i (bg, ln) = some (p, d)) ↔ ∃ x ∈ (roG (nw i)).l, x.pr = p ∧ x.bg = bg ∧ x.ln = ln := by
  show (∃ d, trE (roG (nw i)).l (bg, ln) = some (p, d)) ↔ _
  constructor
  · rintro ⟨d, hd⟩
    obtain ⟨x, hx, e1, e2⟩ := (trE_iff hok).1 hd
    exact ⟨x, hx, congrArg Prod.fst e2, congrArg Prod.fst e1, congrArg Prod.snd e1⟩
  · rintro ⟨x, hx, rfl, rfl, rfl⟩
    exact ⟨x.dg, (trE_iff hok).2 ⟨x, hx, rfl, rfl⟩⟩
/-! who is on parole -/
theorem onOld_RA (hR : RI nw od s) {p : Int} : (RA nw od bn sc).onOld p ↔ ∃ i, okI i ∧ ∃ r ∈ (roG (od i)).l, ∃ x ∈ r.l, x.pr = p := by
  unfold BS.onOld
  constructor
  · rintro ⟨i, hi, t, ht, hp⟩
    obtain ⟨r, hr, rfl⟩ := List.mem_map.1 ht
    rw [whoE (hR.odOk i r hr).2, ascI_mem] at hp
    obtain ⟨x, hx, e⟩ := List.mem_map.1 hp
    exact ⟨i, hi, r, hr, x, hx, e⟩
  · rintro ⟨i, hi, r, hr, x, hx, e⟩
    exact ⟨i, hi, _, List.mem_map.2 ⟨r, hr, rfl⟩, by rw [whoE (hR.odOk i r hr).2, ascI_mem]; exact List.mem_map.2 ⟨x, hx, e⟩⟩
end
end Go.Proofs.Ytlikhpfdncidkaa
