import Derived.Test.YthfglkkjkpdkpaaDoorNb
import Derived.Test.YthfglkkjkpdkpaaDoorGx
set_option linter.unusedSimpArgs false
set_option linter.unusedVariables false
namespace Go.Proofs.YthfglkkjkpdkpaaDoor
open Go.RowKit

/-! ## The memory of a Super, of the program and of the reference -/
def hMap (l : List Int) : Int → Option Bool := fun k => if k ∈ l then some true else none
theorem hMap_nil : (fun _ : Int => (none : Option Bool)) = hMap [] := by
  funext k; unfold hMap; rw [if_neg (by simp)]
theorem hMap_up (l : List Int) (k : Int) : upM (hMap l) k true = hMap (l ++ [k]) := by
  funext x
  unfold upM hMap
  by_cases h : x = k
  · rw [if_pos h, if_pos (by simp [h])]
  · rw [if_neg h]
    by_cases h2 : x ∈ l
    · rw [if_pos h2, if_pos (by simp [h2])]
    · rw [if_neg h2, if_neg (by simp [h, h2])]
theorem hMap_get (l : List Int) (k : Int) : ((hMap l k).getD false) = decide (k ∈ l) := by
  unfold hMap
  by_cases h : k ∈ l
  · rw [if_pos h, decide_eq_true h]; rfl
  · rw [if_neg h, decide_eq_false h]; rfl
/-- A peer of the program. -/
structure Pp where
  id : Int
  b : Nat
  tp : Option Addr
  tc : Nat
  told : List Int
  hm : Nat
  holds : List Int
def Pp.sh (p : Pp) : Sh := ⟨p.id, p.told, p.holds⟩
def PeI (p : Pp) : Item := Big [Ob p.b (.cells #[.slice p.tp p.told.length p.tc, .map (some p.hm)] 58 (0, 0)), Rw 3 1 p.tp p.told.length p.tc (fl intL p.told), Mp (Value.int .i64) Value.bool okI p.hm (hMap p.holds)]
def ptV (b : Nat) : Value := .pointer (some ⟨b, 0, none⟩)
def peerM (ps : List Pp) : Int → Option Nat := fun id => (ps.find? fun p => decide (p.id = id)).map Pp.b
theorem peerM_some {ps : List Pp} {id : Int} {b : Nat} (h : peerM ps id = some b) : ∃ (i : Nat) (p : Pp), ps[i]? = some p ∧ p.id = id ∧ p.b = b := by
  unfold peerM at h
  obtain ⟨p, hp, rfl⟩ := Option.map_eq_some_iff.1 h
  have h1 := List.mem_of_find?_eq_some hp
  have h2 := List.find?_some hp
  obtain ⟨i, hi⟩ := List.getElem?_of_mem h1
  exact ⟨i, p, hi, of_decide_eq_true h2, rfl⟩
theorem peerM_none {ps : List Pp} {id : Int} (h : peerM ps id = none) : fnd (ps.map Pp.sh) id = none := by
  unfold peerM at h
  rw [Option.map_eq_none_iff, List.find?_eq_none] at h
  refine fnd_no fun q hq => ?_
  obtain ⟨p, hp, rfl⟩ := List.mem_map.1 hq
  intro he
  exact h p hp (decide_eq_true he)
theorem peerM_at {ps : List Pp} (hn : (ps.map Pp.id).Nodup) {i : Nat} {p : Pp} (h : ps[i]? = some p) : peerM ps p.id = some p.b := by
  cases hq : peerM ps p.id with
  | none =>
    unfold peerM at hq
    rw [Option.map_eq_none_iff, List.find?_eq_none] at hq
    exact absurd (decide_eq_true rfl) (hq p (List.mem_of_getElem? h))
  | some b =>
    obtain ⟨k, q, hk, he, rfl⟩ := peerM_some hq
    obtain ⟨h1, h2⟩ := List.getElem?_eq_some_iff.1 h
    obtain ⟨h3, h4⟩ := List.getElem?_eq_some_iff.1 hk
    have : k = i := by
      refine Decidable.byContradiction fun hne => ?_
      have key : ∀ a b (ha : a < ps.length) (hb : b < ps.length), a < b → ps[a].id ≠ ps[b].id := fun a b ha hb hab => by
        have := List.pairwise_iff_getElem.1 hn a b (by rwa [List.length_map]) (by rwa [List.length_map]) hab
        rwa [List.getElem_map, List.getElem_map] at this
      rcases Nat.lt_or_gt_of_ne hne with hlt | hlt
      · exact key k i h3 h1 hlt (by rw [h4, h2, he])
      · exact key i k h1 h3 hlt (by rw [h4, h2, he])
    subst this
    rw [h] at hk; cases hk; rfl
theorem sh_ids (ps : List Pp) : (ps.map Pp.sh).map Sh.id = ps.map Pp.id := by rw [List.map_map]; rfl
theorem peerM_of {ps : List Pp} (hn : (ps.map Pp.id).Nodup) {M : Int → Option Nat} (h1 : ∀ (i : Nat) (p : Pp), ps[i]? = some p → M p.id = some p.b) (h2 : ∀ id, (∀ p ∈ ps, p.id ≠ id) → M id = none) : M = peerM ps := by
  funext id
  cases hq : peerM ps id with
  | none =>
    unfold peerM at hq
    rw [Option.map_eq_none_iff, List.find?_eq_none] at hq
    exact h2 id fun p hp he => hq p hp (decide_eq_true he)
  | some b =>
    obtain ⟨k, q, hk, rfl, rfl⟩ := peerM_some hq
    exact h1 k q hk
theorem peerM_snoc {ps : List Pp} {r : Pp} (hn : ((ps ++ [r]).map Pp.id).Nodup) : upM (peerM ps) r.id r.b = peerM (ps ++ [r]) := by
  have hn1 : (ps.map Pp.id).Nodup := by rw [List.map_append] at hn; exact (List.nodup_append.1 hn).1
  refine peerM_of hn (fun i p hp => ?_) (fun id h => ?_)
  · unfold upM
    by_cases he : p.id = r.id
    · rw [if_pos he]
      have h1 := peerM_at hn hp
      have h2 := peerM_at hn (i := ps.length) (p := r) (by simp)
      rw [he, h2] at h1
      exact h1
    · rw [if_neg he]
      by_cases hi : i < ps.length
      · rw [List.getElem?_append_left hi] at hp; exact peerM_at hn1 hp
      · rw [List.getElem?_append_right (by omega)] at hp
        have : i - ps.length = 0 := by
          have := (List.getElem?_eq_some_iff.1 hp).1
          simp at this; omega
        rw [this] at hp; cases hp; exact absurd rfl he
  · unfold upM
    rw [if_neg (fun he => h r (by simp) he.symm)]
    unfold peerM
    rw [Option.map_eq_none_iff, List.find?_eq_none]
    exact fun p hp hd => h p (by simp [hp]) (of_decide_eq_true hd)
theorem peerM_erase {ps : List Pp} (hn : (ps.map Pp.id).Nodup) {i : Nat} {p : Pp} (hp : ps[i]? = some p) : delM (peerM ps) p.id = peerM (ps.eraseIdx i) := by
  have hn2 : ((ps.eraseIdx i).map Pp.id).Nodup := hn.sublist ((List.eraseIdx_sublist ..).map Pp.id)
  have hpe : (ps.map Pp.id).Perm (p.id :: (ps.eraseIdx i).map Pp.id) := (perm_erase hp).map Pp.id
  have hno : p.id ∉ (ps.eraseIdx i).map Pp.id := (List.nodup_cons.1 (hpe.nodup_iff.1 hn)).1
  refine peerM_of hn2 (fun k q hq => ?_) (fun id h => ?_)
  · have hm : q ∈ ps.eraseIdx i := List.mem_of_getElem? hq
    unfold delM
    rw [if_neg (fun he => hno (by rw [← he]; exact List.mem_map.2 ⟨q, hm, rfl⟩))]
    obtain ⟨k2, hk2⟩ := List.getElem?_of_mem (List.mem_of_mem_eraseIdx hm)
    exact peerM_at hn hk2
  · unfold delM
    by_cases he : id = p.id
    · rw [if_pos he]
    · rw [if_neg he]
      unfold peerM
      rw [Option.map_eq_none_iff, List.find?_eq_none]
      intro q hq hd
      have hd := of_decide_eq_true hd
      have h3 : q.id ∈ p.id :: (ps.eraseIdx i).map Pp.id := hpe.mem_iff.1 (List.mem_map.2 ⟨q, hq, rfl⟩)
      rcases List.mem_cons.1 h3 with h3 | h3
      · exact he (hd.symm.trans h3)
      · obtain ⟨q2, hq2, h4⟩ := List.mem_map.1 h3
        exact h q2 hq2 (h4.trans hd)
theorem peerM_put {ps : List Pp} (hn : (ps.map Pp.id).Nodup) {i : Nat} {p r : Pp} (hp : ps[i]? = some p) (h1 : r.id = p.id) (h2 : r.b = p.b) : peerM (ps.set i r) = peerM ps := by
  obtain ⟨hi, he⟩ := List.getElem?_eq_some_iff.1 hp
  refine (peerM_of ?_ (fun k q hq => ?_) (fun id h => ?_)).symm
  · have : (ps.set i r).map Pp.id = ps.map Pp.id := by
      rw [List.map_set, h1]
      refine List.ext_getElem? fun k => ?_
      by_cases hk : k = i
      · subst hk; rw [List.getElem?_set_self (by rwa [List.length_map]), List.getElem?_map, hp]; rfl
      · rw [List.getElem?_set_ne (Ne.symm hk)]
    rw [this]; exact hn
  · by_cases hk : k = i
    · subst hk
      rw [List.getElem?_set_self hi] at hq; cases hq
      rw [h1, h2]; exact peerM_at hn hp
    · rw [List.getElem?_set_ne (Ne.symm hk)] at hq; exact peerM_at hn hq
  · unfold peerM
    rw [Option.map_eq_none_iff, List.find?_eq_none]
    intro q hq hd
    have hd := of_decide_eq_true hd
    obtain ⟨k, hk⟩ := List.getElem?_of_mem hq
    by_cases e : k = i
    · subst e
      rw [hp] at hk; cases hk
      exact h r (List.mem_of_getElem? (List.getElem?_set_self hi)) (h1.trans hd)
    · exact h q (List.mem_of_getElem? (by rw [List.getElem?_set_ne (Ne.symm e)]; exact hk)) hd
def tcF (ps : List Sh) : Nat → Int := fun k => (tcN ps (k : Int) : Int)
def hcF (ps : List Sh) : Nat → Int := fun k => (hcN ps (k : Int) : Int)
/-- The program's Super. -/
structure XM where
  g : Nat
  mg : Nat
  dp : Option Addr
  dc : Nat
  ep : Option Addr
  ec : Nat
  seed : ByteArray
  n : Nat
  ps : List Pp
def XM.A (X : XM) : SP := ⟨X.seed, X.n, X.ps.map Pp.sh⟩
def XM.I (X : XM) : Item := Big [Ob X.g (.cells #[.slice X.dp X.n X.dc, .slice X.ep X.n X.ec, .string X.seed, .map (some X.mg)] 49 (0, 0)), Rw 3 1 X.dp X.n X.dc (fl intL (cntL X.n (tcF (X.ps.map Pp.sh)))), Rw 3 1 X.ep X.n X.ec (fl intL (cntL X.n (hcF (X.ps.map Pp.sh)))), Mp (Value.int .i64) ptV okI X.mg (peerM X.ps), Lst PeI X.ps]
/-- A peer of the reference. -/
structure Shr where
  id : Int
  tp : Option Addr
  tc : Nat
  told : List Int
  hp : Option Addr
  hc : Nat
  holds : List Int
def Shr.sh (x : Shr) : Sh := ⟨x.id, x.told, x.holds⟩
def shwL (x : Shr) : List Value := [.int .i64 x.id, .slice x.tp x.told.length x.tc, .slice x.hp x.holds.length x.hc]
theorem shwE : Enc 3 shwL := ⟨by decide, fun _ => rfl, fun _ => rfl⟩
def RoI (x : Shr) : Item := Big [Rw 3 1 x.tp x.told.length x.tc (fl intL x.told), Rw 3 1 x.hp x.holds.length x.hc (fl intL x.holds)]
/-- The reference's Super. -/
structure RM where
  h : Nat
  pp : Option Addr
  kc : Nat
  seed : ByteArray
  n : Nat
  rs : List Shr
def RM.A (Z : RM) : SP := ⟨Z.seed, Z.n, Z.rs.map Shr.sh⟩
def RM.I (Z : RM) : Item := Big [Ob Z.h (.cells #[.string Z.seed, .int .i64 (Z.n : Int), .slice Z.pp Z.rs.length Z.kc] 52 (0, 0)), Rw 61 3 Z.pp Z.rs.length Z.kc (fl shwL Z.rs), Lst RoI Z.rs]
section
variable {w : World} {L : List Item} {rs : List Shr} {i k : Nat} {x : Shr}
theorem S.rdT (h : S w L) (hk : L[k]? = some (Lst RoI rs)) (hx : rs[i]? = some x) : Reads w x.tp x.told.length x.tc 1 (fl intL x.told) := by
  have h1 : S w [RoI x] := h.lstAt hk hx
  have h2 := S.unbig (L := [_, _]) (B := []) h1
  exact h2.rwReads (k := 0) rfl
theorem S.rdH (h : S w L) (hk : L[k]? = some (Lst RoI rs)) (hx : rs[i]? = some x) : Reads w x.hp x.holds.length x.hc 1 (fl intL x.holds) := by
  have h1 : S w [RoI x] := h.lstAt hk hx
  have h2 := S.unbig (L := [_, _]) (B := []) h1
  exact h2.rwReads (k := 1) rfl
end
/-! counts -/
def decF (f : Nat → Int) (l : List Int) : Nat → Int := fun k => f k - if (k : Int) ∈ l then 1 else 0
theorem dec_add {n : Nat} {f : Nat → Int} {l : List Int} {x y : Int} (hn : x ∉ l) (h0 : 0 ≤ x) (hy : (cntL n (decF f l))[x.toNat]? = some y) : (cntL n (decF f l)).set x.toNat (y - 1) = cntL n (decF f (l ++ [x])) := by
  obtain ⟨h1, h2⟩ := cntL_at hy
  rw [cntL_set]
  refine cntL_congr fun k hk => ?_
  unfold decF at h2 ⊢
  by_cases e : k = x.toNat
  · have e2 : (k : Int) = x := by omega
    rw [if_pos e]
    have e3 : ((x.toNat : Nat) : Int) = x := by omega
    rw [e3, if_neg hn] at h2
    rw [e2, if_pos (by simp), h2, e]; omega
  · have e2 : (k : Int) ≠ x := by omega
    rw [if_neg e]
    by_cases h3 : (k : Int) ∈ l
    · rw [if_pos h3, if_pos (by simp [h3])]
    · rw [if_neg h3, if_neg (by simp [h3, e2])]
theorem decF_nil (f : Nat → Int) : decF f [] = f := by
  funext k; unfold decF; rw [if_neg (by simp)]; omega
theorem dec_tc {n : Nat} {ps : List Sh} {i : Nat} {p : Sh} (hp : ps[i]? = some p) : cntL n (decF (tcF ps) p.told) = cntL n (tcF (ps.eraseIdx i)) := by
  refine cntL_congr fun k _ => ?_
  unfold decF tcF tcN
  rw [filter_out _ hp]
  unfold b01
  by_cases h : (k : Int) ∈ p.told
  · rw [if_pos h, if_pos (decide_eq_true h)]; omega
  · rw [if_neg h, if_neg (by simp [h])]; omega
theorem dec_hc {n : Nat} {ps : List Sh} {i : Nat} {p : Sh} (hp : ps[i]? = some p) {l : List Int} (hl : ∀ k, k ∈ l ↔ k ∈ p.holds) : cntL n (decF (hcF ps) l) = cntL n (hcF (ps.eraseIdx i)) := by
  refine cntL_congr fun k _ => ?_
  unfold decF hcF hcN
  rw [filter_out _ hp]
  unfold b01
  by_cases h : (k : Int) ∈ p.holds
  · rw [if_pos ((hl _).2 h), if_pos (decide_eq_true h)]; omega
  · rw [if_neg (fun h2 => h ((hl _).1 h2)), if_neg (by simp [h])]; omega
theorem inc_hc {n : Nat} {ps : List Sh} {i : Nat} {p : Sh} (hp : ps[i]? = some p) {x y : Int} (hn : x ∉ p.holds) (h0 : 0 ≤ x) (hy : (cntL n (hcF ps))[x.toNat]? = some y) : (cntL n (hcF ps)).set x.toNat (y + 1) = cntL n (hcF (ps.set i { p with holds := p.holds ++ [x] })) := by
  obtain ⟨h1, h2⟩ := cntL_at hy
  rw [cntL_set]
  refine cntL_congr fun k hk => ?_
  have hf := filter_put (r := { p with holds := p.holds ++ [x] }) (fun q : Sh => decide ((k : Int) ∈ q.holds)) hp
  unfold hcF hcN at h2 ⊢
  by_cases e : k = x.toNat
  · have e2 : (k : Int) = x := by omega
    have e3 : ((x.toNat : Nat) : Int) = x := by omega
    rw [if_pos e]
    rw [e3] at h2
    rw [e2] at hf ⊢
    rw [show b01 (decide (x ∈ p.holds)) = 0 by unfold b01; simp [hn], show b01 (decide (x ∈ p.holds ++ [x])) = 1 by unfold b01; simp] at hf
    rw [h2]; omega
  · have e2 : (k : Int) ≠ x := by omega
    rw [if_neg e]
    have e4 : b01 (decide ((k : Int) ∈ p.holds ++ [x])) = b01 (decide ((k : Int) ∈ p.holds)) := by
      congr 1; simp [e2]
    simp only at hf
    rw [e4] at hf
    omega
theorem inc_tc {n : Nat} {ps : List Sh} {i : Nat} {p : Sh} (hp : ps[i]? = some p) {x y : Int} (hn : x ∉ p.told) (h0 : 0 ≤ x) (hy : (cntL n (tcF ps))[x.toNat]? = some y) : (cntL n (tcF ps)).set x.toNat (y + 1) = cntL n (tcF (ps.set i { p with told := p.told ++ [x] })) := by
  obtain ⟨h1, h2⟩ := cntL_at hy
  rw [cntL_set]
  refine cntL_congr fun k hk => ?_
  have hf := filter_put (r := { p with told := p.told ++ [x] }) (fun q : Sh => decide ((k : Int) ∈ q.told)) hp
  unfold tcF tcN at h2 ⊢
  by_cases e : k = x.toNat
  · have e2 : (k : Int) = x := by omega
    have e3 : ((x.toNat : Nat) : Int) = x := by omega
    rw [if_pos e]
    rw [e3] at h2
    rw [e2] at hf ⊢
    rw [show b01 (decide (x ∈ p.told)) = 0 by unfold b01; simp [hn], show b01 (decide (x ∈ p.told ++ [x])) = 1 by unfold b01; simp] at hf
    rw [h2]; omega
  · have e2 : (k : Int) ≠ x := by omega
    rw [if_neg e]
    have e4 : b01 (decide ((k : Int) ∈ p.told ++ [x])) = b01 (decide ((k : Int) ∈ p.told)) := by
      congr 1; simp [e2]
    simp only at hf
    rw [e4] at hf
    omega
theorem tcF_put {n : Nat} {ps : List Sh} {i : Nat} {p r : Sh} (hp : ps[i]? = some p) (h : r.told = p.told) : cntL n (tcF (ps.set i r)) = cntL n (tcF ps) := by
  refine cntL_congr fun k _ => ?_
  have hf := filter_put (r := r) (fun q : Sh => decide ((k : Int) ∈ q.told)) hp
  unfold tcF tcN
  simp only [h] at hf
  omega
theorem hcF_put {n : Nat} {ps : List Sh} {i : Nat} {p r : Sh} (hp : ps[i]? = some p) (h : r.holds = p.holds) : cntL n (hcF (ps.set i r)) = cntL n (hcF ps) := by
  refine cntL_congr fun k _ => ?_
  have hf := filter_put (r := r) (fun q : Sh => decide ((k : Int) ∈ q.holds)) hp
  unfold hcF hcN
  simp only [h] at hf
  omega
theorem tcF_new (n : Nat) (ps : List Sh) (id : Int) : cntL n (tcF (ps ++ [⟨id, [], []⟩])) = cntL n (tcF ps) := by
  refine cntL_congr fun k _ => ?_
  unfold tcF tcN
  rw [List.filter_append]; simp
theorem hcF_new (n : Nat) (ps : List Sh) (id : Int) : cntL n (hcF (ps ++ [⟨id, [], []⟩])) = cntL n (hcF ps) := by
  refine cntL_congr fun k _ => ?_
  unfold hcF hcN
  rw [List.filter_append]; simp
theorem hcN_le (ps : List Sh) (k : Int) : hcN ps k ≤ ps.length := List.length_filter_le _ _
theorem tcN_le (ps : List Sh) (k : Int) : tcN ps k ≤ ps.length := List.length_filter_le _ _
theorem map_eraseF {α β : Type} (f : α → β) : ∀ (l : List α) (i : Nat), (l.eraseIdx i).map f = (l.map f).eraseIdx i
  | [], i => rfl
  | a :: l, 0 => rfl
  | a :: l, i + 1 => by show f a :: (l.eraseIdx i).map f = f a :: (l.map f).eraseIdx i; rw [map_eraseF f l i]
end Go.Proofs.YthfglkkjkpdkpaaDoor
