/-
  Plain laws of chapter 32: where a position is among marks; gaps. No program.
-/
import Derived.Test.YtgphhganepjaiaaP4
set_option linter.all false
set_option linter.unusedSimpArgs false
set_option linter.unusedVariables false
set_option linter.unnecessarySimpa false
namespace Go.Proofs.Ytgphhganepjaiaa

def cntTo (l : List Mk) : Nat → Int
  | 0 => 0
  | k + 1 => cntTo l k + (l.getD k mk0).cnt
theorem right_get {l : List Mk} (h : rightM l = true) {k : Nat} (hk : k < l.length) : (l.getD k mk0).fits (lastM (l.take k)).fin (lastM (l.take k)).at_ := by
  have h2 := wf_get k hk (rightM_wf.1 h).1
  have h3 : l[k] = l.getD k mk0 := by simp [hk]
  rw [h3, List.nil_append] at h2
  exact h2
theorem right_at {l : List Mk} (h : rightM l = true) {k : Nat} (hk : k < l.length) : 0 ≤ (l.getD k mk0).pos ∧ 1 ≤ (l.getD k mk0).cnt ∧ (l.getD k mk0).cnt ≤ 16 ∧ (l.getD k mk0).pos + (l.getD k mk0).cnt ≤ 4611686018427387904 := by
  have h1 := right_get h hk
  have h2 := mark_last (wf_take k (rightM_wf.1 h).1)
  obtain ⟨a, b, c, d, e, f⟩ := h1
  omega
theorem right_next {l : List Mk} (h : rightM l = true) {k : Nat} (hk : k + 1 < l.length) : (l.getD k mk0).fin ≤ (l.getD (k + 1) mk0).pos := by
  have h1 := right_get h hk
  rw [lastM_take l (k + 1) (by omega), if_neg (by omega)] at h1
  exact h1.2.2.1
theorem right_sorted {l : List Mk} (h : rightM l = true) : ∀ (d i : Nat), i + d + 1 < l.length → (l.getD i mk0).fin ≤ (l.getD (i + d + 1) mk0).pos := by
  intro d
  induction d with
  | zero => intro i hi; exact right_next h hi
  | succ d ih =>
    intro i hi
    have h1 := ih i (by omega)
    have h2 := right_at h (k := i + d + 1) (by omega)
    have h3 := right_next h (k := i + d + 1) hi
    unfold Mk.fin at *
    rw [show i + (d + 1) + 1 = i + d + 1 + 1 from by omega]
    omega
theorem right_lt {l : List Mk} (h : rightM l = true) {i j : Nat} (hij : i < j) (hj : j < l.length) : (l.getD i mk0).fin ≤ (l.getD j mk0).pos := by
  have := right_sorted h (j - i - 1) i (by omega)
  rwa [show i + (j - i - 1) + 1 = j from by omega] at this
theorem cntTo_le {l : List Mk} (h : rightM l = true) : ∀ k, k ≤ l.length → (k : Int) ≤ cntTo l k ∧ cntTo l k ≤ 16 * k := by
  intro k
  induction k with
  | zero => intro _; simp [cntTo]
  | succ k ih =>
    intro hk
    have h1 := ih (by omega)
    have h2 := right_at h (k := k) (by omega)
    simp only [cntTo]
    omega
/-- From the first position on there are at least as many positions as entries. -/
theorem span_le {l : List Mk} (h : rightM l = true) : ∀ k, k < l.length → cntTo l (k + 1) ≤ (l.getD k mk0).fin - (l.getD 0 mk0).pos := by
  intro k
  induction k with
  | zero => intro _; simp only [cntTo, Mk.fin]; omega
  | succ k ih =>
    intro hk
    have h1 := ih (by omega)
    have h2 := right_next h hk
    rw [show cntTo l (k + 1 + 1) = cntTo l (k + 1) + (l.getD (k + 1) mk0).cnt from rfl]
    unfold Mk.fin at *
    omega
def hit (pos : Int) (m : Mk) : Bool := decide (m.pos ≤ pos) && decide (pos < m.fin)
theorem hit_iff {pos : Int} {m : Mk} : hit pos m = true ↔ m.pos ≤ pos ∧ pos < m.fin := by simp [hit]
theorem hit_one {l : List Mk} (h : rightM l = true) {pos : Int} {i j : Nat} (hi : i < l.length) (hj : j < l.length) (h1 : hit pos (l.getD i mk0) = true) (h2 : hit pos (l.getD j mk0) = true) : i = j := by
  have a := hit_iff.1 h1
  have b := hit_iff.1 h2
  rcases Nat.lt_trichotomy i j with h3 | h3 | h3
  · have := right_lt h h3 hj; omega
  · exact h3
  · have := right_lt h h3 hi; omega
/-- The first place of what p takes; the length, if there is none. -/
def fstI (p : Mk → Bool) (l : List Mk) : Nat := l.findIdx p
theorem fstI_le (p : Mk → Bool) (l : List Mk) : fstI p l ≤ l.length := List.findIdx_le_length
theorem fstI_is {p : Mk → Bool} {l : List Mk} {k : Nat} (hk : k < l.length) (h1 : p (l.getD k mk0) = true) (h2 : ∀ i, i < k → p (l.getD i mk0) = false) : fstI p l = k := by
  have e : l.getD k mk0 = l[k] := by simp [hk]
  rw [e] at h1
  unfold fstI
  rw [List.findIdx_eq hk]
  refine ⟨h1, fun j hj => ?_⟩
  have := h2 j hj
  have e2 : l.getD j mk0 = l[j]'(by omega) := by simp [show j < l.length by omega]
  rw [e2] at this
  simpa using this
theorem fstI_none {p : Mk → Bool} {l : List Mk} (h : ∀ i, i < l.length → p (l.getD i mk0) = false) : fstI p l = l.length := by
  unfold fstI
  rw [List.findIdx_eq_length]
  intro x hx
  obtain ⟨i, hi, rfl⟩ := List.getElem_of_mem hx
  have := h i hi
  have e2 : l.getD i mk0 = l[i] := by simp [hi]
  rw [e2] at this
  exact this
theorem fstI_at {p : Mk → Bool} {l : List Mk} (h : fstI p l < l.length) : p (l.getD (fstI p l) mk0) = true := by
  have e2 : l.getD (fstI p l) mk0 = l[fstI p l] := by simp [h]
  rw [e2]
  exact List.findIdx_getElem
theorem fstI_before {p : Mk → Bool} {l : List Mk} {i : Nat} (h : i < fstI p l) : p (l.getD i mk0) = false := by
  have hl := fstI_le p l
  have e2 : l.getD i mk0 = l[i]'(by omega) := by simp [show i < l.length by omega]
  rw [e2]
  have := List.not_of_lt_findIdx h
  simpa using this
/-- The gaps ahead of a place. -/
def gapTo (l : List Mk) : Nat → List (Int × Int)
  | 0 => []
  | 1 => []
  | k + 2 => if (l.getD k mk0).fin < (l.getD (k + 1) mk0).pos then gapTo l (k + 1) ++ [((l.getD k mk0).fin, (l.getD (k + 1) mk0).pos)] else gapTo l (k + 1)
theorem gapTo_len (l : List Mk) : ∀ k, (gapTo l k).length ≤ k := by
  intro k
  match k with
  | 0 => simp [gapTo]
  | 1 => simp [gapTo]
  | k + 2 =>
    have := gapTo_len l (k + 1)
    simp only [gapTo]
    split
    · simp; omega
    · omega
theorem gapTo_pre (l : List Mk) : ∀ (d k : Nat), ∃ r, gapTo l (k + d) = gapTo l k ++ r := by
  intro d
  induction d with
  | zero => intro k; exact ⟨[], by simp⟩
  | succ d ih =>
    intro k
    obtain ⟨r, hr⟩ := ih k
    match hq : k + d with
    | 0 => exact ⟨[], by rw [show k = 0 from by omega, show d = 0 from by omega]; simp [gapTo]⟩
    | q + 1 =>
      rw [show k + (d + 1) = q + 2 from by omega]
      rw [hq] at hr
      simp only [gapTo]
      split
      · exact ⟨r ++ [((l.getD q mk0).fin, (l.getD (q + 1) mk0).pos)], by rw [hr, List.append_assoc]⟩
      · exact ⟨r, hr⟩
theorem gapTo_get (l : List Mk) {k n : Nat} (h : k + 1 < n) (hg : (l.getD k mk0).fin < (l.getD (k + 1) mk0).pos) : (gapTo l n).length > (gapTo l (k + 1)).length ∧ (gapTo l n).getD (gapTo l (k + 1)).length (0, 0) = ((l.getD k mk0).fin, (l.getD (k + 1) mk0).pos) := by
  obtain ⟨r, hr⟩ := gapTo_pre l (n - (k + 2)) (k + 2)
  rw [show k + 2 + (n - (k + 2)) = n from by omega] at hr
  simp only [gapTo, if_pos hg] at hr
  rw [hr]
  constructor
  · simp
  · simp
end Go.Proofs.Ytgphhganepjaiaa
