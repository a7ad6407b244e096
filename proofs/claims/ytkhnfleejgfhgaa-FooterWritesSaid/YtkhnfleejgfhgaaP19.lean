/-
  Plain laws: a reader of bytes that stand behind others reads the same, at other places. No program.
-/
import Derived.Test.YtkhnfleejgfhgaaP18
set_option linter.all false
set_option linter.unusedSimpArgs false
set_option linter.unusedVariables false
set_option linter.unnecessarySimpa false
namespace Go.Proofs.Ytkhnfleejgfhgaa

/-- The same reader, other bytes ahead. -/
def RS.sh (s : RS) (pre : List Int) : RS := ⟨pre ++ s.l, pre.length + s.at_, s.code, if s.code = 0 then s.fat else s.fat + pre.length⟩
section
variable {pre : List Int}
theorem sh_code (s : RS) : (s.sh pre).code = s.code := rfl
theorem sh_at (s : RS) : (s.sh pre).at_ = pre.length + s.at_ := rfl
theorem sh_left (s : RS) : (s.sh pre).left = s.left := by
  unfold RS.left RS.sh; simp only [List.length_append]; omega
theorem sh_rest {s : RS} (h : 0 ≤ s.at_) : (s.sh pre).rest = s.rest := by
  unfold RS.rest RS.sh
  have e : ((pre.length : Int) + s.at_).toNat = pre.length + s.at_.toNat := by omega
  simp only [e, List.drop_append]
  simp
theorem sh_fail (s : RS) (c a : Int) : (s.sh pre).fail c (pre.length + a) = (s.fail c a).sh pre := by
  unfold RS.fail
  by_cases h : s.code = 0
  · rw [if_pos (show (s.sh pre).code = 0 from h), if_pos h]
    unfold RS.sh flt
    by_cases hc : c = 0
    · simp [hc]
    · simp only [if_neg hc]; congr 1; omega
  · rw [if_neg (show ¬ (s.sh pre).code = 0 from h), if_neg h]
theorem sh_skip (s : RS) (n : Int) : (s.sh pre).skip n = ((s.skip n).1.sh pre, (s.skip n).2) := by
  unfold RS.skip
  rw [sh_code, sh_left]
  by_cases h : s.code = 0
  · rw [if_pos h, if_pos h]
    by_cases h1 : n < 0
    · rw [if_pos h1, if_pos h1]; simp only; rw [sh_at, sh_fail]
    · rw [if_neg h1, if_neg h1]
      by_cases h2 : s.left < n
      · rw [if_pos h2, if_pos h2]; simp only
        have e : ((s.sh pre).l.length : Int) = pre.length + s.l.length := by show (((pre ++ s.l).length : Nat) : Int) = _; rw [List.length_append]; omega
        rw [e, sh_fail]
      · rw [if_neg h2, if_neg h2]; simp only [Prod.mk.injEq, and_true]
        unfold RS.sh; simp only [RS.mk.injEq, true_and, and_true]; omega
  · rw [if_neg h, if_neg h]
theorem sh_take {s : RS} (h : 0 ≤ s.at_) (n : Int) : (s.sh pre).take n = ((s.take n).1.sh pre, (s.take n).2) := by
  have hr := sh_rest (pre := pre) h
  unfold RS.rest at hr
  unfold RS.take
  rw [sh_skip, hr]
  simp only
  split <;> rfl
theorem sh_vint {s : RS} (h : 0 ≤ s.at_) : (s.sh pre).vint = (s.vint.1.sh pre, s.vint.2) := by
  have hr := sh_rest (pre := pre) h
  unfold RS.vint
  rw [sh_code, hr]
  by_cases hc : s.code = 0
  · rw [if_pos hc, if_pos hc]
    by_cases h0 : (vgo 0 s.rest).1 = 0
    · rw [if_pos h0, if_pos h0]
      simp only [Prod.mk.injEq, and_true]
      unfold RS.adv RS.sh; simp only [RS.mk.injEq, true_and, and_true]; omega
    · rw [if_neg h0, if_neg h0]
      by_cases h1 : (vgo 0 s.rest).1 = 1
      · rw [if_pos h1, if_pos h1]
        simp only [Prod.mk.injEq, and_true]
        unfold RS.sh; simp only [RS.mk.injEq, true_and, List.length_append]
        refine ⟨by omega, ?_⟩
        rw [if_neg (by decide)]; omega
      · rw [if_neg h1, if_neg h1]
        simp only [Prod.mk.injEq, and_true]
        unfold RS.sh; simp only [RS.mk.injEq, true_and]
        refine ⟨by omega, ?_⟩
        rw [if_neg h0]; omega
  · rw [if_neg hc, if_neg hc]
theorem sh_most {s : RS} (h : 0 ≤ s.at_) (m : Int) : (s.sh pre).most m = ((s.most m).1.sh pre, (s.most m).2) := by
  unfold RS.most
  rw [sh_vint h]; simp only
  by_cases hm : m < s.vint.2
  · rw [if_pos hm, if_pos hm, sh_at, sh_fail]
  · rw [if_neg hm, if_neg hm]
theorem sh_int {s : RS} (h : 0 ≤ s.at_) (m : Int) : (s.sh pre).int m = ((s.int m).1.sh pre, (s.int m).2) := by
  unfold RS.int
  by_cases hm : 0 ≤ m
  · rw [if_pos hm, if_pos hm, sh_most h]
  · rw [if_neg hm, if_neg hm, sh_vint h]; simp only; rw [sh_at, sh_fail]
theorem sh_blob {s : RS} (h : ROk s) (m : Int) : (s.sh pre).blob m = ((s.blob m).1.sh pre, (s.blob m).2) := by
  unfold RS.blob
  rw [sh_int h.at0]; simp only
  rw [sh_take (h.int m).1.at0]
theorem sh_fixed {s : RS} (h : 0 ≤ s.at_) (n : Int) : (s.sh pre).fixed n = ((s.fixed n).1.sh pre, (s.fixed n).2) := by
  unfold RS.fixed
  rw [sh_take h]
theorem sh_frame {s : RS} (h : ROk s) (m : Int) : (s.sh pre).frame m = ((s.frame m).1.sh pre, (s.frame m).2) := by
  obtain ⟨a, b⟩ := RS.ok.blob h (mfr m)
  unfold RS.frame
  rw [sh_blob h]; simp only
  rw [sh_fixed a.at0]; simp only
  rw [sh_code]
  by_cases h1 : ((s.blob (mfr m)).1.fixed 4).1.code = 0
  · rw [if_pos h1, if_pos h1]
    by_cases h2 : ((s.blob (mfr m)).1.fixed 4).2 = crcI (s.blob (mfr m)).2
    · rw [if_pos h2, if_pos h2]
    · rw [if_neg h2, if_neg h2, sh_at, sh_fail]
  · rw [if_neg h1, if_neg h1]
theorem sh_epo {s : RS} (h : 0 ≤ s.at_) (ok : Int → Bool) : (s.sh pre).epo ok = ((s.epo ok).1.sh pre, (s.epo ok).2) := by
  unfold RS.epo
  rw [sh_vint h]; simp only
  rw [sh_code]
  by_cases h1 : s.vint.1.code = 0
  · rw [if_pos h1, if_pos h1]
    by_cases h2 : ok s.vint.2 = true
    · rw [if_pos h2, if_pos h2]
    · rw [if_neg h2, if_neg h2, sh_at, sh_fail]
  · rw [if_neg h1, if_neg h1]
end
/-- A reader at a place is one at the front of the bytes from there on, the others ahead. -/
theorem at_sh (l : List Int) (a : Nat) (h : a ≤ l.length) : (⟨l, (a : Int), 0, 0⟩ : RS) = (RS.new (l.drop a)).sh (l.take a) := by
  unfold RS.sh RS.new
  simp only [RS.mk.injEq, List.take_append_drop, List.length_take, true_and]
  refine ⟨by omega, by simp⟩
end Go.Proofs.Ytkhnfleejgfhgaa
