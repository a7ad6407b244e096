/-
  Arguments that are footers.
-/
import Derived.Test.YtkhnfleejgfhgaaTop2
import Derived.Test.YtkhnfleejgfhgaaK47
set_option linter.all false
set_option linter.unusedSimpArgs false
set_option linter.unusedVariables false
set_option linter.unnecessarySimpa false
namespace Go.Proofs.Ytkhnfleejgfhgaa

def shFt : Sh := .pair (.int .u64) (.pair (.int .i64) (.pair (.int .i64) (.pair (.int .u64) (.pair (.int .u64) (.pair (.int .i64) (.pair (.int .i64) .nil))))))
theorem ft_of {xs : List AV} (h : shFt.Ty xs) : ∃ f : Ft, AV.agg xs = ftA f ∧ f.ok := by
  obtain ⟨_, _, rfl, ⟨a, rfl, ha⟩, _, _, rfl, ⟨b, rfl, hb⟩, _, _, rfl, ⟨c, rfl, hc⟩, _, _, rfl, ⟨d, rfl, hd⟩, _, _, rfl, ⟨e, rfl, he⟩, _, _, rfl, ⟨g, rfl, hg⟩, _, _, rfl, ⟨i, rfl, hi⟩, rfl⟩ := h
  have := u64_wf ha
  have := i64_wf hb
  have := i64_wf hc
  have := u64_wf hd
  have := u64_wf he
  have := i64_wf hg
  have := i64_wf hi
  exact ⟨⟨a, b, c, d, e, g, i⟩, rfl, ⟨by simp only; omega, by simp only; omega, by simp only; omega, by simp only; omega, by simp only; omega, by simp only; omega, by simp only; omega⟩⟩
end Go.Proofs.Ytkhnfleejgfhgaa
