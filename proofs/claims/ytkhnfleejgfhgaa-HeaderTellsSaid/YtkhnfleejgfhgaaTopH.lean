/-
  Arguments that are headers.
-/
import Derived.Test.YtkhnfleejgfhgaaTop2
import Derived.Test.YtkhnfleejgfhgaaK44
set_option linter.all false
set_option linter.unusedSimpArgs false
set_option linter.unusedVariables false
set_option linter.unnecessarySimpa false
namespace Go.Proofs.Ytkhnfleejgfhgaa

def shHd : Sh := .pair (.int .i64) (.pair (.int .u64) (.pair (.int .u64) .nil))
theorem hd_of {xs : List AV} (h : shHd.Ty xs) : ∃ d : Hd, AV.agg xs = hdA d ∧ d.ok := by
  obtain ⟨a, b, rfl, ⟨p, rfl, hp⟩, c, d, rfl, ⟨q, rfl, hq⟩, e, f, rfl, ⟨r, rfl, hr⟩, rfl⟩ := h
  have := i64_wf hp
  have := u64_wf hq
  have := u64_wf hr
  exact ⟨⟨p, q, r⟩, rfl, ⟨by simp only; omega, by simp only; omega, by simp only; omega, by simp only; omega, by simp only; omega, by simp only; omega⟩⟩
theorem w32_wf {x : Int} (h : (Lit.int .u32 x).wf = true) : 0 ≤ x ∧ x < 4294967296 := by
  simp [Lit.wf, IntKind.min, IntKind.max, IntKind.signed, IntKind.bits] at h
  omega
end Go.Proofs.Ytkhnfleejgfhgaa
