/-
  Arguments that are marks.
-/
import Derived.Test.YtgphhganepjaiaaTop2
import Derived.Test.YtgphhganepjaiaaQ6
set_option linter.all false
set_option linter.unusedSimpArgs false
set_option linter.unusedVariables false
set_option linter.unnecessarySimpa false
namespace Go.Proofs.Ytgphhganepjaiaa

def shMark : Sh := .pair (.int .u64) (.pair (.int .i64) (.pair (.int .i64) .nil))
theorem ty_mk {y : List AV} (h : shMark.Ty y) : ∃ m : Mk, y = [uA m.pos, iA m.cnt, iA m.at_] ∧ m.ok := by
  obtain ⟨a, b, rfl, ⟨p, rfl, hp⟩, c, d, rfl, ⟨q, rfl, hq⟩, e, f, rfl, ⟨r, rfl, hr⟩, rfl⟩ := h
  have := u64_wf hp
  have := i64_wf hq
  have := i64_wf hr
  exact ⟨⟨p, q, r⟩, rfl, by simp only [Mk.ok]; omega⟩
theorem mks_of {ys : List (List AV)} (h : ∀ y ∈ ys, y.length = 3 ∧ shMark.Ty y) : ∃ l : List Mk, ys.map (elA true) = mks l ∧ Mks l := by
  obtain ⟨l, rfl, hl⟩ := ex_list (g := fun m : Mk => [uA m.pos, iA m.cnt, iA m.at_]) (ok := Mk.ok) (fun y hy => (h y hy).2) fun y hy => ty_mk hy
  exact ⟨l, by simp [mks, elA], hl⟩
end Go.Proofs.Ytgphhganepjaiaa
