/-
  Arguments that are rows of entries, or of ints.
-/
import Derived.Test.YtkhnfleejgfhgaaTopL
import Derived.Test.YtkhnfleejgfhgaaK54
set_option linter.all false
set_option linter.unusedSimpArgs false
set_option linter.unusedVariables false
set_option linter.unnecessarySimpa false
namespace Go.Proofs.Ytkhnfleejgfhgaa

theorem ens_of {ys : List (List AV)} (h : ∀ y ∈ ys, y.length = 2 ∧ shEn.Ty y) : ∃ l : List En, ys.map (elA true) = ens l ∧ Ens l := by
  obtain ⟨l, rfl, hl⟩ := ex_list (g := fun e : En => [slL e.lk, slA .u8 e.data]) (ok := En.ok) (fun y hy => (h y hy).2) fun y hy => ty_en hy
  exact ⟨l, by simp [ens, elA], hl⟩
theorem i64s_of {ys : List (List AV)} (h : ∀ y ∈ ys, y.length = 1 ∧ (Sh.int .i64).Ty y) : ∃ l : List Int, ys.map (elA false) = ints .i64 l ∧ ∀ n ∈ l, -9223372036854775808 ≤ n ∧ n < 9223372036854775808 := by
  obtain ⟨l, e, hl⟩ := ty_ints' h
  exact ⟨l, e, fun n hn => by have := i64_wf (hl n hn); omega⟩
end Go.Proofs.Ytkhnfleejgfhgaa
