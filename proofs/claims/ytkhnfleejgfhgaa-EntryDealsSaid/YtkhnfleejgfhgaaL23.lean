/-
  Chapter 23: LinkReads, LinkWrites.
-/
import Derived.Test.YtkhnfleejgfhgaaK42
import Derived.Test.YtkhnfleejgfhgaaP22
import Derived.Test.YtkhnfleejgfhgaaTop
set_option linter.all false
set_option linter.unusedSimpArgs false
set_option linter.unusedVariables false
set_option linter.unnecessarySimpa false
namespace Go.Proofs.Ytkhnfleejgfhgaa
open Go.RowKit

theorem same_yes {l m : List Int} (h : l = m) : sameB l m = true := by rw [h]; exact same_self m
theorem bys_app {a b : List Int} (ha : Bys a) (hb : Bys b) : Bys (a ++ b) := fun x hx => by rcases List.mem_append.1 hx with hx | hx; exact ha x hx; exact hb x hx
theorem links_len {s : RS} {pos : Int} (h : ROk s) (p0 : 0 ≤ pos) (p1 : pos < 18446744073709551616) : Smalls (s.links pos).2 := by
  by_cases hc : (s.links pos).1.code = 0
  · obtain ⟨i1, i2, i3, i4, i5⟩ := links_is h p0 p1 hc
    obtain ⟨r1, r2, r3⟩ := rightL_iff.1 i3
    exact ⟨by omega, fun x hx => by have := (goodL_iff.1 (r3 x hx)).1; omega⟩
  · rw [links_bad hc]; exact ⟨by simp, by simp⟩
end Go.Proofs.Ytkhnfleejgfhgaa
