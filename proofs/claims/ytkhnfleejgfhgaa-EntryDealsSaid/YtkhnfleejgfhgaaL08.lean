/-
  Chapter 8: FrameWrites, FrameReads, FrameBack, FrameTells.
-/
import Derived.Test.YtkhnfleejgfhgaaK36
import Derived.Test.YtkhnfleejgfhgaaP15
import Derived.Test.YtkhnfleejgfhgaaTop
set_option linter.all false
set_option linter.unusedSimpArgs false
set_option linter.unusedVariables false
set_option linter.unnecessarySimpa false
namespace Go.Proofs.Ytkhnfleejgfhgaa
open Go.RowKit

theorem same_yes {l m : List Int} (h : l = m) : sameB l m = true := by rw [h]; exact same_self m
theorem bys_app {a b : List Int} (ha : Bys a) (hb : Bys b) : Bys (a ++ b) := fun x hx => by rcases List.mem_append.1 hx with hx | hx; exact ha x hx; exact hb x hx
theorem frameB_le (p : List Int) : (frameB p).length ≤ p.length + 14 ∧ p.length + 5 ≤ (frameB p).length := by
  rw [frameB_len]; unfold blobB; rw [List.length_append]; have := vb_len (p.length : Int); omega
end Go.Proofs.Ytkhnfleejgfhgaa
