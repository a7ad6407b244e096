/-
  Chapter 8: FrameTells, FrameScans, FrameFinds.
-/
import Derived.Test.YtkhnfleejgfhgaaL08
import Derived.Test.YtkhnfleejgfhgaaI64
set_option linter.all false
set_option linter.unusedSimpArgs false
set_option linter.unusedVariables false
set_option linter.unnecessarySimpa false
namespace Go.Proofs.Ytkhnfleejgfhgaa
open Go.RowKit

theorem frameB_drop (p : List Int) : (frameB p).drop (vb (p.length : Int)).length = p ++ lowBytes 4 (crcI p) := by
  unfold frameB blobB; rw [List.append_assoc, List.drop_left]
theorem frameB_take (p : List Int) : (frameB p).take (vb (p.length : Int)).length = vb (p.length : Int) := by
  unfold frameB blobB; rw [List.append_assoc, List.take_left]
end Go.Proofs.Ytkhnfleejgfhgaa
