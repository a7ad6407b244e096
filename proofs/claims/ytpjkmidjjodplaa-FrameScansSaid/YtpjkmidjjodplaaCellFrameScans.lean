/-
  The closed facts of the row of FrameScans.
-/
import Derived.Test.YtpjkmidjjodplaaFacts
namespace Go.Proofs.Ytpjkmidjjodplaa
open Go.RowKit
namespace CellFrameScans
def C : List Nat := [15, 21, 27, 28, 29, 30, 31, 32, 35, 53, 56, 57, 60, 61, 63, 64, 65, 67, 68, 69, 71, 73, 76, 77, 78, 79, 80, 81, 84, 85, 86, 91, 92, 93, 94, 95, 97, 98, 99, 100, 101, 102, 103, 104, 105, 106, 107, 108, 109, 110, 111, 112, 113, 114, 115, 116, 117, 118, 119, 120, 121, 122]
theorem quiet : quietSet TELLS C = true := by decide +kernel
theorem mem : 15 ∈ C := by decide
theorem unf : true = Try.prog.unfollowed 15 := unfollowed_true (g := 103) tells_eq 73 (by decide +kernel) (by decide +kernel) (by decide +kernel)
theorem rec : true = Try.prog.recurses 15 := recurses_true_of_unfollowed unf
theorem light : lightFacts Try.pinned.checked.prog Try.f15 Rows.frameScansSpec Rows.frameScansRow = true := by kernel_rfl
theorem lifted : Rows.frameScansRow.lifted = Try.pinned.checked.prog.liftsFinal := lifts_final
theorem made : Try.pinned.checked.prog.make = some Rows.frameScansRow.make := make_cut
theorem closed : joinedFacts Try.pinned.checked.prog 15 Try.f15 Rows.frameScansSpec Rows.frameScansRow = true :=
  joined_of Try.laidOut light may_enter lifted made (inPlace_nil tells_eq quiet mem) unf rec (varsNamed_nil tells_eq quiet mem)
theorem named : Try.pinned.checked.prog.funcNamed Rows.frameScansRow.func = some 15 := by kernel_rfl
theorem inst : Try.f15.isInstance Try.pinned.checked.prog Rows.frameScansRow.origin Rows.frameScansRow.targs := of_decide_eq_true (by kernel_rfl)
theorem wrap : Try.f15.isWrapper Try.pinned.checked.prog Rows.frameScansRow.wrapper Rows.frameScansRow.mainSum := by unfold Func.isWrapper; first | (rw [if_pos (by decide +kernel)]; kernel_rfl) | (rw [if_neg (by decide +kernel)]; exact ⟨rfl, rfl⟩)
end CellFrameScans
end Go.Proofs.Ytpjkmidjjodplaa
