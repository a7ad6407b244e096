/-
  The closed facts of the row of FrameReads.
-/
import Derived.Test.YtpjkmidjjodplaaFacts
namespace Go.Proofs.Ytpjkmidjjodplaa
open Go.RowKit
namespace CellFrameReads
def C : List Nat := [14, 21, 27, 28, 29, 30, 31, 32, 33, 35, 53, 56, 57, 60, 61, 63, 64, 65, 66, 71, 73, 76, 77, 78, 79, 80, 81, 84, 85, 86, 91, 92, 93, 94, 95, 97, 98, 99, 100, 101, 102, 103, 104, 105, 106, 107, 108, 109, 110, 111, 112, 113, 114, 115, 116, 117, 118, 119, 120, 121, 122]
theorem quiet : quietSet TELLS C = true := by decide +kernel
theorem mem : 14 ∈ C := by decide
theorem unf : true = Try.prog.unfollowed 14 := unfollowed_true (g := 103) tells_eq 65 (by decide +kernel) (by decide +kernel) (by decide +kernel)
theorem rec : true = Try.prog.recurses 14 := recurses_true_of_unfollowed unf
theorem light : lightFacts Try.pinned.checked.prog Try.f14 Rows.frameReadsSpec Rows.frameReadsRow = true := by kernel_rfl
theorem lifted : Rows.frameReadsRow.lifted = Try.pinned.checked.prog.liftsFinal := lifts_final
theorem made : Try.pinned.checked.prog.make = some Rows.frameReadsRow.make := make_cut
theorem closed : joinedFacts Try.pinned.checked.prog 14 Try.f14 Rows.frameReadsSpec Rows.frameReadsRow = true :=
  joined_of Try.laidOut light may_enter lifted made (inPlace_nil tells_eq quiet mem) unf rec (varsNamed_nil tells_eq quiet mem)
theorem named : Try.pinned.checked.prog.funcNamed Rows.frameReadsRow.func = some 14 := by kernel_rfl
theorem inst : Try.f14.isInstance Try.pinned.checked.prog Rows.frameReadsRow.origin Rows.frameReadsRow.targs := of_decide_eq_true (by kernel_rfl)
theorem wrap : Try.f14.isWrapper Try.pinned.checked.prog Rows.frameReadsRow.wrapper Rows.frameReadsRow.mainSum := by unfold Func.isWrapper; first | (rw [if_pos (by decide +kernel)]; kernel_rfl) | (rw [if_neg (by decide +kernel)]; exact ⟨rfl, rfl⟩)
end CellFrameReads
end Go.Proofs.Ytpjkmidjjodplaa
