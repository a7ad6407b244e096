/-
  The closed facts of the row of FrameBack.
-/
import Derived.Test.YtpjkmidjjodplaaFacts
namespace Go.Proofs.Ytpjkmidjjodplaa
open Go.RowKit
namespace CellFrameBack
def C : List Nat := [12, 21, 27, 28, 29, 30, 31, 32, 35, 53, 56, 57, 60, 61, 63, 71, 76, 77, 78, 79, 80, 81, 85, 86, 91, 92, 93, 94, 99, 100, 101, 102, 103, 106, 108, 109, 110, 111, 113, 114, 115, 117, 118, 120, 122]
theorem quiet : quietSet TELLS C = true := by decide +kernel
theorem mem : 12 ∈ C := by decide
theorem unf : true = Try.prog.unfollowed 12 := unfollowed_true (g := 103) tells_eq 67 (by decide +kernel) (by decide +kernel) (by decide +kernel)
theorem rec : true = Try.prog.recurses 12 := recurses_true_of_unfollowed unf
theorem light : lightFacts Try.pinned.checked.prog Try.f12 Rows.frameBackSpec Rows.frameBackRow = true := by kernel_rfl
theorem lifted : Rows.frameBackRow.lifted = Try.pinned.checked.prog.liftsFinal := lifts_final
theorem made : Try.pinned.checked.prog.make = some Rows.frameBackRow.make := make_cut
theorem closed : joinedFacts Try.pinned.checked.prog 12 Try.f12 Rows.frameBackSpec Rows.frameBackRow = true :=
  joined_of Try.laidOut light may_enter lifted made (inPlace_nil tells_eq quiet mem) unf rec (varsNamed_nil tells_eq quiet mem)
theorem named : Try.pinned.checked.prog.funcNamed Rows.frameBackRow.func = some 12 := by kernel_rfl
theorem inst : Try.f12.isInstance Try.pinned.checked.prog Rows.frameBackRow.origin Rows.frameBackRow.targs := of_decide_eq_true (by kernel_rfl)
theorem wrap : Try.f12.isWrapper Try.pinned.checked.prog Rows.frameBackRow.wrapper Rows.frameBackRow.mainSum := by unfold Func.isWrapper; first | (rw [if_pos (by decide +kernel)]; kernel_rfl) | (rw [if_neg (by decide +kernel)]; exact ⟨rfl, rfl⟩)
end CellFrameBack
end Go.Proofs.Ytpjkmidjjodplaa
