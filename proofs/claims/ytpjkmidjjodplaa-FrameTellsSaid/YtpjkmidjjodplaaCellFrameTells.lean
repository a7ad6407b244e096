/-
  The closed facts of the row of FrameTells.
-/
import Derived.Test.YtpjkmidjjodplaaFacts
namespace Go.Proofs.Ytpjkmidjjodplaa
open Go.RowKit
namespace CellFrameTells
def C : List Nat := [13, 21, 27, 28, 29, 30, 31, 32, 35, 53, 56, 57, 60, 61, 62, 63, 71, 76, 77, 78, 79, 80, 81, 85, 86, 91, 92, 93, 94, 99, 100, 101, 102, 103, 106, 108, 109, 110, 111, 113, 114, 115, 117, 118, 120, 122]
theorem quiet : quietSet TELLS C = true := by decide +kernel
theorem mem : 13 ∈ C := by decide
theorem unf : true = Try.prog.unfollowed 13 := unfollowed_true (g := 103) tells_eq 69 (by decide +kernel) (by decide +kernel) (by decide +kernel)
theorem rec : true = Try.prog.recurses 13 := recurses_true_of_unfollowed unf
theorem light : lightFacts Try.pinned.checked.prog Try.f13 Rows.frameTellsSpec Rows.frameTellsRow = true := by kernel_rfl
theorem lifted : Rows.frameTellsRow.lifted = Try.pinned.checked.prog.liftsFinal := lifts_final
theorem made : Try.pinned.checked.prog.make = some Rows.frameTellsRow.make := make_cut
theorem closed : joinedFacts Try.pinned.checked.prog 13 Try.f13 Rows.frameTellsSpec Rows.frameTellsRow = true :=
  joined_of Try.laidOut light may_enter lifted made (inPlace_nil tells_eq quiet mem) unf rec (varsNamed_nil tells_eq quiet mem)
theorem named : Try.pinned.checked.prog.funcNamed Rows.frameTellsRow.func = some 13 := by kernel_rfl
theorem inst : Try.f13.isInstance Try.pinned.checked.prog Rows.frameTellsRow.origin Rows.frameTellsRow.targs := of_decide_eq_true (by kernel_rfl)
theorem wrap : Try.f13.isWrapper Try.pinned.checked.prog Rows.frameTellsRow.wrapper Rows.frameTellsRow.mainSum := by unfold Func.isWrapper; first | (rw [if_pos (by decide +kernel)]; kernel_rfl) | (rw [if_neg (by decide +kernel)]; exact ⟨rfl, rfl⟩)
end CellFrameTells
end Go.Proofs.Ytpjkmidjjodplaa
