/-
  The closed facts of the row of ExpandBytes.
-/
import Derived.Test.YtpjkmidjjodplaaFacts
namespace Go.Proofs.Ytpjkmidjjodplaa
open Go.RowKit
namespace CellExpandBytes
def C : List Nat := [8, 18, 19, 21, 22, 25, 26, 38, 40, 47, 48, 49, 50, 53, 54, 55, 56, 57, 58, 59, 60, 70, 71, 72, 73, 74, 91, 92, 93, 94, 95, 96, 97, 98, 99, 115, 116, 117]
theorem quiet : quietSet TELLS C = true := by decide +kernel
theorem mem : 8 ∈ C := by decide
theorem followed : followedSet TELLS C = true := by decide +kernel
theorem unf : false = Try.prog.unfollowed 8 := unfollowed_false tells_eq quiet followed mem
def R : List Nat := [0, 0, 0, 0, 0, 0, 0, 0, 9, 0, 0, 0, 0, 0, 0, 0, 0, 0, 4, 3, 0, 0, 1, 0, 0, 0, 0, 0, 0, 0, 0, 0, 0, 0, 0, 0, 0, 0, 0, 0, 1, 0, 0, 0, 0, 0, 0, 7, 4, 8, 4, 0, 0, 0, 7, 3, 1, 0, 6, 6, 1, 0, 0, 0, 0, 0, 0, 0, 0, 0, 2, 0, 0, 0, 0, 0, 0, 0, 0, 0, 0, 0, 0, 0, 0, 0, 0, 0, 0, 0, 0, 0, 2, 4, 0, 2, 0, 1, 2, 5, 0, 0, 0, 0, 0, 0, 0, 0, 0, 0, 0, 0, 0, 0, 0, 3, 1, 4]
theorem rec : false = Try.prog.recurses 8 := recurses_false tells_eq quiet followed R (by decide +kernel) mem
theorem light : lightFacts Try.pinned.checked.prog Try.f8 Rows.expandBytesSpec Rows.expandBytesRow = true := by kernel_rfl
theorem lifted : Rows.expandBytesRow.lifted = Try.pinned.checked.prog.liftsFinal := lifts_final
theorem made : Try.pinned.checked.prog.make = some Rows.expandBytesRow.make := make_cut
theorem closed : joinedFacts Try.pinned.checked.prog 8 Try.f8 Rows.expandBytesSpec Rows.expandBytesRow = true :=
  joined_of Try.laidOut light may_enter lifted made (inPlace_nil tells_eq quiet mem) unf rec (varsNamed_nil tells_eq quiet mem)
theorem named : Try.pinned.checked.prog.funcNamed Rows.expandBytesRow.func = some 8 := by kernel_rfl
theorem inst : Try.f8.isInstance Try.pinned.checked.prog Rows.expandBytesRow.origin Rows.expandBytesRow.targs := of_decide_eq_true (by kernel_rfl)
theorem wrap : Try.f8.isWrapper Try.pinned.checked.prog Rows.expandBytesRow.wrapper Rows.expandBytesRow.mainSum := by unfold Func.isWrapper; first | (rw [if_pos (by decide +kernel)]; kernel_rfl) | (rw [if_neg (by decide +kernel)]; exact ⟨rfl, rfl⟩)
end CellExpandBytes
end Go.Proofs.Ytpjkmidjjodplaa
