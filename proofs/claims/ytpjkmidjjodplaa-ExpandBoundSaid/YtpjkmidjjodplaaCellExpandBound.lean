/-
  The closed facts of the row of ExpandBound.
-/
import Derived.Test.YtpjkmidjjodplaaFacts
namespace Go.Proofs.Ytpjkmidjjodplaa
open Go.RowKit
namespace CellExpandBound
def C : List Nat := [7, 17, 18, 19, 20, 21, 22, 25, 26, 33, 38, 39, 40, 42, 47, 53, 56, 57, 58, 59, 60, 70, 71, 72, 73, 74, 91, 92, 93, 94, 99, 115, 117]
theorem quiet : quietSet TELLS C = true := by decide +kernel
theorem mem : 7 ∈ C := by decide
theorem followed : followedSet TELLS C = true := by decide +kernel
theorem unf : false = Try.prog.unfollowed 7 := unfollowed_false tells_eq quiet followed mem
theorem rec : true = Try.prog.recurses 7 := recurses_true (g := 33) tells_eq 26 (by decide +kernel) (by decide +kernel) (by decide +kernel)
theorem light : lightFacts Try.pinned.checked.prog Try.f7 Rows.expandBoundSpec Rows.expandBoundRow = true := by kernel_rfl
theorem lifted : Rows.expandBoundRow.lifted = Try.pinned.checked.prog.liftsFinal := lifts_final
theorem made : Try.pinned.checked.prog.make = some Rows.expandBoundRow.make := make_cut
theorem closed : joinedFacts Try.pinned.checked.prog 7 Try.f7 Rows.expandBoundSpec Rows.expandBoundRow = true :=
  joined_of Try.laidOut light may_enter lifted made (inPlace_nil tells_eq quiet mem) unf rec (varsNamed_nil tells_eq quiet mem)
theorem named : Try.pinned.checked.prog.funcNamed Rows.expandBoundRow.func = some 7 := by kernel_rfl
theorem inst : Try.f7.isInstance Try.pinned.checked.prog Rows.expandBoundRow.origin Rows.expandBoundRow.targs := of_decide_eq_true (by kernel_rfl)
theorem wrap : Try.f7.isWrapper Try.pinned.checked.prog Rows.expandBoundRow.wrapper Rows.expandBoundRow.mainSum := by unfold Func.isWrapper; first | (rw [if_pos (by decide +kernel)]; kernel_rfl) | (rw [if_neg (by decide +kernel)]; exact ⟨rfl, rfl⟩)
end CellExpandBound
end Go.Proofs.Ytpjkmidjjodplaa
