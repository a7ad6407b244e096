/-
  The closed facts of the row of ExpandOrigins.
-/
import Derived.Test.YtpjkmidjjodplaaFacts
namespace Go.Proofs.Ytpjkmidjjodplaa
open Go.RowKit
namespace CellExpandOrigins
def C : List Nat := [4, 17, 18, 19, 20, 21, 22, 23, 24, 25, 26, 38, 39, 40, 70, 71, 72, 73, 74, 75]
theorem quiet : quietSet TELLS C = true := by decide +kernel
theorem mem : 4 ∈ C := by decide
theorem followed : followedSet TELLS C = true := by decide +kernel
theorem unf : false = Try.prog.unfollowed 4 := unfollowed_false tells_eq quiet followed mem
def R : List Nat := [0, 0, 0, 0, 5, 0, 0, 0, 0, 0, 0, 0, 0, 0, 0, 0, 0, 0, 4, 3, 2, 0, 1, 4, 4, 0, 0, 0, 0, 0, 0, 0, 0, 0, 0, 0, 0, 0, 0, 1, 1, 0, 0, 0, 0, 0, 0, 0, 0, 0, 0, 0, 0, 0, 0, 0, 0, 0, 0, 0, 0, 0, 0, 0, 0, 0, 0, 0, 0, 0, 2, 0, 0, 0, 0, 3]
theorem rec : false = Try.prog.recurses 4 := recurses_false tells_eq quiet followed R (by decide +kernel) mem
theorem light : lightFacts Try.pinned.checked.prog Try.f4 Rows.expandOriginsSpec Rows.expandOriginsRow = true := by kernel_rfl
theorem lifted : Rows.expandOriginsRow.lifted = Try.pinned.checked.prog.liftsFinal := lifts_final
theorem made : Try.pinned.checked.prog.make = some Rows.expandOriginsRow.make := make_cut
theorem closed : joinedFacts Try.pinned.checked.prog 4 Try.f4 Rows.expandOriginsSpec Rows.expandOriginsRow = true :=
  joined_of Try.laidOut light may_enter lifted made (inPlace_nil tells_eq quiet mem) unf rec (varsNamed_nil tells_eq quiet mem)
theorem named : Try.pinned.checked.prog.funcNamed Rows.expandOriginsRow.func = some 4 := by kernel_rfl
theorem inst : Try.f4.isInstance Try.pinned.checked.prog Rows.expandOriginsRow.origin Rows.expandOriginsRow.targs := of_decide_eq_true (by kernel_rfl)
theorem wrap : Try.f4.isWrapper Try.pinned.checked.prog Rows.expandOriginsRow.wrapper Rows.expandOriginsRow.mainSum := by unfold Func.isWrapper; first | (rw [if_pos (by decide +kernel)]; kernel_rfl) | (rw [if_neg (by decide +kernel)]; exact ⟨rfl, rfl⟩)
end CellExpandOrigins
end Go.Proofs.Ytpjkmidjjodplaa
