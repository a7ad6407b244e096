/-
  The closed facts of the row of EpochNext.
-/
import Derived.Test.YtgphhganepjaiaaFacts
namespace Go.Proofs.Ytgphhganepjaiaa
open Go.RowKit
namespace CellEpochNext
def C : List Nat := [4, 28, 30, 31, 32, 33, 34]
theorem quiet : quietSet TELLS C = true := by decide +kernel
theorem mem : 4 ∈ C := by decide
theorem followed : followedSet TELLS C = true := by decide +kernel
theorem unf : false = Try.prog.unfollowed 4 := unfollowed_false tells_eq quiet followed mem
def R : List Nat := [0, 0, 0, 0, 3, 0, 0, 0, 0, 0, 0, 0, 0, 0, 0, 0, 0, 0, 0, 0, 0, 0, 0, 0, 0, 0, 0, 0, 1, 0, 2, 1, 0, 1, 0]
theorem rec : false = Try.prog.recurses 4 := recurses_false tells_eq quiet followed R (by decide +kernel) mem
theorem light : lightFacts Try.pinned.checked.prog Try.f4 Rows.epochNextSpec Rows.epochNextRow = true := by kernel_rfl
theorem lifted : Rows.epochNextRow.lifted = Try.pinned.checked.prog.liftsFinal := lifts_final
theorem made : Try.pinned.checked.prog.make = some Rows.epochNextRow.make := make_cut
theorem closed : joinedFacts Try.pinned.checked.prog 4 Try.f4 Rows.epochNextSpec Rows.epochNextRow = true :=
  joined_of Try.laidOut light may_enter lifted made (inPlace_nil tells_eq quiet mem) unf rec (varsNamed_nil tells_eq quiet mem)
theorem named : Try.pinned.checked.prog.funcNamed Rows.epochNextRow.func = some 4 := by kernel_rfl
theorem inst : Try.f4.isInstance Try.pinned.checked.prog Rows.epochNextRow.origin Rows.epochNextRow.targs := of_decide_eq_true (by kernel_rfl)
theorem wrap : Try.f4.isWrapper Try.pinned.checked.prog Rows.epochNextRow.wrapper Rows.epochNextRow.mainSum := by unfold Func.isWrapper; first | (rw [if_pos (by decide +kernel)]; kernel_rfl) | (rw [if_neg (by decide +kernel)]; exact ⟨rfl, rfl⟩)
end CellEpochNext
end Go.Proofs.Ytgphhganepjaiaa
