/-
  The closed facts of the row of DeltaTells.
-/
import Derived.Test.YtgphhganepjaiaaFacts
namespace Go.Proofs.Ytgphhganepjaiaa
open Go.RowKit
namespace CellDeltaTells
def C : List Nat := [8, 37, 40, 41, 50, 51, 52, 53, 54, 55, 56, 65, 90, 91, 112, 123, 124, 136]
theorem quiet : quietSet TELLS C = true := by decide +kernel
theorem mem : 8 ∈ C := by decide
theorem followed : followedSet TELLS C = true := by decide +kernel
theorem unf : false = Try.prog.unfollowed 8 := unfollowed_false tells_eq quiet followed mem
def R : List Nat := [0, 0, 0, 0, 0, 0, 0, 0, 6, 0, 0, 0, 0, 0, 0, 0, 0, 0, 0, 0, 0, 0, 0, 0, 0, 0, 0, 0, 0, 0, 0, 0, 0, 0, 0, 0, 0, 0, 0, 0, 1, 0, 0, 0, 0, 0, 0, 0, 0, 0, 0, 5, 0, 0, 0, 1, 0, 0, 0, 0, 0, 0, 0, 0, 0, 0, 0, 0, 0, 0, 0, 0, 0, 0, 0, 0, 0, 0, 0, 0, 0, 0, 0, 0, 0, 0, 0, 0, 0, 0, 2, 3, 0, 0, 0, 0, 0, 0, 0, 0, 0, 0, 0, 0, 0, 0, 0, 0, 0, 0, 0, 0, 4, 0, 0, 0, 0, 0, 0, 0, 0, 0, 0, 0, 1, 0, 0, 0, 0, 0, 0, 0, 0, 0, 0, 0, 0]
theorem rec : false = Try.prog.recurses 8 := recurses_false tells_eq quiet followed R (by decide +kernel) mem
theorem light : lightFacts Try.pinned.checked.prog Try.f8 Rows.deltaTellsSpec Rows.deltaTellsRow = true := by kernel_rfl
theorem lifted : Rows.deltaTellsRow.lifted = Try.pinned.checked.prog.liftsFinal := lifts_final
theorem made : Try.pinned.checked.prog.make = some Rows.deltaTellsRow.make := make_cut
theorem closed : joinedFacts Try.pinned.checked.prog 8 Try.f8 Rows.deltaTellsSpec Rows.deltaTellsRow = true :=
  joined_of Try.laidOut light may_enter lifted made (inPlace_nil tells_eq quiet mem) unf rec (varsNamed_nil tells_eq quiet mem)
theorem named : Try.pinned.checked.prog.funcNamed Rows.deltaTellsRow.func = some 8 := by kernel_rfl
theorem inst : Try.f8.isInstance Try.pinned.checked.prog Rows.deltaTellsRow.origin Rows.deltaTellsRow.targs := of_decide_eq_true (by kernel_rfl)
theorem wrap : Try.f8.isWrapper Try.pinned.checked.prog Rows.deltaTellsRow.wrapper Rows.deltaTellsRow.mainSum := by unfold Func.isWrapper; first | (rw [if_pos (by decide +kernel)]; kernel_rfl) | (rw [if_neg (by decide +kernel)]; exact ⟨rfl, rfl⟩)
end CellDeltaTells
end Go.Proofs.Ytgphhganepjaiaa
