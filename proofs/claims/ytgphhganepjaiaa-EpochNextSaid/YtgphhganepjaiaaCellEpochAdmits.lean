/-
  The closed facts of the row of EpochAdmits.
-/
import Derived.Test.YtgphhganepjaiaaFacts
namespace Go.Proofs.Ytgphhganepjaiaa
open Go.RowKit
namespace CellEpochAdmits
def C : List Nat := [3, 28, 29, 30, 32, 34]
theorem quiet : quietSet TELLS C = true := by decide +kernel
theorem mem : 3 ∈ C := by decide
theorem followed : followedSet TELLS C = true := by decide +kernel
theorem unf : false = Try.prog.unfollowed 3 := unfollowed_false tells_eq quiet followed mem
def R : List Nat := [0, 0, 0, 3, 0, 0, 0, 0, 0, 0, 0, 0, 0, 0, 0, 0, 0, 0, 0, 0, 0, 0, 0, 0, 0, 0, 0, 0, 1, 1, 2, 0, 0, 0, 0]
theorem rec : false = Try.prog.recurses 3 := recurses_false tells_eq quiet followed R (by decide +kernel) mem
theorem light : lightFacts Try.pinned.checked.prog Try.f3 Rows.epochAdmitsSpec Rows.epochAdmitsRow = true := by kernel_rfl
theorem lifted : Rows.epochAdmitsRow.lifted = Try.pinned.checked.prog.liftsFinal := lifts_final
theorem made : Try.pinned.checked.prog.make = some Rows.epochAdmitsRow.make := make_cut
theorem closed : joinedFacts Try.pinned.checked.prog 3 Try.f3 Rows.epochAdmitsSpec Rows.epochAdmitsRow = true :=
  joined_of Try.laidOut light may_enter lifted made (inPlace_nil tells_eq quiet mem) unf rec (varsNamed_nil tells_eq quiet mem)
theorem named : Try.pinned.checked.prog.funcNamed Rows.epochAdmitsRow.func = some 3 := by kernel_rfl
theorem inst : Try.f3.isInstance Try.pinned.checked.prog Rows.epochAdmitsRow.origin Rows.epochAdmitsRow.targs := of_decide_eq_true (by kernel_rfl)
theorem wrap : Try.f3.isWrapper Try.pinned.checked.prog Rows.epochAdmitsRow.wrapper Rows.epochAdmitsRow.mainSum := by unfold Func.isWrapper; first | (rw [if_pos (by decide +kernel)]; kernel_rfl) | (rw [if_neg (by decide +kernel)]; exact ⟨rfl, rfl⟩)
end CellEpochAdmits
end Go.Proofs.Ytgphhganepjaiaa
