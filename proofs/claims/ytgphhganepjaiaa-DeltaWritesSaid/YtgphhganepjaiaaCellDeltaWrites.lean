/-
  The closed facts of the row of DeltaWrites.
-/
import Derived.Test.YtgphhganepjaiaaFacts
namespace Go.Proofs.Ytgphhganepjaiaa
open Go.RowKit
namespace CellDeltaWrites
def C : List Nat := [25, 37, 40, 41, 42, 50, 51, 52, 54, 56, 65, 72, 73, 79, 81, 85, 86, 87, 90, 91, 102, 103, 105, 111, 112, 113, 123, 124, 130, 132, 133, 136, 138]
theorem quiet : quietSet TELLS C = true := by decide +kernel
theorem mem : 25 ∈ C := by decide
theorem followed : followedSet TELLS C = true := by decide +kernel
theorem unf : false = Try.prog.unfollowed 25 := unfollowed_false tells_eq quiet followed mem
theorem rec : true = Try.prog.recurses 25 := recurses_true (g := 42) tells_eq 58 (by decide +kernel) (by decide +kernel) (by decide +kernel)
theorem light : lightFacts Try.pinned.checked.prog Try.f25 Rows.deltaWritesSpec Rows.deltaWritesRow = true := by kernel_rfl
theorem lifted : Rows.deltaWritesRow.lifted = Try.pinned.checked.prog.liftsFinal := lifts_final
theorem made : Try.pinned.checked.prog.make = some Rows.deltaWritesRow.make := make_cut
theorem closed : joinedFacts Try.pinned.checked.prog 25 Try.f25 Rows.deltaWritesSpec Rows.deltaWritesRow = true :=
  joined_of Try.laidOut light may_enter lifted made (inPlace_nil tells_eq quiet mem) unf rec (varsNamed_nil tells_eq quiet mem)
theorem named : Try.pinned.checked.prog.funcNamed Rows.deltaWritesRow.func = some 25 := by kernel_rfl
theorem inst : Try.f25.isInstance Try.pinned.checked.prog Rows.deltaWritesRow.origin Rows.deltaWritesRow.targs := of_decide_eq_true (by kernel_rfl)
theorem wrap : Try.f25.isWrapper Try.pinned.checked.prog Rows.deltaWritesRow.wrapper Rows.deltaWritesRow.mainSum := by unfold Func.isWrapper; first | (rw [if_pos (by decide +kernel)]; kernel_rfl) | (rw [if_neg (by decide +kernel)]; exact ⟨rfl, rfl⟩)
end CellDeltaWrites
end Go.Proofs.Ytgphhganepjaiaa
