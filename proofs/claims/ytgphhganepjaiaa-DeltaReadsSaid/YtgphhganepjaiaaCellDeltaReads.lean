/-
  The closed facts of the row of DeltaReads.
-/
import Derived.Test.YtgphhganepjaiaaFacts
namespace Go.Proofs.Ytgphhganepjaiaa
open Go.RowKit
namespace CellDeltaReads
def C : List Nat := [21, 37, 40, 41, 42, 50, 51, 52, 54, 56, 65, 73, 78, 79, 80, 81, 82, 83, 84, 85, 86, 87, 90, 91, 102, 103, 104, 105, 111, 112, 123, 124, 129, 130, 131, 132, 133, 136, 138]
theorem quiet : quietSet TELLS C = true := by decide +kernel
theorem mem : 21 ∈ C := by decide
theorem followed : followedSet TELLS C = true := by decide +kernel
theorem unf : false = Try.prog.unfollowed 21 := unfollowed_false tells_eq quiet followed mem
theorem rec : true = Try.prog.recurses 21 := recurses_true (g := 42) tells_eq 70 (by decide +kernel) (by decide +kernel) (by decide +kernel)
theorem light : lightFacts Try.pinned.checked.prog Try.f21 Rows.deltaReadsSpec Rows.deltaReadsRow = true := by kernel_rfl
theorem lifted : Rows.deltaReadsRow.lifted = Try.pinned.checked.prog.liftsFinal := lifts_final
theorem made : Try.pinned.checked.prog.make = some Rows.deltaReadsRow.make := make_cut
theorem closed : joinedFacts Try.pinned.checked.prog 21 Try.f21 Rows.deltaReadsSpec Rows.deltaReadsRow = true :=
  joined_of Try.laidOut light may_enter lifted made (inPlace_nil tells_eq quiet mem) unf rec (varsNamed_nil tells_eq quiet mem)
theorem named : Try.pinned.checked.prog.funcNamed Rows.deltaReadsRow.func = some 21 := by kernel_rfl
theorem inst : Try.f21.isInstance Try.pinned.checked.prog Rows.deltaReadsRow.origin Rows.deltaReadsRow.targs := of_decide_eq_true (by kernel_rfl)
theorem wrap : Try.f21.isWrapper Try.pinned.checked.prog Rows.deltaReadsRow.wrapper Rows.deltaReadsRow.mainSum := by unfold Func.isWrapper; first | (rw [if_pos (by decide +kernel)]; kernel_rfl) | (rw [if_neg (by decide +kernel)]; exact ⟨rfl, rfl⟩)
end CellDeltaReads
end Go.Proofs.Ytgphhganepjaiaa
