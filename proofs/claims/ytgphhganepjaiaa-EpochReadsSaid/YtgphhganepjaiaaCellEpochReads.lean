/-
  The closed facts of the row of EpochReads.
-/
import Derived.Test.YtgphhganepjaiaaFacts
namespace Go.Proofs.Ytgphhganepjaiaa
open Go.RowKit
namespace CellEpochReads
def C : List Nat := [14, 28, 30, 32, 34, 35, 36, 41, 42, 73, 74, 75, 76, 77, 78, 79, 80, 81, 82, 85, 102, 111, 127, 128, 129, 130, 131, 132, 133, 138]
theorem quiet : quietSet TELLS C = true := by decide +kernel
theorem mem : 14 ∈ C := by decide
theorem unf : true = Try.prog.unfollowed 14 := unfollowed_true (g := 127) tells_eq 10 (by decide +kernel) (by decide +kernel) (by decide +kernel)
theorem rec : true = Try.prog.recurses 14 := recurses_true_of_unfollowed unf
theorem light : lightFacts Try.pinned.checked.prog Try.f14 Rows.epochReadsSpec Rows.epochReadsRow = true := by kernel_rfl
theorem lifted : Rows.epochReadsRow.lifted = Try.pinned.checked.prog.liftsFinal := lifts_final
theorem made : Try.pinned.checked.prog.make = some Rows.epochReadsRow.make := make_cut
theorem closed : joinedFacts Try.pinned.checked.prog 14 Try.f14 Rows.epochReadsSpec Rows.epochReadsRow = true :=
  joined_of Try.laidOut light may_enter lifted made (inPlace_nil tells_eq quiet mem) unf rec (varsNamed_nil tells_eq quiet mem)
theorem named : Try.pinned.checked.prog.funcNamed Rows.epochReadsRow.func = some 14 := by kernel_rfl
theorem inst : Try.f14.isInstance Try.pinned.checked.prog Rows.epochReadsRow.origin Rows.epochReadsRow.targs := of_decide_eq_true (by kernel_rfl)
theorem wrap : Try.f14.isWrapper Try.pinned.checked.prog Rows.epochReadsRow.wrapper Rows.epochReadsRow.mainSum := by unfold Func.isWrapper; first | (rw [if_pos (by decide +kernel)]; kernel_rfl) | (rw [if_neg (by decide +kernel)]; exact ⟨rfl, rfl⟩)
end CellEpochReads
end Go.Proofs.Ytgphhganepjaiaa
