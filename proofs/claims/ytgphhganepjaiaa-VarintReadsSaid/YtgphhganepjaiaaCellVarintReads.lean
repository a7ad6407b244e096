/-
  The closed facts of the row of VarintReads.
-/
import Derived.Test.YtgphhganepjaiaaFacts
namespace Go.Proofs.Ytgphhganepjaiaa
open Go.RowKit
namespace CellVarintReads
def C : List Nat := [15, 41, 63, 64, 65, 73, 78, 79, 80, 81, 82, 83, 84, 85, 86, 87, 102, 111, 129, 130, 131, 132, 133, 138]
theorem quiet : quietSet TELLS C = true := by decide +kernel
theorem mem : 15 ∈ C := by decide
theorem followed : followedSet TELLS C = true := by decide +kernel
theorem unf : false = Try.prog.unfollowed 15 := unfollowed_false tells_eq quiet followed mem
def R : List Nat := [0, 0, 0, 0, 0, 0, 0, 0, 0, 0, 0, 0, 0, 0, 0, 8, 0, 0, 0, 0, 0, 0, 0, 0, 0, 0, 0, 0, 0, 0, 0, 0, 0, 0, 0, 0, 0, 0, 0, 0, 0, 0, 0, 0, 0, 0, 0, 0, 0, 0, 0, 0, 0, 0, 0, 0, 0, 0, 0, 0, 0, 0, 0, 7, 6, 0, 0, 0, 0, 0, 0, 0, 0, 0, 0, 0, 0, 0, 1, 0, 1, 3, 2, 3, 4, 5, 6, 7, 0, 0, 0, 0, 0, 0, 0, 0, 0, 0, 0, 0, 0, 0, 1, 0, 0, 0, 0, 0, 0, 0, 0, 0, 0, 0, 0, 0, 0, 0, 0, 0, 0, 0, 0, 0, 0, 0, 0, 0, 0, 1, 0, 0, 2, 4, 0, 0, 0, 0, 0]
theorem rec : false = Try.prog.recurses 15 := recurses_false tells_eq quiet followed R (by decide +kernel) mem
theorem light : lightFacts Try.pinned.checked.prog Try.f15 Rows.varintReadsSpec Rows.varintReadsRow = true := by kernel_rfl
theorem lifted : Rows.varintReadsRow.lifted = Try.pinned.checked.prog.liftsFinal := lifts_final
theorem made : Try.pinned.checked.prog.make = some Rows.varintReadsRow.make := make_cut
theorem closed : joinedFacts Try.pinned.checked.prog 15 Try.f15 Rows.varintReadsSpec Rows.varintReadsRow = true :=
  joined_of Try.laidOut light may_enter lifted made (inPlace_nil tells_eq quiet mem) unf rec (varsNamed_nil tells_eq quiet mem)
theorem named : Try.pinned.checked.prog.funcNamed Rows.varintReadsRow.func = some 15 := by kernel_rfl
theorem inst : Try.f15.isInstance Try.pinned.checked.prog Rows.varintReadsRow.origin Rows.varintReadsRow.targs := of_decide_eq_true (by kernel_rfl)
theorem wrap : Try.f15.isWrapper Try.pinned.checked.prog Rows.varintReadsRow.wrapper Rows.varintReadsRow.mainSum := by unfold Func.isWrapper; first | (rw [if_pos (by decide +kernel)]; kernel_rfl) | (rw [if_neg (by decide +kernel)]; exact ⟨rfl, rfl⟩)
end CellVarintReads
end Go.Proofs.Ytgphhganepjaiaa
