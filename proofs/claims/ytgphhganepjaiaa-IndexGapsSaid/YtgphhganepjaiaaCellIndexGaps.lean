/-
  The closed facts of the row of IndexGaps.
-/
import Derived.Test.YtgphhganepjaiaaFacts
namespace Go.Proofs.Ytgphhganepjaiaa
open Go.RowKit
namespace CellIndexGaps
def C : List Nat := [16, 37, 40, 41, 65, 66, 69, 71, 88, 89, 90, 91, 118, 119, 120, 123, 124, 126, 134, 135, 136, 141]
theorem quiet : quietSet TELLS C = true := by decide +kernel
theorem mem : 16 ∈ C := by decide
theorem unf : true = Try.prog.unfollowed 16 := unfollowed_true (g := 134) tells_eq 32 (by decide +kernel) (by decide +kernel) (by decide +kernel)
theorem rec : true = Try.prog.recurses 16 := recurses_true_of_unfollowed unf
theorem light : lightFacts Try.pinned.checked.prog Try.f16 Rows.indexGapsSpec Rows.indexGapsRow = true := by kernel_rfl
theorem lifted : Rows.indexGapsRow.lifted = Try.pinned.checked.prog.liftsFinal := lifts_final
theorem made : Try.pinned.checked.prog.make = some Rows.indexGapsRow.make := make_cut
theorem closed : joinedFacts Try.pinned.checked.prog 16 Try.f16 Rows.indexGapsSpec Rows.indexGapsRow = true :=
  joined_of Try.laidOut light may_enter lifted made (inPlace_nil tells_eq quiet mem) unf rec (varsNamed_nil tells_eq quiet mem)
theorem named : Try.pinned.checked.prog.funcNamed Rows.indexGapsRow.func = some 16 := by kernel_rfl
theorem inst : Try.f16.isInstance Try.pinned.checked.prog Rows.indexGapsRow.origin Rows.indexGapsRow.targs := of_decide_eq_true (by kernel_rfl)
theorem wrap : Try.f16.isWrapper Try.pinned.checked.prog Rows.indexGapsRow.wrapper Rows.indexGapsRow.mainSum := by unfold Func.isWrapper; first | (rw [if_pos (by decide +kernel)]; kernel_rfl) | (rw [if_neg (by decide +kernel)]; exact ⟨rfl, rfl⟩)
end CellIndexGaps
end Go.Proofs.Ytgphhganepjaiaa
