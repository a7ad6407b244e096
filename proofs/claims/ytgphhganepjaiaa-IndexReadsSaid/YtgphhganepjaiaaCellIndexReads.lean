/-
  The closed facts of the row of IndexReads.
-/
import Derived.Test.YtgphhganepjaiaaFacts
namespace Go.Proofs.Ytgphhganepjaiaa
open Go.RowKit
namespace CellIndexReads
def C : List Nat := [26, 37, 40, 41, 42, 65, 66, 69, 73, 78, 79, 80, 81, 82, 83, 84, 85, 86, 87, 90, 91, 102, 111, 114, 115, 116, 117, 118, 119, 120, 123, 124, 126, 129, 130, 131, 132, 133, 136, 138, 141]
theorem quiet : quietSet TELLS C = true := by decide +kernel
theorem mem : 26 ∈ C := by decide
theorem followed : followedSet TELLS C = true := by decide +kernel
theorem unf : false = Try.prog.unfollowed 26 := unfollowed_false tells_eq quiet followed mem
theorem rec : true = Try.prog.recurses 26 := recurses_true (g := 42) tells_eq 83 (by decide +kernel) (by decide +kernel) (by decide +kernel)
theorem light : lightFacts Try.pinned.checked.prog Try.f26 Rows.indexReadsSpec Rows.indexReadsRow = true := by kernel_rfl
theorem lifted : Rows.indexReadsRow.lifted = Try.pinned.checked.prog.liftsFinal := lifts_final
theorem made : Try.pinned.checked.prog.make = some Rows.indexReadsRow.make := make_cut
theorem closed : joinedFacts Try.pinned.checked.prog 26 Try.f26 Rows.indexReadsSpec Rows.indexReadsRow = true :=
  joined_of Try.laidOut light may_enter lifted made (inPlace_nil tells_eq quiet mem) unf rec (varsNamed_nil tells_eq quiet mem)
theorem named : Try.pinned.checked.prog.funcNamed Rows.indexReadsRow.func = some 26 := by kernel_rfl
theorem inst : Try.f26.isInstance Try.pinned.checked.prog Rows.indexReadsRow.origin Rows.indexReadsRow.targs := of_decide_eq_true (by kernel_rfl)
theorem wrap : Try.f26.isWrapper Try.pinned.checked.prog Rows.indexReadsRow.wrapper Rows.indexReadsRow.mainSum := by unfold Func.isWrapper; first | (rw [if_pos (by decide +kernel)]; kernel_rfl) | (rw [if_neg (by decide +kernel)]; exact ⟨rfl, rfl⟩)
end CellIndexReads
end Go.Proofs.Ytgphhganepjaiaa
