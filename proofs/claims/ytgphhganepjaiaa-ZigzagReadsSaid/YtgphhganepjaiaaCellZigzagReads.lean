/-
  The closed facts of the row of ZigzagReads.
-/
import Derived.Test.YtgphhganepjaiaaFacts
namespace Go.Proofs.Ytgphhganepjaiaa
open Go.RowKit
namespace CellZigzagReads
def C : List Nat := [19, 37, 40, 41, 54, 57, 58, 59, 60, 65, 73, 78, 79, 80, 81, 82, 85, 90, 91, 92, 98, 99, 102, 111, 123, 124, 125, 129, 130, 131, 132, 133, 136, 138]
theorem quiet : quietSet TELLS C = true := by decide +kernel
theorem mem : 19 ∈ C := by decide
theorem followed : followedSet TELLS C = true := by decide +kernel
theorem unf : false = Try.prog.unfollowed 19 := unfollowed_false tells_eq quiet followed mem
def R : List Nat := [0, 0, 0, 0, 0, 0, 0, 0, 0, 0, 0, 0, 0, 0, 0, 0, 0, 0, 0, 7, 0, 0, 0, 0, 0, 0, 0, 0, 0, 0, 0, 0, 0, 0, 0, 0, 0, 0, 0, 0, 1, 0, 0, 0, 0, 0, 0, 0, 0, 0, 0, 0, 0, 0, 0, 0, 0, 5, 4, 0, 0, 0, 0, 0, 0, 0, 0, 0, 0, 0, 0, 0, 0, 0, 0, 0, 0, 0, 1, 0, 1, 3, 2, 0, 0, 5, 0, 0, 0, 0, 2, 3, 0, 0, 0, 0, 0, 0, 6, 3, 0, 0, 1, 0, 0, 0, 0, 0, 0, 0, 0, 0, 0, 0, 0, 0, 0, 0, 0, 0, 0, 0, 0, 0, 1, 0, 0, 0, 0, 1, 0, 0, 2, 4, 0, 0, 0, 0, 0]
theorem rec : false = Try.prog.recurses 19 := recurses_false tells_eq quiet followed R (by decide +kernel) mem
theorem light : lightFacts Try.pinned.checked.prog Try.f19 Rows.zigzagReadsSpec Rows.zigzagReadsRow = true := by kernel_rfl
theorem lifted : Rows.zigzagReadsRow.lifted = Try.pinned.checked.prog.liftsFinal := lifts_final
theorem made : Try.pinned.checked.prog.make = some Rows.zigzagReadsRow.make := make_cut
theorem closed : joinedFacts Try.pinned.checked.prog 19 Try.f19 Rows.zigzagReadsSpec Rows.zigzagReadsRow = true :=
  joined_of Try.laidOut light may_enter lifted made (inPlace_nil tells_eq quiet mem) unf rec (varsNamed_nil tells_eq quiet mem)
theorem named : Try.pinned.checked.prog.funcNamed Rows.zigzagReadsRow.func = some 19 := by kernel_rfl
theorem inst : Try.f19.isInstance Try.pinned.checked.prog Rows.zigzagReadsRow.origin Rows.zigzagReadsRow.targs := of_decide_eq_true (by kernel_rfl)
theorem wrap : Try.f19.isWrapper Try.pinned.checked.prog Rows.zigzagReadsRow.wrapper Rows.zigzagReadsRow.mainSum := by unfold Func.isWrapper; first | (rw [if_pos (by decide +kernel)]; kernel_rfl) | (rw [if_neg (by decide +kernel)]; exact ⟨rfl, rfl⟩)
end CellZigzagReads
end Go.Proofs.Ytgphhganepjaiaa
