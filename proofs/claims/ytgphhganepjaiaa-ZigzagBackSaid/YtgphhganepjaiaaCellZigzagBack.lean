/-
  The closed facts of the row of ZigzagBack.
-/
import Derived.Test.YtgphhganepjaiaaFacts
namespace Go.Proofs.Ytgphhganepjaiaa
open Go.RowKit
namespace CellZigzagBack
def C : List Nat := [22, 37, 40, 41, 42, 54, 57, 58, 59, 60, 61, 62, 65, 72, 73, 79, 81, 85, 90, 91, 92, 98, 102, 111, 123, 124, 125, 130, 132, 133, 136, 138]
theorem quiet : quietSet TELLS C = true := by decide +kernel
theorem mem : 22 ∈ C := by decide
theorem followed : followedSet TELLS C = true := by decide +kernel
theorem unf : false = Try.prog.unfollowed 22 := unfollowed_false tells_eq quiet followed mem
theorem rec : true = Try.prog.recurses 22 := recurses_true (g := 42) tells_eq 21 (by decide +kernel) (by decide +kernel) (by decide +kernel)
theorem light : lightFacts Try.pinned.checked.prog Try.f22 Rows.zigzagBackSpec Rows.zigzagBackRow = true := by kernel_rfl
theorem lifted : Rows.zigzagBackRow.lifted = Try.pinned.checked.prog.liftsFinal := lifts_final
theorem made : Try.pinned.checked.prog.make = some Rows.zigzagBackRow.make := make_cut
theorem closed : joinedFacts Try.pinned.checked.prog 22 Try.f22 Rows.zigzagBackSpec Rows.zigzagBackRow = true :=
  joined_of Try.laidOut light may_enter lifted made (inPlace_nil tells_eq quiet mem) unf rec (varsNamed_nil tells_eq quiet mem)
theorem named : Try.pinned.checked.prog.funcNamed Rows.zigzagBackRow.func = some 22 := by kernel_rfl
theorem inst : Try.f22.isInstance Try.pinned.checked.prog Rows.zigzagBackRow.origin Rows.zigzagBackRow.targs := of_decide_eq_true (by kernel_rfl)
theorem wrap : Try.f22.isWrapper Try.pinned.checked.prog Rows.zigzagBackRow.wrapper Rows.zigzagBackRow.mainSum := by unfold Func.isWrapper; first | (rw [if_pos (by decide +kernel)]; kernel_rfl) | (rw [if_neg (by decide +kernel)]; exact ⟨rfl, rfl⟩)
end CellZigzagBack
end Go.Proofs.Ytgphhganepjaiaa
