/-
  The closed facts of the row of ZigzagSigns.
-/
import Derived.Test.YtgphhganepjaiaaFacts
namespace Go.Proofs.Ytgphhganepjaiaa
open Go.RowKit
namespace CellZigzagSigns
def C : List Nat := [18, 37, 40, 41, 42, 57, 58, 60, 65, 73, 78, 79, 80, 81, 82, 85, 90, 91, 92, 93, 94, 95, 96, 97, 102, 111, 123, 124, 125, 130, 131, 132, 133, 136, 138]
theorem quiet : quietSet TELLS C = true := by decide +kernel
theorem mem : 18 ∈ C := by decide
theorem followed : followedSet TELLS C = true := by decide +kernel
theorem unf : false = Try.prog.unfollowed 18 := unfollowed_false tells_eq quiet followed mem
theorem rec : true = Try.prog.recurses 18 := recurses_true (g := 42) tells_eq 40 (by decide +kernel) (by decide +kernel) (by decide +kernel)
theorem light : lightFacts Try.pinned.checked.prog Try.f18 Rows.zigzagSignsSpec Rows.zigzagSignsRow = true := by kernel_rfl
theorem lifted : Rows.zigzagSignsRow.lifted = Try.pinned.checked.prog.liftsFinal := lifts_final
theorem made : Try.pinned.checked.prog.make = some Rows.zigzagSignsRow.make := make_cut
theorem closed : joinedFacts Try.pinned.checked.prog 18 Try.f18 Rows.zigzagSignsSpec Rows.zigzagSignsRow = true :=
  joined_of Try.laidOut light may_enter lifted made (inPlace_nil tells_eq quiet mem) unf rec (varsNamed_nil tells_eq quiet mem)
theorem named : Try.pinned.checked.prog.funcNamed Rows.zigzagSignsRow.func = some 18 := by kernel_rfl
theorem inst : Try.f18.isInstance Try.pinned.checked.prog Rows.zigzagSignsRow.origin Rows.zigzagSignsRow.targs := of_decide_eq_true (by kernel_rfl)
theorem wrap : Try.f18.isWrapper Try.pinned.checked.prog Rows.zigzagSignsRow.wrapper Rows.zigzagSignsRow.mainSum := by unfold Func.isWrapper; first | (rw [if_pos (by decide +kernel)]; kernel_rfl) | (rw [if_neg (by decide +kernel)]; exact ⟨rfl, rfl⟩)
end CellZigzagSigns
end Go.Proofs.Ytgphhganepjaiaa
