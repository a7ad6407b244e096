/-
  The closed facts of the row of ZigzagRises.
-/
import Derived.Test.YtgphhganepjaiaaFacts
namespace Go.Proofs.Ytgphhganepjaiaa
open Go.RowKit
namespace CellZigzagRises
def C : List Nat := [9, 37, 40, 41, 42, 57, 58, 59, 60, 61, 62, 65, 72, 90, 91, 92, 123, 124, 125, 136]
theorem quiet : quietSet TELLS C = true := by decide +kernel
theorem mem : 9 ∈ C := by decide
theorem followed : followedSet TELLS C = true := by decide +kernel
theorem unf : false = Try.prog.unfollowed 9 := unfollowed_false tells_eq quiet followed mem
theorem rec : true = Try.prog.recurses 9 := recurses_true (g := 42) tells_eq 31 (by decide +kernel) (by decide +kernel) (by decide +kernel)
theorem light : lightFacts Try.pinned.checked.prog Try.f9 Rows.zigzagRisesSpec Rows.zigzagRisesRow = true := by kernel_rfl
theorem lifted : Rows.zigzagRisesRow.lifted = Try.pinned.checked.prog.liftsFinal := lifts_final
theorem made : Try.pinned.checked.prog.make = some Rows.zigzagRisesRow.make := make_cut
theorem closed : joinedFacts Try.pinned.checked.prog 9 Try.f9 Rows.zigzagRisesSpec Rows.zigzagRisesRow = true :=
  joined_of Try.laidOut light may_enter lifted made (inPlace_nil tells_eq quiet mem) unf rec (varsNamed_nil tells_eq quiet mem)
theorem named : Try.pinned.checked.prog.funcNamed Rows.zigzagRisesRow.func = some 9 := by kernel_rfl
theorem inst : Try.f9.isInstance Try.pinned.checked.prog Rows.zigzagRisesRow.origin Rows.zigzagRisesRow.targs := of_decide_eq_true (by kernel_rfl)
theorem wrap : Try.f9.isWrapper Try.pinned.checked.prog Rows.zigzagRisesRow.wrapper Rows.zigzagRisesRow.mainSum := by unfold Func.isWrapper; first | (rw [if_pos (by decide +kernel)]; kernel_rfl) | (rw [if_neg (by decide +kernel)]; exact ⟨rfl, rfl⟩)
end CellZigzagRises
end Go.Proofs.Ytgphhganepjaiaa
