/-
  The closed facts of the row of HeaderTells.
-/
import Derived.Test.YtkhnfleejgfhgaaFacts
namespace Go.Proofs.Ytkhnfleejgfhgaa
open Go.RowKit
namespace CellHeaderTells
def C : List Nat := [10, 23, 44, 48, 49, 53, 55, 57, 58, 59, 60, 61, 62, 63, 71, 72, 75, 78, 79, 96, 97, 98, 100, 102, 109, 124, 126, 127, 130, 131, 133, 134, 139, 140, 141, 142, 143, 144, 145, 146, 150, 151, 152, 160, 162, 163, 164, 172, 173, 174, 175, 176, 177, 178, 186, 188, 196]
theorem quiet : quietSet TELLS C = true := by decide +kernel
theorem mem : 10 ∈ C := by decide
theorem unf : true = Try.prog.unfollowed 10 := unfollowed_true (g := 164) tells_eq 76 (by decide +kernel) (by decide +kernel) (by decide +kernel)
theorem rec : true = Try.prog.recurses 10 := recurses_true_of_unfollowed unf
theorem light : lightFacts Try.pinned.checked.prog Try.f10 Rows.headerTellsSpec Rows.headerTellsRow = true := by kernel_rfl
theorem lifted : Rows.headerTellsRow.lifted = Try.pinned.checked.prog.liftsFinal := lifts_final
theorem made : Try.pinned.checked.prog.make = some Rows.headerTellsRow.make := make_cut
theorem closed : joinedFacts Try.pinned.checked.prog 10 Try.f10 Rows.headerTellsSpec Rows.headerTellsRow = true :=
  joined_of Try.laidOut light may_enter lifted made (inPlace_nil tells_eq quiet mem) unf rec (varsNamed_nil tells_eq quiet mem)
theorem named : Try.pinned.checked.prog.funcNamed Rows.headerTellsRow.func = some 10 := by kernel_rfl
theorem inst : Try.f10.isInstance Try.pinned.checked.prog Rows.headerTellsRow.origin Rows.headerTellsRow.targs := of_decide_eq_true (by kernel_rfl)
theorem wrap : Try.f10.isWrapper Try.pinned.checked.prog Rows.headerTellsRow.wrapper Rows.headerTellsRow.mainSum := by unfold Func.isWrapper; first | (rw [if_pos (by decide +kernel)]; kernel_rfl) | (rw [if_neg (by decide +kernel)]; exact ⟨rfl, rfl⟩)
end CellHeaderTells
end Go.Proofs.Ytkhnfleejgfhgaa
