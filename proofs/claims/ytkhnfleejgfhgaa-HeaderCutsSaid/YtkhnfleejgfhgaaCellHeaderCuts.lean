/-
  The closed facts of the row of HeaderCuts.
-/
import Derived.Test.YtkhnfleejgfhgaaFacts
namespace Go.Proofs.Ytkhnfleejgfhgaa
open Go.RowKit
namespace CellHeaderCuts
def C : List Nat := [14, 44, 48, 49, 53, 55, 57, 60, 61, 63, 71, 72, 73, 75, 78, 79, 96, 97, 98, 100, 102, 124, 126, 127, 130, 131, 134, 139, 140, 141, 142, 143, 144, 145, 146, 150, 151, 152, 160, 162, 163, 164, 172, 173, 174, 175, 176, 177, 178, 186, 188, 196]
theorem quiet : quietSet TELLS C = true := by decide +kernel
theorem mem : 14 ∈ C := by decide
theorem unf : true = Try.prog.unfollowed 14 := unfollowed_true (g := 164) tells_eq 71 (by decide +kernel) (by decide +kernel) (by decide +kernel)
theorem rec : true = Try.prog.recurses 14 := recurses_true_of_unfollowed unf
theorem light : lightFacts Try.pinned.checked.prog Try.f14 Rows.headerCutsSpec Rows.headerCutsRow = true := by kernel_rfl
theorem lifted : Rows.headerCutsRow.lifted = Try.pinned.checked.prog.liftsFinal := lifts_final
theorem made : Try.pinned.checked.prog.make = some Rows.headerCutsRow.make := make_cut
theorem closed : joinedFacts Try.pinned.checked.prog 14 Try.f14 Rows.headerCutsSpec Rows.headerCutsRow = true :=
  joined_of Try.laidOut light may_enter lifted made (inPlace_nil tells_eq quiet mem) unf rec (varsNamed_nil tells_eq quiet mem)
theorem named : Try.pinned.checked.prog.funcNamed Rows.headerCutsRow.func = some 14 := by kernel_rfl
theorem inst : Try.f14.isInstance Try.pinned.checked.prog Rows.headerCutsRow.origin Rows.headerCutsRow.targs := of_decide_eq_true (by kernel_rfl)
theorem wrap : Try.f14.isWrapper Try.pinned.checked.prog Rows.headerCutsRow.wrapper Rows.headerCutsRow.mainSum := by unfold Func.isWrapper; first | (rw [if_pos (by decide +kernel)]; kernel_rfl) | (rw [if_neg (by decide +kernel)]; exact ⟨rfl, rfl⟩)
end CellHeaderCuts
end Go.Proofs.Ytkhnfleejgfhgaa
