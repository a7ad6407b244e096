/-
  The closed facts of the row of EntryDeals.
-/
import Derived.Test.YtkhnfleejgfhgaaFacts
namespace Go.Proofs.Ytkhnfleejgfhgaa
open Go.RowKit
namespace CellEntryDeals
def C : List Nat := [3, 19, 20, 21, 22, 23, 24, 25, 26, 27, 28, 38, 41, 47, 53, 54, 55, 66, 70, 80, 81, 112, 113, 114, 115, 116, 117, 118, 126, 127, 128, 129, 130, 140, 168, 172, 174]
theorem quiet : quietSet TELLS C = true := by decide +kernel
theorem mem : 3 ∈ C := by decide
theorem unf : true = Try.prog.unfollowed 3 := unfollowed_true (g := 113) tells_eq 10 (by decide +kernel) (by decide +kernel) (by decide +kernel)
theorem rec : true = Try.prog.recurses 3 := recurses_true_of_unfollowed unf
theorem light : lightFacts Try.pinned.checked.prog Try.f3 Rows.entryDealsSpec Rows.entryDealsRow = true := by kernel_rfl
theorem lifted : Rows.entryDealsRow.lifted = Try.pinned.checked.prog.liftsFinal := lifts_final
theorem made : Try.pinned.checked.prog.make = some Rows.entryDealsRow.make := make_cut
theorem closed : joinedFacts Try.pinned.checked.prog 3 Try.f3 Rows.entryDealsSpec Rows.entryDealsRow = true :=
  joined_of Try.laidOut light may_enter lifted made (inPlace_nil tells_eq quiet mem) unf rec (varsNamed_nil tells_eq quiet mem)
theorem named : Try.pinned.checked.prog.funcNamed Rows.entryDealsRow.func = some 3 := by kernel_rfl
theorem inst : Try.f3.isInstance Try.pinned.checked.prog Rows.entryDealsRow.origin Rows.entryDealsRow.targs := of_decide_eq_true (by kernel_rfl)
theorem wrap : Try.f3.isWrapper Try.pinned.checked.prog Rows.entryDealsRow.wrapper Rows.entryDealsRow.mainSum := by unfold Func.isWrapper; first | (rw [if_pos (by decide +kernel)]; kernel_rfl) | (rw [if_neg (by decide +kernel)]; exact ⟨rfl, rfl⟩)
end CellEntryDeals
end Go.Proofs.Ytkhnfleejgfhgaa
