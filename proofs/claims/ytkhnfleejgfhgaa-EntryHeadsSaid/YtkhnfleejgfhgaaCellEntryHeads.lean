/-
  The closed facts of the row of EntryHeads.
-/
import Derived.Test.YtkhnfleejgfhgaaFacts
namespace Go.Proofs.Ytkhnfleejgfhgaa
open Go.RowKit
namespace CellEntryHeads
def C : List Nat := [15, 20, 23, 27, 28, 38, 39, 41, 44, 45, 47, 49, 50, 51, 53, 54, 55, 56, 57, 66, 78, 80, 81, 82, 83, 84, 96, 97, 99, 100, 102, 110, 111, 112, 113, 114, 115, 116, 117, 122, 124, 125, 126, 127, 128, 129, 130, 131, 132, 140, 150, 165, 168, 171, 172, 174]
theorem quiet : quietSet TELLS C = true := by decide +kernel
theorem mem : 15 ∈ C := by decide
theorem unf : true = Try.prog.unfollowed 15 := unfollowed_true (g := 113) tells_eq 9 (by decide +kernel) (by decide +kernel) (by decide +kernel)
theorem rec : true = Try.prog.recurses 15 := recurses_true_of_unfollowed unf
theorem light : lightFacts Try.pinned.checked.prog Try.f15 Rows.entryHeadsSpec Rows.entryHeadsRow = true := by kernel_rfl
theorem lifted : Rows.entryHeadsRow.lifted = Try.pinned.checked.prog.liftsFinal := lifts_final
theorem made : Try.pinned.checked.prog.make = some Rows.entryHeadsRow.make := make_cut
theorem closed : joinedFacts Try.pinned.checked.prog 15 Try.f15 Rows.entryHeadsSpec Rows.entryHeadsRow = true :=
  joined_of Try.laidOut light may_enter lifted made (inPlace_nil tells_eq quiet mem) unf rec (varsNamed_nil tells_eq quiet mem)
theorem named : Try.pinned.checked.prog.funcNamed Rows.entryHeadsRow.func = some 15 := by kernel_rfl
theorem inst : Try.f15.isInstance Try.pinned.checked.prog Rows.entryHeadsRow.origin Rows.entryHeadsRow.targs := of_decide_eq_true (by kernel_rfl)
theorem wrap : Try.f15.isWrapper Try.pinned.checked.prog Rows.entryHeadsRow.wrapper Rows.entryHeadsRow.mainSum := by unfold Func.isWrapper; first | (rw [if_pos (by decide +kernel)]; kernel_rfl) | (rw [if_neg (by decide +kernel)]; exact ⟨rfl, rfl⟩)
end CellEntryHeads
end Go.Proofs.Ytkhnfleejgfhgaa
