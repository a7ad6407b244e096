/-
  The closed facts of the row of LinkWrites.
-/
import Derived.Test.YtkhnfleejgfhgaaFacts
namespace Go.Proofs.Ytkhnfleejgfhgaa
open Go.RowKit
namespace CellLinkWrites
def C : List Nat := [9, 23, 38, 39, 40, 41, 43, 44, 45, 47, 49, 50, 53, 54, 55, 56, 57, 66, 78, 96, 97, 99, 100, 102, 110, 111, 112, 113, 114, 115, 116, 117, 122, 124, 125, 126, 127, 128, 129, 130, 131, 132, 140, 150, 165, 168, 171, 172, 174]
theorem quiet : quietSet TELLS C = true := by decide +kernel
theorem mem : 9 ∈ C := by decide
theorem unf : true = Try.prog.unfollowed 9 := unfollowed_true (g := 113) tells_eq 7 (by decide +kernel) (by decide +kernel) (by decide +kernel)
theorem rec : true = Try.prog.recurses 9 := recurses_true_of_unfollowed unf
theorem light : lightFacts Try.pinned.checked.prog Try.f9 Rows.linkWritesSpec Rows.linkWritesRow = true := by kernel_rfl
theorem lifted : Rows.linkWritesRow.lifted = Try.pinned.checked.prog.liftsFinal := lifts_final
theorem made : Try.pinned.checked.prog.make = some Rows.linkWritesRow.make := make_cut
theorem closed : joinedFacts Try.pinned.checked.prog 9 Try.f9 Rows.linkWritesSpec Rows.linkWritesRow = true :=
  joined_of Try.laidOut light may_enter lifted made (inPlace_nil tells_eq quiet mem) unf rec (varsNamed_nil tells_eq quiet mem)
theorem named : Try.pinned.checked.prog.funcNamed Rows.linkWritesRow.func = some 9 := by kernel_rfl
theorem inst : Try.f9.isInstance Try.pinned.checked.prog Rows.linkWritesRow.origin Rows.linkWritesRow.targs := of_decide_eq_true (by kernel_rfl)
theorem wrap : Try.f9.isWrapper Try.pinned.checked.prog Rows.linkWritesRow.wrapper Rows.linkWritesRow.mainSum := by unfold Func.isWrapper; first | (rw [if_pos (by decide +kernel)]; kernel_rfl) | (rw [if_neg (by decide +kernel)]; exact ⟨rfl, rfl⟩)
end CellLinkWrites
end Go.Proofs.Ytkhnfleejgfhgaa
