/-
  The closed facts of the row of LinkReads.
-/
import Derived.Test.YtkhnfleejgfhgaaFacts
namespace Go.Proofs.Ytkhnfleejgfhgaa
open Go.RowKit
namespace CellLinkReads
def C : List Nat := [7, 23, 39, 40, 41, 43, 44, 45, 46, 47, 48, 49, 50, 53, 54, 55, 57, 66, 78, 96, 97, 99, 100, 102, 104, 106, 107, 110, 111, 112, 113, 114, 115, 116, 117, 122, 123, 124, 125, 126, 127, 128, 129, 130, 140, 150, 156, 165, 166, 167, 168, 171, 172, 174]
theorem quiet : quietSet TELLS C = true := by decide +kernel
theorem mem : 7 ∈ C := by decide
theorem unf : true = Try.prog.unfollowed 7 := unfollowed_true (g := 113) tells_eq 6 (by decide +kernel) (by decide +kernel) (by decide +kernel)
theorem rec : true = Try.prog.recurses 7 := recurses_true_of_unfollowed unf
theorem light : lightFacts Try.pinned.checked.prog Try.f7 Rows.linkReadsSpec Rows.linkReadsRow = true := by kernel_rfl
theorem lifted : Rows.linkReadsRow.lifted = Try.pinned.checked.prog.liftsFinal := lifts_final
theorem made : Try.pinned.checked.prog.make = some Rows.linkReadsRow.make := make_cut
theorem closed : joinedFacts Try.pinned.checked.prog 7 Try.f7 Rows.linkReadsSpec Rows.linkReadsRow = true :=
  joined_of Try.laidOut light may_enter lifted made (inPlace_nil tells_eq quiet mem) unf rec (varsNamed_nil tells_eq quiet mem)
theorem named : Try.pinned.checked.prog.funcNamed Rows.linkReadsRow.func = some 7 := by kernel_rfl
theorem inst : Try.f7.isInstance Try.pinned.checked.prog Rows.linkReadsRow.origin Rows.linkReadsRow.targs := of_decide_eq_true (by kernel_rfl)
theorem wrap : Try.f7.isWrapper Try.pinned.checked.prog Rows.linkReadsRow.wrapper Rows.linkReadsRow.mainSum := by unfold Func.isWrapper; first | (rw [if_pos (by decide +kernel)]; kernel_rfl) | (rw [if_neg (by decide +kernel)]; exact ⟨rfl, rfl⟩)
end CellLinkReads
end Go.Proofs.Ytkhnfleejgfhgaa
