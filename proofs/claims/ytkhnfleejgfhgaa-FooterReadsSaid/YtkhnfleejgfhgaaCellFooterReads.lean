/-
  The closed facts of the row of FooterReads.
-/
import Derived.Test.YtkhnfleejgfhgaaFacts
namespace Go.Proofs.Ytkhnfleejgfhgaa
open Go.RowKit
namespace CellFooterReads
def C : List Nat := [5, 23, 32, 33, 34, 35, 36, 37, 44, 48, 49, 53, 55, 57, 78, 90, 91, 95, 96, 97, 98, 99, 100, 101, 102, 103, 104, 105, 106, 107, 108, 109, 110, 124, 126, 130, 133, 140, 141, 142, 143, 150, 156, 161, 162, 163, 164, 165, 166, 167, 174, 175, 176, 177, 188, 196]
theorem quiet : quietSet TELLS C = true := by decide +kernel
theorem mem : 5 ∈ C := by decide
theorem unf : true = Try.prog.unfollowed 5 := unfollowed_true (g := 164) tells_eq 40 (by decide +kernel) (by decide +kernel) (by decide +kernel)
theorem rec : true = Try.prog.recurses 5 := recurses_true_of_unfollowed unf
theorem light : lightFacts Try.pinned.checked.prog Try.f5 Rows.footerReadsSpec Rows.footerReadsRow = true := by kernel_rfl
theorem lifted : Rows.footerReadsRow.lifted = Try.pinned.checked.prog.liftsFinal := lifts_final
theorem made : Try.pinned.checked.prog.make = some Rows.footerReadsRow.make := make_cut
theorem closed : joinedFacts Try.pinned.checked.prog 5 Try.f5 Rows.footerReadsSpec Rows.footerReadsRow = true :=
  joined_of Try.laidOut light may_enter lifted made (inPlace_nil tells_eq quiet mem) unf rec (varsNamed_nil tells_eq quiet mem)
theorem named : Try.pinned.checked.prog.funcNamed Rows.footerReadsRow.func = some 5 := by kernel_rfl
theorem inst : Try.f5.isInstance Try.pinned.checked.prog Rows.footerReadsRow.origin Rows.footerReadsRow.targs := of_decide_eq_true (by kernel_rfl)
theorem wrap : Try.f5.isWrapper Try.pinned.checked.prog Rows.footerReadsRow.wrapper Rows.footerReadsRow.mainSum := by unfold Func.isWrapper; first | (rw [if_pos (by decide +kernel)]; kernel_rfl) | (rw [if_neg (by decide +kernel)]; exact ⟨rfl, rfl⟩)
end CellFooterReads
end Go.Proofs.Ytkhnfleejgfhgaa
