/-
  The closed facts of the row of FooterAlone.
-/
import Derived.Test.YtkhnfleejgfhgaaFacts
namespace Go.Proofs.Ytkhnfleejgfhgaa
open Go.RowKit
namespace CellFooterAlone
def C : List Nat := [17, 23, 32, 33, 44, 48, 49, 53, 55, 57, 78, 85, 90, 91, 95, 96, 97, 98, 99, 100, 101, 102, 124, 126, 130, 140, 141, 142, 143, 150, 152, 153, 154, 155, 161, 162, 163, 164, 165, 174, 175, 176, 177, 178, 180, 181, 188, 190, 191, 192, 196]
theorem quiet : quietSet TELLS C = true := by decide +kernel
theorem mem : 17 ∈ C := by decide
theorem unf : true = Try.prog.unfollowed 17 := unfollowed_true (g := 192) tells_eq 81 (by decide +kernel) (by decide +kernel) (by decide +kernel)
theorem rec : true = Try.prog.recurses 17 := recurses_true_of_unfollowed unf
theorem light : lightFacts Try.pinned.checked.prog Try.f17 Rows.footerAloneSpec Rows.footerAloneRow = true := by kernel_rfl
theorem lifted : Rows.footerAloneRow.lifted = Try.pinned.checked.prog.liftsFinal := lifts_final
theorem made : Try.pinned.checked.prog.make = some Rows.footerAloneRow.make := make_cut
theorem closed : joinedFacts Try.pinned.checked.prog 17 Try.f17 Rows.footerAloneSpec Rows.footerAloneRow = true :=
  joined_of Try.laidOut light may_enter lifted made (inPlace_nil tells_eq quiet mem) unf rec (varsNamed_nil tells_eq quiet mem)
theorem named : Try.pinned.checked.prog.funcNamed Rows.footerAloneRow.func = some 17 := by kernel_rfl
theorem inst : Try.f17.isInstance Try.pinned.checked.prog Rows.footerAloneRow.origin Rows.footerAloneRow.targs := of_decide_eq_true (by kernel_rfl)
theorem wrap : Try.f17.isWrapper Try.pinned.checked.prog Rows.footerAloneRow.wrapper Rows.footerAloneRow.mainSum := by unfold Func.isWrapper; first | (rw [if_pos (by decide +kernel)]; kernel_rfl) | (rw [if_neg (by decide +kernel)]; exact ⟨rfl, rfl⟩)
end CellFooterAlone
end Go.Proofs.Ytkhnfleejgfhgaa
