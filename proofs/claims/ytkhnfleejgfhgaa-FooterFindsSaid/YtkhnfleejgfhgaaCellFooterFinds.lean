/-
  The closed facts of the row of FooterFinds.
-/
import Derived.Test.YtkhnfleejgfhgaaFacts
namespace Go.Proofs.Ytkhnfleejgfhgaa
open Go.RowKit
namespace CellFooterFinds
def C : List Nat := [16, 23, 32, 33, 34, 35, 36, 37, 44, 48, 49, 53, 55, 57, 78, 85, 86, 87, 90, 91, 92, 95, 96, 97, 98, 99, 100, 101, 102, 103, 104, 105, 106, 107, 108, 109, 110, 124, 126, 130, 133, 140, 141, 142, 143, 147, 148, 149, 150, 152, 153, 154, 155, 156, 157, 158, 161, 162, 163, 164, 165, 166, 167, 174, 175, 176, 177, 178, 179, 180, 181, 182, 183, 188, 189, 190, 191, 192, 196]
theorem quiet : quietSet TELLS C = true := by decide +kernel
theorem mem : 16 ∈ C := by decide
theorem unf : true = Try.prog.unfollowed 16 := unfollowed_true (g := 192) tells_eq 81 (by decide +kernel) (by decide +kernel) (by decide +kernel)
theorem rec : true = Try.prog.recurses 16 := recurses_true_of_unfollowed unf
theorem light : lightFacts Try.pinned.checked.prog Try.f16 Rows.footerFindsSpec Rows.footerFindsRow = true := by kernel_rfl
theorem lifted : Rows.footerFindsRow.lifted = Try.pinned.checked.prog.liftsFinal := lifts_final
theorem made : Try.pinned.checked.prog.make = some Rows.footerFindsRow.make := make_cut
theorem closed : joinedFacts Try.pinned.checked.prog 16 Try.f16 Rows.footerFindsSpec Rows.footerFindsRow = true :=
  joined_of Try.laidOut light may_enter lifted made (inPlace_nil tells_eq quiet mem) unf rec (varsNamed_nil tells_eq quiet mem)
theorem named : Try.pinned.checked.prog.funcNamed Rows.footerFindsRow.func = some 16 := by kernel_rfl
theorem inst : Try.f16.isInstance Try.pinned.checked.prog Rows.footerFindsRow.origin Rows.footerFindsRow.targs := of_decide_eq_true (by kernel_rfl)
theorem wrap : Try.f16.isWrapper Try.pinned.checked.prog Rows.footerFindsRow.wrapper Rows.footerFindsRow.mainSum := by unfold Func.isWrapper; first | (rw [if_pos (by decide +kernel)]; kernel_rfl) | (rw [if_neg (by decide +kernel)]; exact ⟨rfl, rfl⟩)
end CellFooterFinds
end Go.Proofs.Ytkhnfleejgfhgaa
