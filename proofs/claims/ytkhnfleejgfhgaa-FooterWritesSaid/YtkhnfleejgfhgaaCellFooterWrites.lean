/-
  The closed facts of the row of FooterWrites.
-/
import Derived.Test.YtkhnfleejgfhgaaFacts
namespace Go.Proofs.Ytkhnfleejgfhgaa
open Go.RowKit
namespace CellFooterWrites
def C : List Nat := [18, 23, 32, 33, 35, 36, 37, 44, 48, 49, 53, 55, 57, 78, 85, 87, 88, 89, 90, 91, 92, 95, 96, 97, 98, 99, 100, 101, 102, 109, 110, 124, 126, 127, 130, 131, 140, 141, 142, 143, 147, 148, 150, 152, 153, 154, 155, 158, 159, 160, 161, 162, 163, 164, 165, 172, 174, 175, 176, 177, 178, 179, 180, 181, 183, 184, 185, 186, 188, 189, 190, 191, 192, 193, 194, 196]
theorem quiet : quietSet TELLS C = true := by decide +kernel
theorem mem : 18 ∈ C := by decide
theorem unf : true = Try.prog.unfollowed 18 := unfollowed_true (g := 192) tells_eq 128 (by decide +kernel) (by decide +kernel) (by decide +kernel)
theorem rec : true = Try.prog.recurses 18 := recurses_true_of_unfollowed unf
theorem light : lightFacts Try.pinned.checked.prog Try.f18 Rows.footerWritesSpec Rows.footerWritesRow = true := by kernel_rfl
theorem lifted : Rows.footerWritesRow.lifted = Try.pinned.checked.prog.liftsFinal := lifts_final
theorem made : Try.pinned.checked.prog.make = some Rows.footerWritesRow.make := make_cut
theorem closed : joinedFacts Try.pinned.checked.prog 18 Try.f18 Rows.footerWritesSpec Rows.footerWritesRow = true :=
  joined_of Try.laidOut light may_enter lifted made (inPlace_nil tells_eq quiet mem) unf rec (varsNamed_nil tells_eq quiet mem)
theorem named : Try.pinned.checked.prog.funcNamed Rows.footerWritesRow.func = some 18 := by kernel_rfl
theorem inst : Try.f18.isInstance Try.pinned.checked.prog Rows.footerWritesRow.origin Rows.footerWritesRow.targs := of_decide_eq_true (by kernel_rfl)
theorem wrap : Try.f18.isWrapper Try.pinned.checked.prog Rows.footerWritesRow.wrapper Rows.footerWritesRow.mainSum := by unfold Func.isWrapper; first | (rw [if_pos (by decide +kernel)]; kernel_rfl) | (rw [if_neg (by decide +kernel)]; exact ⟨rfl, rfl⟩)
end CellFooterWrites
end Go.Proofs.Ytkhnfleejgfhgaa
