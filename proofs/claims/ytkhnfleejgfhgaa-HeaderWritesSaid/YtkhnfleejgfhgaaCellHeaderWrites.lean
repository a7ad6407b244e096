/-
  The closed facts of the row of HeaderWrites.
-/
import Derived.Test.YtkhnfleejgfhgaaFacts
namespace Go.Proofs.Ytkhnfleejgfhgaa
open Go.RowKit
namespace CellHeaderWrites
def C : List Nat := [12, 23, 44, 48, 49, 53, 55, 57, 58, 59, 60, 61, 63, 71, 72, 73, 74, 75, 78, 79, 96, 97, 98, 100, 102, 109, 110, 124, 126, 127, 130, 131, 133, 134, 139, 140, 141, 142, 143, 144, 145, 146, 147, 148, 150, 151, 152, 160, 162, 163, 164, 172, 173, 174, 175, 176, 177, 178, 179, 186, 188, 189, 196]
theorem quiet : quietSet TELLS C = true := by decide +kernel
theorem mem : 12 ∈ C := by decide
theorem unf : true = Try.prog.unfollowed 12 := unfollowed_true (g := 164) tells_eq 83 (by decide +kernel) (by decide +kernel) (by decide +kernel)
theorem rec : true = Try.prog.recurses 12 := recurses_true_of_unfollowed unf
theorem light : lightFacts Try.pinned.checked.prog Try.f12 Rows.headerWritesSpec Rows.headerWritesRow = true := by kernel_rfl
theorem lifted : Rows.headerWritesRow.lifted = Try.pinned.checked.prog.liftsFinal := lifts_final
theorem made : Try.pinned.checked.prog.make = some Rows.headerWritesRow.make := make_cut
theorem closed : joinedFacts Try.pinned.checked.prog 12 Try.f12 Rows.headerWritesSpec Rows.headerWritesRow = true :=
  joined_of Try.laidOut light may_enter lifted made (inPlace_nil tells_eq quiet mem) unf rec (varsNamed_nil tells_eq quiet mem)
theorem named : Try.pinned.checked.prog.funcNamed Rows.headerWritesRow.func = some 12 := by kernel_rfl
theorem inst : Try.f12.isInstance Try.pinned.checked.prog Rows.headerWritesRow.origin Rows.headerWritesRow.targs := of_decide_eq_true (by kernel_rfl)
theorem wrap : Try.f12.isWrapper Try.pinned.checked.prog Rows.headerWritesRow.wrapper Rows.headerWritesRow.mainSum := by unfold Func.isWrapper; first | (rw [if_pos (by decide +kernel)]; kernel_rfl) | (rw [if_neg (by decide +kernel)]; exact ⟨rfl, rfl⟩)
end CellHeaderWrites
end Go.Proofs.Ytkhnfleejgfhgaa
