/-
  The closed facts of the row of EntryReads.
-/
import Derived.Test.YtkhnfleejgfhgaaFacts
namespace Go.Proofs.Ytkhnfleejgfhgaa
open Go.RowKit
namespace CellEntryReads
def C : List Nat := [8, 20, 23, 27, 41, 44, 45, 46, 47, 48, 49, 51, 52, 53, 54, 55, 57, 66, 78, 80, 81, 96, 97, 99, 100, 102, 104, 106, 107, 112, 113, 114, 115, 116, 117, 122, 123, 124, 126, 127, 128, 129, 130, 140, 150, 156, 165, 166, 167, 168, 172, 174]
theorem quiet : quietSet TELLS C = true := by decide +kernel
theorem mem : 8 ∈ C := by decide
theorem unf : true = Try.prog.unfollowed 8 := unfollowed_true (g := 113) tells_eq 7 (by decide +kernel) (by decide +kernel) (by decide +kernel)
theorem rec : true = Try.prog.recurses 8 := recurses_true_of_unfollowed unf
theorem light : lightFacts Try.pinned.checked.prog Try.f8 Rows.entryReadsSpec Rows.entryReadsRow = true := by kernel_rfl
theorem lifted : Rows.entryReadsRow.lifted = Try.pinned.checked.prog.liftsFinal := lifts_final
theorem made : Try.pinned.checked.prog.make = some Rows.entryReadsRow.make := make_cut
theorem closed : joinedFacts Try.pinned.checked.prog 8 Try.f8 Rows.entryReadsSpec Rows.entryReadsRow = true :=
  joined_of Try.laidOut light may_enter lifted made (inPlace_nil tells_eq quiet mem) unf rec (varsNamed_nil tells_eq quiet mem)
theorem named : Try.pinned.checked.prog.funcNamed Rows.entryReadsRow.func = some 8 := by kernel_rfl
theorem inst : Try.f8.isInstance Try.pinned.checked.prog Rows.entryReadsRow.origin Rows.entryReadsRow.targs := of_decide_eq_true (by kernel_rfl)
theorem wrap : Try.f8.isWrapper Try.pinned.checked.prog Rows.entryReadsRow.wrapper Rows.entryReadsRow.mainSum := by unfold Func.isWrapper; first | (rw [if_pos (by decide +kernel)]; kernel_rfl) | (rw [if_neg (by decide +kernel)]; exact ⟨rfl, rfl⟩)
end CellEntryReads
end Go.Proofs.Ytkhnfleejgfhgaa
