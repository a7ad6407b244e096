/-
  The closed facts of the row of TokenReads.
-/
import Derived.Test.YtpjkmidjjodplaaFacts
namespace Go.Proofs.Ytpjkmidjjodplaa
open Go.RowKit
namespace CellTokenReads
def C : List Nat := [9, 21, 22, 25, 26, 29, 30, 32, 37, 38, 41, 43, 46, 51, 52, 53, 54, 55, 56, 57, 58, 59, 60, 71, 73, 76, 77, 78, 86, 87, 91, 92, 93, 94, 95, 97, 98, 99, 113, 114, 115, 116, 117]
theorem quiet : quietSet TELLS C = true := by decide +kernel
theorem mem : 9 ∈ C := by decide
theorem followed : followedSet TELLS C = true := by decide +kernel
theorem unf : false = Try.prog.unfollowed 9 := unfollowed_false tells_eq quiet followed mem
def R : List Nat := [0, 0, 0, 0, 0, 0, 0, 0, 0, 9, 0, 0, 0, 0, 0, 0, 0, 0, 0, 0, 0, 0, 1, 0, 0, 0, 0, 0, 0, 0, 2, 0, 1, 0, 0, 0, 0, 6, 0, 0, 0, 4, 0, 5, 0, 0, 1, 0, 0, 0, 0, 8, 4, 0, 7, 3, 1, 0, 6, 6, 1, 0, 0, 0, 0, 0, 0, 0, 0, 0, 0, 0, 0, 0, 0, 0, 0, 0, 1, 0, 0, 0, 0, 0, 0, 0, 3, 1, 0, 0, 0, 0, 2, 4, 0, 2, 0, 1, 2, 5, 0, 0, 0, 0, 0, 0, 0, 0, 0, 0, 0, 0, 0, 0, 0, 3, 1, 4]
theorem rec : false = Try.prog.recurses 9 := recurses_false tells_eq quiet followed R (by decide +kernel) mem
theorem light : lightFacts Try.pinned.checked.prog Try.f9 Rows.tokenReadsSpec Rows.tokenReadsRow = true := by kernel_rfl
theorem lifted : Rows.tokenReadsRow.lifted = Try.pinned.checked.prog.liftsFinal := lifts_final
theorem made : Try.pinned.checked.prog.make = some Rows.tokenReadsRow.make := make_cut
theorem closed : joinedFacts Try.pinned.checked.prog 9 Try.f9 Rows.tokenReadsSpec Rows.tokenReadsRow = true :=
  joined_of Try.laidOut light may_enter lifted made (inPlace_nil tells_eq quiet mem) unf rec (varsNamed_nil tells_eq quiet mem)
theorem named : Try.pinned.checked.prog.funcNamed Rows.tokenReadsRow.func = some 9 := by kernel_rfl
theorem inst : Try.f9.isInstance Try.pinned.checked.prog Rows.tokenReadsRow.origin Rows.tokenReadsRow.targs := of_decide_eq_true (by kernel_rfl)
theorem wrap : Try.f9.isWrapper Try.pinned.checked.prog Rows.tokenReadsRow.wrapper Rows.tokenReadsRow.mainSum := by unfold Func.isWrapper; first | (rw [if_pos (by decide +kernel)]; kernel_rfl) | (rw [if_neg (by decide +kernel)]; exact ⟨rfl, rfl⟩)
end CellTokenReads
end Go.Proofs.Ytpjkmidjjodplaa
