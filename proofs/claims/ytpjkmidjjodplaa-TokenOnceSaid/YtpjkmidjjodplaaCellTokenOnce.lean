/-
  The closed facts of the row of TokenOnce.
-/
import Derived.Test.YtpjkmidjjodplaaFacts
namespace Go.Proofs.Ytpjkmidjjodplaa
open Go.RowKit
namespace CellTokenOnce
def C : List Nat := [11, 21, 25, 26, 29, 30, 32, 37, 38, 39, 41, 43, 51, 53, 54, 56, 57, 58, 59, 60, 71, 76, 77, 78, 86, 87, 91, 92, 93, 94, 99, 113, 114, 115, 117]
theorem quiet : quietSet TELLS C = true := by decide +kernel
theorem mem : 11 ∈ C := by decide
theorem followed : followedSet TELLS C = true := by decide +kernel
theorem unf : false = Try.prog.unfollowed 11 := unfollowed_false tells_eq quiet followed mem
def R : List Nat := [0, 0, 0, 0, 0, 0, 0, 0, 0, 0, 0, 9, 0, 0, 0, 0, 0, 0, 0, 0, 0, 0, 0, 0, 0, 0, 0, 0, 0, 0, 2, 0, 1, 0, 0, 0, 0, 6, 0, 1, 0, 4, 0, 5, 0, 0, 0, 0, 0, 0, 0, 8, 0, 0, 7, 0, 1, 0, 6, 6, 1, 0, 0, 0, 0, 0, 0, 0, 0, 0, 0, 0, 0, 0, 0, 0, 0, 0, 1, 0, 0, 0, 0, 0, 0, 0, 3, 1, 0, 0, 0, 0, 2, 4, 0, 0, 0, 0, 0, 5, 0, 0, 0, 0, 0, 0, 0, 0, 0, 0, 0, 0, 0, 0, 0, 3, 0, 4]
theorem rec : false = Try.prog.recurses 11 := recurses_false tells_eq quiet followed R (by decide +kernel) mem
theorem light : lightFacts Try.pinned.checked.prog Try.f11 Rows.tokenOnceSpec Rows.tokenOnceRow = true := by kernel_rfl
theorem lifted : Rows.tokenOnceRow.lifted = Try.pinned.checked.prog.liftsFinal := lifts_final
theorem made : Try.pinned.checked.prog.make = some Rows.tokenOnceRow.make := make_cut
theorem closed : joinedFacts Try.pinned.checked.prog 11 Try.f11 Rows.tokenOnceSpec Rows.tokenOnceRow = true :=
  joined_of Try.laidOut light may_enter lifted made (inPlace_nil tells_eq quiet mem) unf rec (varsNamed_nil tells_eq quiet mem)
theorem named : Try.pinned.checked.prog.funcNamed Rows.tokenOnceRow.func = some 11 := by kernel_rfl
theorem inst : Try.f11.isInstance Try.pinned.checked.prog Rows.tokenOnceRow.origin Rows.tokenOnceRow.targs := of_decide_eq_true (by kernel_rfl)
theorem wrap : Try.f11.isWrapper Try.pinned.checked.prog Rows.tokenOnceRow.wrapper Rows.tokenOnceRow.mainSum := by unfold Func.isWrapper; first | (rw [if_pos (by decide +kernel)]; kernel_rfl) | (rw [if_neg (by decide +kernel)]; exact ⟨rfl, rfl⟩)
end CellTokenOnce
end Go.Proofs.Ytpjkmidjjodplaa
