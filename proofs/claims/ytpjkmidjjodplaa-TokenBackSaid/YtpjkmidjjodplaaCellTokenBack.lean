/-
  The closed facts of the row of TokenBack.
-/
import Derived.Test.YtpjkmidjjodplaaFacts
namespace Go.Proofs.Ytpjkmidjjodplaa
open Go.RowKit
namespace CellTokenBack
def C : List Nat := [10, 17, 21, 29, 30, 32, 37, 38, 41, 43, 46, 51, 53, 54, 56, 57, 58, 59, 60, 71, 76, 77, 78, 86, 87, 91, 92, 93, 94, 99, 113, 114, 115, 117]
theorem quiet : quietSet TELLS C = true := by decide +kernel
theorem mem : 10 ∈ C := by decide
theorem followed : followedSet TELLS C = true := by decide +kernel
theorem unf : false = Try.prog.unfollowed 10 := unfollowed_false tells_eq quiet followed mem
def R : List Nat := [0, 0, 0, 0, 0, 0, 0, 0, 0, 0, 9, 0, 0, 0, 0, 0, 0, 0, 0, 0, 0, 0, 0, 0, 0, 0, 0, 0, 0, 0, 2, 0, 1, 0, 0, 0, 0, 6, 0, 0, 0, 4, 0, 5, 0, 0, 1, 0, 0, 0, 0, 8, 0, 0, 7, 0, 1, 0, 6, 6, 1, 0, 0, 0, 0, 0, 0, 0, 0, 0, 0, 0, 0, 0, 0, 0, 0, 0, 1, 0, 0, 0, 0, 0, 0, 0, 3, 1, 0, 0, 0, 0, 2, 4, 0, 0, 0, 0, 0, 5, 0, 0, 0, 0, 0, 0, 0, 0, 0, 0, 0, 0, 0, 0, 0, 3, 0, 4]
theorem rec : false = Try.prog.recurses 10 := recurses_false tells_eq quiet followed R (by decide +kernel) mem
theorem light : lightFacts Try.pinned.checked.prog Try.f10 Rows.tokenBackSpec Rows.tokenBackRow = true := by kernel_rfl
theorem lifted : Rows.tokenBackRow.lifted = Try.pinned.checked.prog.liftsFinal := lifts_final
theorem made : Try.pinned.checked.prog.make = some Rows.tokenBackRow.make := make_cut
theorem closed : joinedFacts Try.pinned.checked.prog 10 Try.f10 Rows.tokenBackSpec Rows.tokenBackRow = true :=
  joined_of Try.laidOut light may_enter lifted made (inPlace_nil tells_eq quiet mem) unf rec (varsNamed_nil tells_eq quiet mem)
theorem named : Try.pinned.checked.prog.funcNamed Rows.tokenBackRow.func = some 10 := by kernel_rfl
theorem inst : Try.f10.isInstance Try.pinned.checked.prog Rows.tokenBackRow.origin Rows.tokenBackRow.targs := of_decide_eq_true (by kernel_rfl)
theorem wrap : Try.f10.isWrapper Try.pinned.checked.prog Rows.tokenBackRow.wrapper Rows.tokenBackRow.mainSum := by unfold Func.isWrapper; first | (rw [if_pos (by decide +kernel)]; kernel_rfl) | (rw [if_neg (by decide +kernel)]; exact ⟨rfl, rfl⟩)
end CellTokenBack
end Go.Proofs.Ytpjkmidjjodplaa
