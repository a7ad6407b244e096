/-
  The closed facts of the row of ExpandTokens.
-/
import Derived.Test.YtpjkmidjjodplaaFacts
namespace Go.Proofs.Ytpjkmidjjodplaa
open Go.RowKit
namespace CellExpandTokens
def C : List Nat := [3, 17, 18, 19, 20, 21, 22, 25, 26, 38, 39, 40, 70, 71, 72, 73, 74]
theorem quiet : quietSet TELLS C = true := by decide +kernel
theorem mem : 3 ∈ C := by decide
theorem followed : followedSet TELLS C = true := by decide +kernel
theorem unf : false = Try.prog.unfollowed 3 := unfollowed_false tells_eq quiet followed mem
def R : List Nat := [0, 0, 0, 5, 0, 0, 0, 0, 0, 0, 0, 0, 0, 0, 0, 0, 0, 0, 4, 3, 2, 0, 1, 0, 0, 0, 0, 0, 0, 0, 0, 0, 0, 0, 0, 0, 0, 0, 0, 1, 1, 0, 0, 0, 0, 0, 0, 0, 0, 0, 0, 0, 0, 0, 0, 0, 0, 0, 0, 0, 0, 0, 0, 0, 0, 0, 0, 0, 0, 0, 2, 0, 0, 0, 0]
theorem rec : false = Try.prog.recurses 3 := recurses_false tells_eq quiet followed R (by decide +kernel) mem
theorem light : lightFacts Try.pinned.checked.prog Try.f3 Rows.expandTokensSpec Rows.expandTokensRow = true := by kernel_rfl
theorem lifted : Rows.expandTokensRow.lifted = Try.pinned.checked.prog.liftsFinal := lifts_final
theorem made : Try.pinned.checked.prog.make = some Rows.expandTokensRow.make := make_cut
theorem closed : joinedFacts Try.pinned.checked.prog 3 Try.f3 Rows.expandTokensSpec Rows.expandTokensRow = true :=
  joined_of Try.laidOut light may_enter lifted made (inPlace_nil tells_eq quiet mem) unf rec (varsNamed_nil tells_eq quiet mem)
theorem named : Try.pinned.checked.prog.funcNamed Rows.expandTokensRow.func = some 3 := by kernel_rfl
theorem inst : Try.f3.isInstance Try.pinned.checked.prog Rows.expandTokensRow.origin Rows.expandTokensRow.targs := of_decide_eq_true (by kernel_rfl)
theorem wrap : Try.f3.isWrapper Try.pinned.checked.prog Rows.expandTokensRow.wrapper Rows.expandTokensRow.mainSum := by unfold Func.isWrapper; first | (rw [if_pos (by decide +kernel)]; kernel_rfl) | (rw [if_neg (by decide +kernel)]; exact ⟨rfl, rfl⟩)
end CellExpandTokens
end Go.Proofs.Ytpjkmidjjodplaa
