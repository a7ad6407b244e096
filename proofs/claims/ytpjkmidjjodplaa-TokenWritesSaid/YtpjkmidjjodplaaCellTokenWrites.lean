/-
  The closed facts of the row of TokenWrites.
-/
import Derived.Test.YtpjkmidjjodplaaFacts
namespace Go.Proofs.Ytpjkmidjjodplaa
open Go.RowKit
namespace CellTokenWrites
def C : List Nat := [6, 17, 21, 22, 25, 26, 29, 30, 32, 33, 37, 38, 39, 40, 41, 42, 43, 44, 45, 46, 76, 77, 78, 86, 87, 88, 89, 90, 113, 114]
theorem quiet : quietSet TELLS C = true := by decide +kernel
theorem mem : 6 ∈ C := by decide
theorem unf : true = Try.prog.unfollowed 6 := unfollowed_true (g := 88) tells_eq 51 (by decide +kernel) (by decide +kernel) (by decide +kernel)
theorem rec : true = Try.prog.recurses 6 := recurses_true_of_unfollowed unf
theorem light : lightFacts Try.pinned.checked.prog Try.f6 Rows.tokenWritesSpec Rows.tokenWritesRow = true := by kernel_rfl
theorem lifted : Rows.tokenWritesRow.lifted = Try.pinned.checked.prog.liftsFinal := lifts_final
theorem made : Try.pinned.checked.prog.make = some Rows.tokenWritesRow.make := make_cut
theorem closed : joinedFacts Try.pinned.checked.prog 6 Try.f6 Rows.tokenWritesSpec Rows.tokenWritesRow = true :=
  joined_of Try.laidOut light may_enter lifted made (inPlace_nil tells_eq quiet mem) unf rec (varsNamed_nil tells_eq quiet mem)
theorem named : Try.pinned.checked.prog.funcNamed Rows.tokenWritesRow.func = some 6 := by kernel_rfl
theorem inst : Try.f6.isInstance Try.pinned.checked.prog Rows.tokenWritesRow.origin Rows.tokenWritesRow.targs := of_decide_eq_true (by kernel_rfl)
theorem wrap : Try.f6.isWrapper Try.pinned.checked.prog Rows.tokenWritesRow.wrapper Rows.tokenWritesRow.mainSum := by unfold Func.isWrapper; first | (rw [if_pos (by decide +kernel)]; kernel_rfl) | (rw [if_neg (by decide +kernel)]; exact ⟨rfl, rfl⟩)
end CellTokenWrites
end Go.Proofs.Ytpjkmidjjodplaa
