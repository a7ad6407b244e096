/-
  The closed facts of the row of EpochWrites.
-/
import Derived.Test.YtgphhganepjaiaaFacts
namespace Go.Proofs.Ytgphhganepjaiaa
open Go.RowKit
namespace CellEpochWrites
def C : List Nat := [5, 28, 30, 32, 34, 35, 36, 37, 38, 39, 40, 41, 42, 65, 90, 91, 122, 123, 124, 136]
theorem quiet : quietSet TELLS C = true := by decide +kernel
theorem mem : 5 ∈ C := by decide
theorem followed : followedSet TELLS C = true := by decide +kernel
theorem unf : false = Try.prog.unfollowed 5 := unfollowed_false tells_eq quiet followed mem
theorem rec : true = Try.prog.recurses 5 := recurses_true (g := 42) tells_eq 27 (by decide +kernel) (by decide +kernel) (by decide +kernel)
theorem light : lightFacts Try.pinned.checked.prog Try.f5 Rows.epochWritesSpec Rows.epochWritesRow = true := by kernel_rfl
theorem lifted : Rows.epochWritesRow.lifted = Try.pinned.checked.prog.liftsFinal := lifts_final
theorem made : Try.pinned.checked.prog.make = some Rows.epochWritesRow.make := make_cut
theorem closed : joinedFacts Try.pinned.checked.prog 5 Try.f5 Rows.epochWritesSpec Rows.epochWritesRow = true :=
  joined_of Try.laidOut light may_enter lifted made (inPlace_nil tells_eq quiet mem) unf rec (varsNamed_nil tells_eq quiet mem)
theorem named : Try.pinned.checked.prog.funcNamed Rows.epochWritesRow.func = some 5 := by kernel_rfl
theorem inst : Try.f5.isInstance Try.pinned.checked.prog Rows.epochWritesRow.origin Rows.epochWritesRow.targs := of_decide_eq_true (by kernel_rfl)
theorem wrap : Try.f5.isWrapper Try.pinned.checked.prog Rows.epochWritesRow.wrapper Rows.epochWritesRow.mainSum := by unfold Func.isWrapper; first | (rw [if_pos (by decide +kernel)]; kernel_rfl) | (rw [if_neg (by decide +kernel)]; exact ⟨rfl, rfl⟩)
end CellEpochWrites
end Go.Proofs.Ytgphhganepjaiaa
