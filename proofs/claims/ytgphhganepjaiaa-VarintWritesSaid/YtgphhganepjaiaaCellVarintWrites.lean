/-
  The closed facts of the row of VarintWrites.
-/
import Derived.Test.YtgphhganepjaiaaFacts
namespace Go.Proofs.Ytgphhganepjaiaa
open Go.RowKit
namespace CellVarintWrites
def C : List Nat := [17, 37, 40, 41, 42, 63, 64, 65, 72, 73, 78, 79, 81, 85, 90, 91, 102, 111, 123, 124, 130, 132, 133, 136, 138]
theorem quiet : quietSet TELLS C = true := by decide +kernel
theorem mem : 17 ∈ C := by decide
theorem followed : followedSet TELLS C = true := by decide +kernel
theorem unf : false = Try.prog.unfollowed 17 := unfollowed_false tells_eq quiet followed mem
theorem rec : true = Try.prog.recurses 17 := recurses_true (g := 42) tells_eq 40 (by decide +kernel) (by decide +kernel) (by decide +kernel)
theorem light : lightFacts Try.pinned.checked.prog Try.f17 Rows.varintWritesSpec Rows.varintWritesRow = true := by kernel_rfl
theorem lifted : Rows.varintWritesRow.lifted = Try.pinned.checked.prog.liftsFinal := lifts_final
theorem made : Try.pinned.checked.prog.make = some Rows.varintWritesRow.make := make_cut
theorem closed : joinedFacts Try.pinned.checked.prog 17 Try.f17 Rows.varintWritesSpec Rows.varintWritesRow = true :=
  joined_of Try.laidOut light may_enter lifted made (inPlace_nil tells_eq quiet mem) unf rec (varsNamed_nil tells_eq quiet mem)
theorem named : Try.pinned.checked.prog.funcNamed Rows.varintWritesRow.func = some 17 := by kernel_rfl
theorem inst : Try.f17.isInstance Try.pinned.checked.prog Rows.varintWritesRow.origin Rows.varintWritesRow.targs := of_decide_eq_true (by kernel_rfl)
theorem wrap : Try.f17.isWrapper Try.pinned.checked.prog Rows.varintWritesRow.wrapper Rows.varintWritesRow.mainSum := by unfold Func.isWrapper; first | (rw [if_pos (by decide +kernel)]; kernel_rfl) | (rw [if_neg (by decide +kernel)]; exact ⟨rfl, rfl⟩)
end CellVarintWrites
end Go.Proofs.Ytgphhganepjaiaa
