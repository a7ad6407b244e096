/-
  The closed facts of the row of IndexWrites.
-/
import Derived.Test.YtgphhganepjaiaaFacts
namespace Go.Proofs.Ytgphhganepjaiaa
open Go.RowKit
namespace CellIndexWrites
def C : List Nat := [27, 37, 40, 41, 42, 65, 66, 69, 73, 79, 81, 85, 86, 87, 90, 91, 102, 111, 114, 116, 117, 118, 119, 120, 121, 123, 124, 126, 130, 132, 133, 136, 138, 141, 142]
theorem quiet : quietSet TELLS C = true := by decide +kernel
theorem mem : 27 ∈ C := by decide
theorem followed : followedSet TELLS C = true := by decide +kernel
theorem unf : false = Try.prog.unfollowed 27 := unfollowed_false tells_eq quiet followed mem
theorem rec : true = Try.prog.recurses 27 := recurses_true (g := 42) tells_eq 72 (by decide +kernel) (by decide +kernel) (by decide +kernel)
theorem light : lightFacts Try.pinned.checked.prog Try.f27 Rows.indexWritesSpec Rows.indexWritesRow = true := by kernel_rfl
theorem lifted : Rows.indexWritesRow.lifted = Try.pinned.checked.prog.liftsFinal := lifts_final
theorem made : Try.pinned.checked.prog.make = some Rows.indexWritesRow.make := make_cut
theorem closed : joinedFacts Try.pinned.checked.prog 27 Try.f27 Rows.indexWritesSpec Rows.indexWritesRow = true :=
  joined_of Try.laidOut light may_enter lifted made (inPlace_nil tells_eq quiet mem) unf rec (varsNamed_nil tells_eq quiet mem)
theorem named : Try.pinned.checked.prog.funcNamed Rows.indexWritesRow.func = some 27 := by kernel_rfl
theorem inst : Try.f27.isInstance Try.pinned.checked.prog Rows.indexWritesRow.origin Rows.indexWritesRow.targs := of_decide_eq_true (by kernel_rfl)
theorem wrap : Try.f27.isWrapper Try.pinned.checked.prog Rows.indexWritesRow.wrapper Rows.indexWritesRow.mainSum := by unfold Func.isWrapper; first | (rw [if_pos (by decide +kernel)]; kernel_rfl) | (rw [if_neg (by decide +kernel)]; exact ⟨rfl, rfl⟩)
end CellIndexWrites
end Go.Proofs.Ytgphhganepjaiaa
