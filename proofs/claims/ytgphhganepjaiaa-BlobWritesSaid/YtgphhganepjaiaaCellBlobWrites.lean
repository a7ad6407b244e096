/-
  The closed facts of the row of BlobWrites.
-/
import Derived.Test.YtgphhganepjaiaaFacts
namespace Go.Proofs.Ytgphhganepjaiaa
open Go.RowKit
namespace CellBlobWrites
def C : List Nat := [6, 37, 40, 41, 42, 43, 44, 45, 46, 47, 48, 49, 65, 72, 90, 91, 123, 124, 136]
theorem quiet : quietSet TELLS C = true := by decide +kernel
theorem mem : 6 ∈ C := by decide
theorem followed : followedSet TELLS C = true := by decide +kernel
theorem unf : false = Try.prog.unfollowed 6 := unfollowed_false tells_eq quiet followed mem
theorem rec : true = Try.prog.recurses 6 := recurses_true (g := 42) tells_eq 26 (by decide +kernel) (by decide +kernel) (by decide +kernel)
theorem light : lightFacts Try.pinned.checked.prog Try.f6 Rows.blobWritesSpec Rows.blobWritesRow = true := by kernel_rfl
theorem lifted : Rows.blobWritesRow.lifted = Try.pinned.checked.prog.liftsFinal := lifts_final
theorem made : Try.pinned.checked.prog.make = some Rows.blobWritesRow.make := make_cut
theorem closed : joinedFacts Try.pinned.checked.prog 6 Try.f6 Rows.blobWritesSpec Rows.blobWritesRow = true :=
  joined_of Try.laidOut light may_enter lifted made (inPlace_nil tells_eq quiet mem) unf rec (varsNamed_nil tells_eq quiet mem)
theorem named : Try.pinned.checked.prog.funcNamed Rows.blobWritesRow.func = some 6 := by kernel_rfl
theorem inst : Try.f6.isInstance Try.pinned.checked.prog Rows.blobWritesRow.origin Rows.blobWritesRow.targs := of_decide_eq_true (by kernel_rfl)
theorem wrap : Try.f6.isWrapper Try.pinned.checked.prog Rows.blobWritesRow.wrapper Rows.blobWritesRow.mainSum := by unfold Func.isWrapper; first | (rw [if_pos (by decide +kernel)]; kernel_rfl) | (rw [if_neg (by decide +kernel)]; exact ⟨rfl, rfl⟩)
end CellBlobWrites
end Go.Proofs.Ytgphhganepjaiaa
