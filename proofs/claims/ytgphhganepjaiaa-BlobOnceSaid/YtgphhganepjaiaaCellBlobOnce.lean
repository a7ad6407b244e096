/-
  The closed facts of the row of BlobOnce.
-/
import Derived.Test.YtgphhganepjaiaaFacts
namespace Go.Proofs.Ytgphhganepjaiaa
open Go.RowKit
namespace CellBlobOnce
def C : List Nat := [20, 37, 40, 41, 42, 43, 44, 45, 46, 47, 65, 73, 79, 81, 85, 86, 87, 90, 91, 100, 101, 102, 111, 123, 124, 130, 132, 133, 136, 137, 138]
theorem quiet : quietSet TELLS C = true := by decide +kernel
theorem mem : 20 ∈ C := by decide
theorem followed : followedSet TELLS C = true := by decide +kernel
theorem unf : false = Try.prog.unfollowed 20 := unfollowed_false tells_eq quiet followed mem
theorem rec : true = Try.prog.recurses 20 := recurses_true (g := 42) tells_eq 55 (by decide +kernel) (by decide +kernel) (by decide +kernel)
theorem light : lightFacts Try.pinned.checked.prog Try.f20 Rows.blobOnceSpec Rows.blobOnceRow = true := by kernel_rfl
theorem lifted : Rows.blobOnceRow.lifted = Try.pinned.checked.prog.liftsFinal := lifts_final
theorem made : Try.pinned.checked.prog.make = some Rows.blobOnceRow.make := make_cut
theorem closed : joinedFacts Try.pinned.checked.prog 20 Try.f20 Rows.blobOnceSpec Rows.blobOnceRow = true :=
  joined_of Try.laidOut light may_enter lifted made (inPlace_nil tells_eq quiet mem) unf rec (varsNamed_nil tells_eq quiet mem)
theorem named : Try.pinned.checked.prog.funcNamed Rows.blobOnceRow.func = some 20 := by kernel_rfl
theorem inst : Try.f20.isInstance Try.pinned.checked.prog Rows.blobOnceRow.origin Rows.blobOnceRow.targs := of_decide_eq_true (by kernel_rfl)
theorem wrap : Try.f20.isWrapper Try.pinned.checked.prog Rows.blobOnceRow.wrapper Rows.blobOnceRow.mainSum := by unfold Func.isWrapper; first | (rw [if_pos (by decide +kernel)]; kernel_rfl) | (rw [if_neg (by decide +kernel)]; exact ⟨rfl, rfl⟩)
end CellBlobOnce
end Go.Proofs.Ytgphhganepjaiaa
