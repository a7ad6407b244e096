/-
  The closed facts of the row of BlobReads.
-/
import Derived.Test.YtgphhganepjaiaaFacts
namespace Go.Proofs.Ytgphhganepjaiaa
open Go.RowKit
namespace CellBlobReads
def C : List Nat := [23, 37, 40, 41, 43, 44, 45, 54, 65, 73, 78, 79, 80, 81, 82, 83, 84, 85, 86, 87, 90, 91, 100, 101, 102, 106, 107, 108, 109, 111, 123, 124, 129, 130, 131, 132, 133, 136, 137, 138, 139]
theorem quiet : quietSet TELLS C = true := by decide +kernel
theorem mem : 23 ∈ C := by decide
theorem followed : followedSet TELLS C = true := by decide +kernel
theorem unf : false = Try.prog.unfollowed 23 := unfollowed_false tells_eq quiet followed mem
def R : List Nat := [0, 0, 0, 0, 0, 0, 0, 0, 0, 0, 0, 0, 0, 0, 0, 0, 0, 0, 0, 0, 0, 0, 0, 9, 0, 0, 0, 0, 0, 0, 0, 0, 0, 0, 0, 0, 0, 0, 0, 0, 1, 0, 0, 5, 4, 4, 0, 0, 0, 0, 0, 0, 0, 0, 0, 0, 0, 0, 0, 0, 0, 0, 0, 0, 0, 0, 0, 0, 0, 0, 0, 0, 0, 0, 0, 0, 0, 0, 1, 0, 1, 3, 2, 3, 4, 5, 6, 7, 0, 0, 2, 3, 0, 0, 0, 0, 0, 0, 0, 0, 8, 8, 1, 0, 0, 0, 5, 5, 3, 5, 0, 0, 0, 0, 0, 0, 0, 0, 0, 0, 0, 0, 0, 0, 1, 0, 0, 0, 0, 1, 0, 0, 2, 4, 0, 0, 0, 4, 0, 2]
theorem rec : false = Try.prog.recurses 23 := recurses_false tells_eq quiet followed R (by decide +kernel) mem
theorem light : lightFacts Try.pinned.checked.prog Try.f23 Rows.blobReadsSpec Rows.blobReadsRow = true := by kernel_rfl
theorem lifted : Rows.blobReadsRow.lifted = Try.pinned.checked.prog.liftsFinal := lifts_final
theorem made : Try.pinned.checked.prog.make = some Rows.blobReadsRow.make := make_cut
theorem closed : joinedFacts Try.pinned.checked.prog 23 Try.f23 Rows.blobReadsSpec Rows.blobReadsRow = true :=
  joined_of Try.laidOut light may_enter lifted made (inPlace_nil tells_eq quiet mem) unf rec (varsNamed_nil tells_eq quiet mem)
theorem named : Try.pinned.checked.prog.funcNamed Rows.blobReadsRow.func = some 23 := by kernel_rfl
theorem inst : Try.f23.isInstance Try.pinned.checked.prog Rows.blobReadsRow.origin Rows.blobReadsRow.targs := of_decide_eq_true (by kernel_rfl)
theorem wrap : Try.f23.isWrapper Try.pinned.checked.prog Rows.blobReadsRow.wrapper Rows.blobReadsRow.mainSum := by unfold Func.isWrapper; first | (rw [if_pos (by decide +kernel)]; kernel_rfl) | (rw [if_neg (by decide +kernel)]; exact ⟨rfl, rfl⟩)
end CellBlobReads
end Go.Proofs.Ytgphhganepjaiaa
