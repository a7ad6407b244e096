/-
  The closed facts of the row of BlobBack.
-/
import Derived.Test.YtgphhganepjaiaaFacts
namespace Go.Proofs.Ytgphhganepjaiaa
open Go.RowKit
namespace CellBlobBack
def C : List Nat := [24, 37, 40, 41, 43, 44, 45, 54, 65, 73, 79, 81, 85, 86, 87, 90, 91, 100, 101, 102, 109, 110, 111, 123, 124, 130, 132, 133, 136, 137, 138, 140]
theorem quiet : quietSet TELLS C = true := by decide +kernel
theorem mem : 24 ∈ C := by decide
theorem followed : followedSet TELLS C = true := by decide +kernel
theorem unf : false = Try.prog.unfollowed 24 := unfollowed_false tells_eq quiet followed mem
def R : List Nat := [0, 0, 0, 0, 0, 0, 0, 0, 0, 0, 0, 0, 0, 0, 0, 0, 0, 0, 0, 0, 0, 0, 0, 0, 9, 0, 0, 0, 0, 0, 0, 0, 0, 0, 0, 0, 0, 0, 0, 0, 1, 0, 0, 5, 4, 4, 0, 0, 0, 0, 0, 0, 0, 0, 0, 0, 0, 0, 0, 0, 0, 0, 0, 0, 0, 0, 0, 0, 0, 0, 0, 0, 0, 0, 0, 0, 0, 0, 0, 0, 0, 3, 0, 0, 0, 5, 6, 7, 0, 0, 2, 3, 0, 0, 0, 0, 0, 0, 0, 0, 8, 8, 1, 0, 0, 0, 0, 0, 0, 5, 3, 0, 0, 0, 0, 0, 0, 0, 0, 0, 0, 0, 0, 0, 1, 0, 0, 0, 0, 0, 0, 0, 2, 4, 0, 0, 0, 4, 0, 0, 0]
theorem rec : false = Try.prog.recurses 24 := recurses_false tells_eq quiet followed R (by decide +kernel) mem
theorem light : lightFacts Try.pinned.checked.prog Try.f24 Rows.blobBackSpec Rows.blobBackRow = true := by kernel_rfl
theorem lifted : Rows.blobBackRow.lifted = Try.pinned.checked.prog.liftsFinal := lifts_final
theorem made : Try.pinned.checked.prog.make = some Rows.blobBackRow.make := make_cut
theorem closed : joinedFacts Try.pinned.checked.prog 24 Try.f24 Rows.blobBackSpec Rows.blobBackRow = true :=
  joined_of Try.laidOut light may_enter lifted made (inPlace_nil tells_eq quiet mem) unf rec (varsNamed_nil tells_eq quiet mem)
theorem named : Try.pinned.checked.prog.funcNamed Rows.blobBackRow.func = some 24 := by kernel_rfl
theorem inst : Try.f24.isInstance Try.pinned.checked.prog Rows.blobBackRow.origin Rows.blobBackRow.targs := of_decide_eq_true (by kernel_rfl)
theorem wrap : Try.f24.isWrapper Try.pinned.checked.prog Rows.blobBackRow.wrapper Rows.blobBackRow.mainSum := by unfold Func.isWrapper; first | (rw [if_pos (by decide +kernel)]; kernel_rfl) | (rw [if_neg (by decide +kernel)]; exact ⟨rfl, rfl⟩)
end CellBlobBack
end Go.Proofs.Ytgphhganepjaiaa
