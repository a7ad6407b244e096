/-
  The closed facts of the row of FrameWrites.
-/
import Derived.Test.YtpjkmidjjodplaaFacts
namespace Go.Proofs.Ytpjkmidjjodplaa
open Go.RowKit
namespace CellFrameWrites
def C : List Nat := [5, 21, 27, 28, 29, 30, 31, 32, 33, 34, 35, 36, 76, 77, 78, 79, 80, 81, 82, 83, 84, 85, 86, 108, 109, 110, 111, 112, 113, 114, 120, 121, 122]
theorem quiet : quietSet TELLS C = true := by decide +kernel
theorem mem : 5 ∈ C := by decide
theorem followed : followedSet TELLS C = true := by decide +kernel
theorem unf : false = Try.prog.unfollowed 5 := unfollowed_false tells_eq quiet followed mem
theorem rec : true = Try.prog.recurses 5 := recurses_true (g := 33) tells_eq 36 (by decide +kernel) (by decide +kernel) (by decide +kernel)
theorem light : lightFacts Try.pinned.checked.prog Try.f5 Rows.frameWritesSpec Rows.frameWritesRow = true := by kernel_rfl
theorem lifted : Rows.frameWritesRow.lifted = Try.pinned.checked.prog.liftsFinal := lifts_final
theorem made : Try.pinned.checked.prog.make = some Rows.frameWritesRow.make := make_cut
theorem closed : joinedFacts Try.pinned.checked.prog 5 Try.f5 Rows.frameWritesSpec Rows.frameWritesRow = true :=
  joined_of Try.laidOut light may_enter lifted made (inPlace_nil tells_eq quiet mem) unf rec (varsNamed_nil tells_eq quiet mem)
theorem named : Try.pinned.checked.prog.funcNamed Rows.frameWritesRow.func = some 5 := by kernel_rfl
theorem inst : Try.f5.isInstance Try.pinned.checked.prog Rows.frameWritesRow.origin Rows.frameWritesRow.targs := of_decide_eq_true (by kernel_rfl)
theorem wrap : Try.f5.isWrapper Try.pinned.checked.prog Rows.frameWritesRow.wrapper Rows.frameWritesRow.mainSum := by unfold Func.isWrapper; first | (rw [if_pos (by decide +kernel)]; kernel_rfl) | (rw [if_neg (by decide +kernel)]; exact ⟨rfl, rfl⟩)
end CellFrameWrites
end Go.Proofs.Ytpjkmidjjodplaa
