/-
  Contracts of chapter 8: frames, by the code and by the reference.
-/
import Derived.Test.YtkhnfleejgfhgaaK34
import Derived.Test.YtkhnfleejgfhgaaP14
set_option linter.all false
set_option linter.unusedSimpArgs false
set_option linter.unusedVariables false
set_option linter.unnecessarySimpa false
namespace Go.Proofs.Ytkhnfleejgfhgaa
open Go.RowKit

/-- A writer behind a frame. -/
def WS.frame (s : WS) (p : List Int) : WS := if 2097152 < (p.length : Int) then s.fail 2 else ((s.put (vb p.length)).put p).put (lowBytes 4 (crcI p))
theorem WS.fine.frame {s : WS} (h : s.fine) (p : List Int) : (s.frame p).fine := by
  unfold WS.frame
  split
  · exact h.fail 2
  · exact ((h.put _).put _).put _
theorem frame_fit {s : WS} {p : List Int} (h : s.code = 0) (hp : p.length ≤ 2097152) (hm : (s.l.length : Int) + (frameB p).length ≤ s.most) : s.frame p = ⟨s.most, s.l ++ frameB p, 0⟩ := by
  have h4 := lowBytes_len 4 (crcI p)
  rw [frameB_len] at hm
  unfold blobB at hm
  rw [List.length_append] at hm
  unfold WS.frame
  rw [if_neg (by omega)]
  have e1 : s.put (vb p.length) = ⟨s.most, s.l ++ vb p.length, 0⟩ := by rw [WS.put_ok h (by omega)]; cases s; simp at h; simp [h]
  have e2 : (WS.mk s.most (s.l ++ vb p.length) 0).put p = ⟨s.most, s.l ++ vb p.length ++ p, 0⟩ := by rw [WS.put_ok rfl (by simp only [List.length_append]; omega)]
  have e3 : (WS.mk s.most (s.l ++ vb p.length ++ p) 0).put (lowBytes 4 (crcI p)) = ⟨s.most, s.l ++ vb p.length ++ p ++ lowBytes 4 (crcI p), 0⟩ := by rw [WS.put_ok rfl (by simp only [List.length_append]; omega)]
  rw [e1, e2, e3]
  simp [frameB, blobB]
end Go.Proofs.Ytkhnfleejgfhgaa
