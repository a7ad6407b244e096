/-
  Contracts of the reference's headers; live.
-/
import Derived.Test.YtkhnfleejgfhgaaK45
set_option linter.all false
set_option linter.unusedSimpArgs false
set_option linter.unusedVariables false
set_option linter.unnecessarySimpa false
namespace Go.Proofs.Ytkhnfleejgfhgaa
open Go.RowKit

theorem lets_eq2 (s : RS) : s.lets = if (s.take 4).1.code = 0 then (if sameB (s.take 4).2 thol = true then (s.take 4).1 else (s.take 4).1.fail 14 s.at_) else (s.take 4).1 := by
  rw [lets_eq]
  by_cases h : sameB (s.take 4).2 thol = true
  · rw [if_pos h]; split <;> rfl
  · rw [if_neg h]; split
    · rfl
    · rename_i hc; rw [fail_bad hc]
theorem u8_hd (l : List Int) (h : 0 < l.length) : (ints .u8 l).getD 0 .any = u8A (l.getD 0 0) := u8_in_list 0 h
abbrev liveS : ByteArray := ⟨#[84, 72, 79, 76, 3, 5]⟩
theorem live_text {l : List Int} (hl : Bys l) : ((bytesOf (ints .u8 l)).toList == liveS.toList) = sameB l [84, 72, 79, 76, 3, 5] := bytes_same (m := [84, 72, 79, 76, 3, 5]) hl (by unfold Bys; decide)
end Go.Proofs.Ytkhnfleejgfhgaa
