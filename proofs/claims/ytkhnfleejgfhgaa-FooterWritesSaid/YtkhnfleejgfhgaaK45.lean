/-
  Contracts of header's reading functions.
-/
import Derived.Test.YtkhnfleejgfhgaaK44
set_option linter.all false
set_option linter.unusedSimpArgs false
set_option linter.unusedVariables false
set_option linter.unnecessarySimpa false
namespace Go.Proofs.Ytkhnfleejgfhgaa
open Go.RowKit

theorem byte_take (s : RS) (h0 : 0 ≤ s.at_) : s.byte = ((s.take 1).1, (s.take 1).2.getD 0 0) := by
  unfold RS.byte RS.take
  split
  · simp [List.getD_eq_getElem?_getD, List.getElem?_take, List.getElem?_drop]
  · rfl
theorem lets_eq (s : RS) : s.lets = if sameB (s.take 4).2 thol = true then (s.take 4).1 else (s.take 4).1.fail 14 s.at_ := by
  unfold RS.lets sameB
  by_cases h : (s.take 4).2 = thol
  · rw [if_neg (by rintro ⟨_, h'⟩; exact h' h), if_pos (by simpa using h)]
  · rw [if_neg (c := decide ((s.take 4).2 = thol) = true) (by simpa using h)]
    by_cases hc : (s.take 4).1.code = 0
    · rw [if_pos ⟨hc, h⟩]
    · rw [if_neg (by rintro ⟨h', _⟩; exact hc h'), fail_bad hc]
/-- What a header ahead of bytes is, its length, the fault. -/
def getH (b : List Int) : Hd × Int × (Int × Int) := if (RS.new b).header.1.code = 0 then ((RS.new b).header.2, (RS.new b).header.1.at_, (0, 0)) else (hd0, 0, ((RS.new b).header.1.code, (RS.new b).header.1.fat))
def verH (b : List Int) : Int × (Int × Int) := if (RS.new b).hbegin.1.code = 0 then ((RS.new b).hbegin.2, (0, 0)) else (0, ((RS.new b).hbegin.1.code, (RS.new b).hbegin.1.fat))
end Go.Proofs.Ytkhnfleejgfhgaa
