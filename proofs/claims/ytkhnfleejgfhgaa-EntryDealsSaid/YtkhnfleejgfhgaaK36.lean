/-
  Contracts of chapter 8: where frames begin, by the code and by the reference; live.
-/
import Derived.Test.YtkhnfleejgfhgaaK35
set_option linter.all false
set_option linter.unusedSimpArgs false
set_option linter.unusedVariables false
set_option linter.unnecessarySimpa false
namespace Go.Proofs.Ytkhnfleejgfhgaa
open Go.RowKit

theorem getF_code {b : List Int} {m : Int} : ((getF b m).2.2.1 == 0) = okF b m := by
  unfold getF okF
  by_cases h : ((RS.new b).frame m).1.code = 0
  · rw [if_pos h, h]
  · rw [if_neg h]
theorem mxn (n : Int) : (if (0 : Int) > n then 0 else n) = ((max n 0).toNat : Int) := by split <;> omega
theorem live08_f : frameB [] = [0, 0, 0, 0, 0] := by kernel_rfl
end Go.Proofs.Ytkhnfleejgfhgaa
