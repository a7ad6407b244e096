/-
  An element of a row of numbers.
-/
import Derived.Test.YtkhnfleejgfhgaaQ4
set_option linter.all false
set_option linter.unusedSimpArgs false
set_option linter.unusedVariables false
set_option linter.unnecessarySimpa false
namespace Go.Proofs.Ytkhnfleejgfhgaa
theorem i64_get (l : List Int) (k : Nat) (h : k < l.length) : (ints .i64 l).getD (k : Int).toNat .any = iA (l.getD k 0) := by
  rw [Int.toNat_natCast]; exact ints_getD .i64 l k h
end Go.Proofs.Ytkhnfleejgfhgaa
