/-
  Contracts of chapter 11: all tokens of some bytes; are tokens the same; live.
-/
import Derived.Test.YtpjkmidjjodplaaK27
set_option linter.all false
set_option linter.unusedSimpArgs false
set_option linter.unusedVariables false
set_option linter.unnecessarySimpa false
namespace Go.Proofs.Ytpjkmidjjodplaa
open Go.RowKit

abbrev getA (q : List Tk × (Int × Int)) : AV := .tup [slT q.1, fltA q.2]
def AlT (s : RS) (a : RS × List Tk) : Prop := ROk a.1 ∧ a.2.length ≤ s.l.length + 1 ∧ (a.1.code = 0 → tokF.Al s a) ∧ (¬ a.1.code = 0 → tokF.rest s [] = (a.1, []))
def muT (a : RS × List Tk) : Nat := if a.1.code = 0 then a.1.left.toNat + 1 else 0
theorem tokf (s : RS) (acc : List Tk) : tokF.f s acc = s.token := rfl
def sameT (l m : List Tk) : Bool := decide (l = m)
theorem sameT_self (l : List Tk) : sameT l l = true := by simp [sameT]
theorem live11_e : tokR [⟨[7, 8], 0, 0⟩, ⟨[], 1, 4⟩] = ([2, 7, 8, 1, 0], 0) := by kernel_rfl
end Go.Proofs.Ytpjkmidjjodplaa
