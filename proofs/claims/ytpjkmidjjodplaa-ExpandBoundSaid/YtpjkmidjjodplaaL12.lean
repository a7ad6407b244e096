/-
  Chapter 12: ExpandTokens.
-/
import Derived.Test.YtpjkmidjjodplaaK25
import Derived.Test.YtpjkmidjjodplaaTop
set_option linter.all false
set_option linter.unusedSimpArgs false
set_option linter.unusedVariables false
set_option linter.unnecessarySimpa false
namespace Go.Proofs.Ytpjkmidjjodplaa
open Go.RowKit

def fltO (f : Int × Int) : AObj := .cells [iA f.1, iA f.2]
theorem tsum_take (l : List Tk) (k : Nat) (h : k < l.length) : tsum (l.take (k + 1)) = tsum (l.take k) + (l.getD k tk0).made := by
  rw [tk_take l k h, tsum_snoc]
theorem Tks.lit {l : List Tk} (h : Tks l) : ∀ t ∈ l, Bys t.lit := fun t ht => (h t ht).lit
theorem expT_bys {l : List Tk} (h : Tks l) (b : Int) : Bys (expT l b).1 := expFrom_bys l 0 [] h.lit (by intro x hx; simp at hx)
end Go.Proofs.Ytpjkmidjjodplaa
