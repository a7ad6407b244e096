/-
  Contracts of chapter 22: differences of falling lists.
  Contracts of chapter 22: falling lists read; the reference's; live.
-/
import Derived.Test.YtkhnfleejgfhgaaQ4
import Derived.Test.YtkhnfleejgfhgaaP3
set_option linter.all false
set_option linter.unusedSimpArgs false
set_option linter.unusedVariables false
set_option linter.unnecessarySimpa false
section
namespace Go.Proofs.Ytkhnfleejgfhgaa
open Go.RowKit

def dstR (b : Int) (l : List Int) : List Int := if falls b l = true then dsts b l l.length else []
def undR (b : Int) (s : List Int) : List Int := if undOk b s = true then undL b s s.length else []
def WS.fall (s : WS) (b : Int) (l : List Int) : WS := if falls b l = true then (s.put (vb l.length)).puts (dsts b l l.length) else s.fail 3
end Go.Proofs.Ytkhnfleejgfhgaa
end
section
namespace Go.Proofs.Ytkhnfleejgfhgaa
open Go.RowKit

theorem fallF_over {b : Int} {s : RS} {acc : List Int} (hx : blw b acc ≤ s.vint.2) : ((fallF b).f s acc).1 = s.vint.1.fail 13 s.at_ ∧ ¬ ((fallF b).f s acc).1.code = 0 := by
  show (if s.vint.1.code = 0 ∧ blw b acc ≤ s.vint.2 then (s.vint.1.fail 13 s.at_, (0 : Int)) else (s.vint.1, blw b acc - 1 - s.vint.2)).1 = _ ∧ _
  by_cases hc : s.vint.1.code = 0
  · refine ⟨by rw [if_pos ⟨hc, hx⟩], ?_⟩
    show ¬ (if s.vint.1.code = 0 ∧ blw b acc ≤ s.vint.2 then (s.vint.1.fail 13 s.at_, (0 : Int)) else (s.vint.1, blw b acc - 1 - s.vint.2)).1.code = 0
    rw [if_pos ⟨hc, hx⟩]; exact fail_not0 _ _ hc (by decide)
  · refine ⟨?_, ?_⟩
    · rw [if_neg fun h => hc h.1]; unfold RS.fail; rw [if_neg hc]
    · show ¬ (if s.vint.1.code = 0 ∧ blw b acc ≤ s.vint.2 then (s.vint.1.fail 13 s.at_, (0 : Int)) else (s.vint.1, blw b acc - 1 - s.vint.2)).1.code = 0
      rw [if_neg fun h => hc h.1]; exact hc
theorem fallF_fits {b : Int} {s : RS} {acc : List Int} (hx : s.vint.2 < blw b acc) : (fallF b).f s acc = (s.vint.1, blw b acc - 1 - s.vint.2) := by
  show (if s.vint.1.code = 0 ∧ blw b acc ≤ s.vint.2 then (s.vint.1.fail 13 s.at_, (0 : Int)) else (s.vint.1, blw b acc - 1 - s.vint.2)) = _
  rw [if_neg (by omega)]
theorem fallF_bad {b : Int} {s : RS} {acc : List Int} (hc : ¬ s.vint.1.code = 0) : ((fallF b).f s acc).1 = s.vint.1 := by
  show (if s.vint.1.code = 0 ∧ blw b acc ≤ s.vint.2 then (s.vint.1.fail 13 s.at_, (0 : Int)) else (s.vint.1, blw b acc - 1 - s.vint.2)).1 = _
  rw [if_neg fun h => hc h.1]
/-- What is borne in the reference's loop: below, too. -/
def FOn (b : Int) (u : RS) (N : Nat) (a : (RS × List Int) × Int) : Prop := (fallF b).On2 u N a.1 ∧ (a.1.1.code = 0 → (fallF b).On u N a.1 ∧ a.2 = blw b a.1.2)
theorem live22_w : (WS.new 9).fall 100 [99, 90, 0] = ⟨9, [3, 0, 8, 89], 0⟩ := by kernel_rfl
end Go.Proofs.Ytkhnfleejgfhgaa
end
