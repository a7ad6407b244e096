/-
  Contracts of zigzag's numbers and lists, and of its reference's.
  Contracts of the functions on rising lists: zigzag.Rises, steps, RisingSize, PutRising, and the reference's Rises.
  Contracts of zigzag.ReadRising and of its reference.
  Contracts of the reference's lists: Same, Bytes; zigzag.Put and Read; live of chapter 5.
-/
import Derived.Test.YtkhnfleejgfhgaaQ1
import Derived.Test.YtkhnfleejgfhgaaP1
set_option linter.all false
set_option linter.unusedSimpArgs false
set_option linter.unusedVariables false
set_option linter.unnecessarySimpa false
section
namespace Go.Proofs.Ytkhnfleejgfhgaa
open Go.RowKit

abbrev lA (n : Int) : AV := .lit (.int .i64 n)
end Go.Proofs.Ytkhnfleejgfhgaa
end
section
namespace Go.Proofs.Ytkhnfleejgfhgaa
open Go.RowKit

abbrev slU (l : List Int) : AV := .sl .none 1 (ints .u64 l)
theorem u64_get (l : List Int) (i : Nat) (h : i < l.length) : (ints .u64 l).getD (i : Int).toNat .any = uA (l.getD i 0) := by
  rw [Int.toNat_natCast]; exact ints_getD .u64 l i h
theorem ints_snoc (k : IntKind) (l : List Int) (z : Int) : ints k l ++ [.lit (.int k z)] = ints k (l ++ [z]) := by simp [ints]
def WS.rising (s : WS) (l : List Int) : WS := if rises l = true then s.puts (stps l l.length) else s.fail 3
end Go.Proofs.Ytkhnfleejgfhgaa
end
section
namespace Go.Proofs.Ytkhnfleejgfhgaa
open Go.RowKit

theorem good_false {s : RS} (h : ¬ s.code = 0) : s.good = false := by simp [RS.good, h]
theorem good_true {s : RS} (h : s.code = 0) : s.good = true := by simp [RS.good, h]
end Go.Proofs.Ytkhnfleejgfhgaa
end
section
namespace Go.Proofs.Ytkhnfleejgfhgaa
open Go.RowKit

abbrev ownA (i : Nat) (l : List Int) : AV := .sl (.row i) 1 (ints .u8 l)
theorem live05_w : (WS.new 9).rising [5, 6, 300] = ⟨9, [5, 0, 165, 2], 0⟩ := by kernel_rfl
end Go.Proofs.Ytkhnfleejgfhgaa
end
