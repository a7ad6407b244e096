/-
  Contracts of chapter 6: bytes with their number, lists, fixed numbers.
  Contracts of chapter 6: lists; the reference's.
  Contracts of chapter 6: the reference's; fixed numbers written; live.
  Contracts of the pen's fixed numbers; live of chapter 6.
-/
import Derived.Test.YtkhnfleejgfhgaaQ3
import Derived.Test.YtkhnfleejgfhgaaP3
set_option linter.all false
set_option linter.unusedSimpArgs false
set_option linter.unusedVariables false
set_option linter.unnecessarySimpa false
section
namespace Go.Proofs.Ytkhnfleejgfhgaa
open Go.RowKit

theorem mx0 (n : Int) : (if (0 : Int) > n then 0 else n) = max n 0 := by split <;> omega
theorem mn (n k : Int) : (if k < n then k else n) = min n k := by split <;> omega
theorem len_u64 {β : Type} (b : List β) (h : b.length < 18446744073709551616) : IntKind.u64.wrap (b.length : Int) = (b.length : Int) := IntWalk.u64_in _ (by omega)
theorem i64_succ (k : Nat) (h : k < 140737488355329) : IntKind.i64.wrap ((k : Int) + 1) = ((k + 1 : Nat) : Int) := by rw [IntWalk.i64_in _ (by omega)]; omega

theorem or_join256 (i : Nat) (hi : i ≤ 7) (x c : Int) (h0 : 0 ≤ x) (h1 : x < 256 ^ i) (c0 : 0 ≤ c) (c1 : c < 256) :
    bitsI .or .u64 x (IntKind.u64.wrap (IntKind.u64.wrap c * 2 ^ min (8 * (i : Int)).toNat 64)) = x + 256 ^ i * c := by
  obtain ⟨n, rfl⟩ := Int.eq_ofNat_of_zero_le c0
  obtain ⟨m, rfl⟩ := Int.eq_ofNat_of_zero_le h0
  have e2 : min (8 * (i : Int)).toNat 64 = 8 * i := by omega
  have e1 : IntKind.u64.wrap (n : Int) = n := IntWalk.u64_in _ (by omega)
  have hp : (2 : Int) ^ (8 * i) = 256 ^ i := by rw [Int.pow_mul]; rfl
  have hpos : (0 : Int) < 256 ^ i := Int.pow_pos (by omega)
  have hcast : ((256 ^ i : Nat) : Int) = 256 ^ i := by rw [Int.natCast_pow]; rfl
  have h1' : m < 256 ^ i := by omega
  have hB : n * 256 ^ i < 18446744073709551616 := by
    have : i = 0 ∨ i = 1 ∨ i = 2 ∨ i = 3 ∨ i = 4 ∨ i = 5 ∨ i = 6 ∨ i = 7 := by omega
    rcases this with rfl | rfl | rfl | rfl | rfl | rfl | rfl | rfl <;> simp <;> omega
  have hm : (m : Int) < 18446744073709551616 := by
    have : i = 0 ∨ i = 1 ∨ i = 2 ∨ i = 3 ∨ i = 4 ∨ i = 5 ∨ i = 6 ∨ i = 7 := by omega
    rcases this with rfl | rfl | rfl | rfl | rfl | rfl | rfl | rfl <;> simp at h1 <;> omega
  have e0 : (n : Int) * 256 ^ i = ((n * 256 ^ i : Nat) : Int) := by rw [Int.natCast_mul, hcast]
  have e3 : IntKind.u64.wrap ((n : Int) * 2 ^ (8 * i)) = ((n * 256 ^ i : Nat) : Int) := by
    rw [hp, e0]
    exact IntWalk.u64_in _ (by omega)
  rw [e2, e1, e3]
  show bits .or .u64 (m : Int) _ = _
  rw [u64_or_nat m _ (by omega) hB]
  have e4 : m ||| n * 256 ^ i = n * 256 ^ i + m := by
    rw [Nat.or_comm]
    have q : (2 : Nat) ^ (8 * i) = 256 ^ i := by rw [Nat.pow_mul]
    exact nat_join (8 * i) _ _ (by rw [q]; exact Nat.mul_mod_left _ _) (by rw [q]; exact h1')
  rw [e4, Int.natCast_add, ← e0, Int.mul_comm, Int.add_comm]
theorem fix_take (b : List Int) (k : Nat) (h : k < b.length) : fixOf (b.take (k + 1)) = fixOf (b.take k) + 256 ^ k * b.getD k 0 := by
  have hl : (b.take k).length = k := by simp; omega
  rw [take_snoc b k h, fixOf_snoc, hl]
end Go.Proofs.Ytkhnfleejgfhgaa
end
section
namespace Go.Proofs.Ytkhnfleejgfhgaa
open Go.RowKit

theorem take_puts (s : WS) (l : List Int) (k : Nat) (h : k < l.length) : (s.puts (l.take k)).put (vb (l.getD k 0)) = s.puts (l.take (k + 1)) := by
  rw [take_snoc l k h, puts_snoc]
end Go.Proofs.Ytkhnfleejgfhgaa
end
section
namespace Go.Proofs.Ytkhnfleejgfhgaa
open Go.RowKit

theorem take_vbs (l : List Int) (k : Nat) (h : k < l.length) : vbs (l.take k) ++ vb (l.getD k 0) = vbs (l.take (k + 1)) := by
  rw [take_snoc l k h, vbs_snoc]
theorem fix_horner (b : List Int) (k : Nat) (h : k < b.length) : fixOf (b.drop k) = b.getD k 0 + 256 * fixOf (b.drop (k + 1)) := by
  rw [drop_getD h]; rfl
theorem bys_drop {b : List Int} (h : Bys b) (k : Nat) : Bys (b.drop k) := fun x hx => h x (List.mem_of_mem_drop hx)
theorem pow_le8 (k : Nat) (h : k ≤ 8) : (256 : Int) ^ k ≤ 18446744073709551616 := by
  have : k = 0 ∨ k = 1 ∨ k = 2 ∨ k = 3 ∨ k = 4 ∨ k = 5 ∨ k = 6 ∨ k = 7 ∨ k = 8 := by omega
  rcases this with rfl | rfl | rfl | rfl | rfl | rfl | rfl | rfl | rfl <;> simp
end Go.Proofs.Ytkhnfleejgfhgaa
end
section
namespace Go.Proofs.Ytkhnfleejgfhgaa
open Go.RowKit

theorem div_pow (x : Int) (k : Nat) : x / 256 ^ k / 256 = x / 256 ^ (k + 1) := by
  have hp : (0 : Int) < 256 ^ k := Int.pow_pos (by omega)
  rw [Int.ediv_ediv_of_nonneg (by omega), Int.pow_succ]
theorem live06_w : ((((WS.new 9).put (vb 2)).put [7, 8]).put (vb 2)).puts [300, 1] = ⟨9, [2, 7, 8, 2, 172, 2, 1], 0⟩ := by kernel_rfl
end Go.Proofs.Ytkhnfleejgfhgaa
end
