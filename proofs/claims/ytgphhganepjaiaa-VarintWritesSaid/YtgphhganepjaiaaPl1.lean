/-
  Plain laws of a reader and the next number. No program.
-/
import Derived.Test.YtgphhganepjaiaaPl0
namespace Go.Proofs.Ytgphhganepjaiaa
open Go.RowKit

theorem Bys.drop {l : List Int} (h : Bys l) (n : Nat) : Bys (l.drop n) := fun x hx => h x (List.mem_of_mem_drop hx)
theorem or128 : ∀ a : Fin 256, a.val ||| 128 = 128 + a.val % 128 := by decide +kernel
def RS.adv (s : RS) (i : Int) : RS := { s with at_ := s.at_ + i }
def RS.rest (s : RS) : List Int := s.l.drop s.at_.toNat
/-- The reader behind the next number, and that. -/
def RS.vint (s : RS) : RS × Int :=
  if s.code = 0 then
    (if (vgo 0 s.rest).1 = 0 then (s.adv (vgo 0 s.rest).2.1, (vgo 0 s.rest).2.2)
    else if (vgo 0 s.rest).1 = 1 then ({ s with at_ := s.l.length, code := 1, fat := s.l.length }, 0)
    else ({ s with at_ := s.at_ + (vgo 0 s.rest).2.1 + 1, code := (vgo 0 s.rest).1, fat := s.at_ + (vgo 0 s.rest).2.1 }, 0))
  else (s, 0)
/-- As far as i bytes were read, x the number so far. -/
def comb (i : Nat) (x : Int) (q : Int × Int × Int) : Int × Int × Int := (q.1, q.2.1, if q.1 = 0 then x + 128 ^ i * q.2.2 else 0)
def Upto (s : RS) (i : Nat) (x : Int) : Prop := vgo 0 s.rest = comb i x (vgo i (s.rest.drop i))
theorem upto_zero (s : RS) (_hb : Bys s.l) : Upto s 0 0 := by
  unfold Upto
  rw [List.drop_zero]
  have e0 : ((0 : Nat) : Int) = 0 := rfl
  rw [e0]
  have hf := vgo_fault s.rest 0 (Int.le_refl _)
  generalize vgo 0 s.rest = q at *
  obtain ⟨q1, q2, q3⟩ := q
  unfold comb
  simp only [Int.pow_zero, Int.one_mul, Int.zero_add] at *
  by_cases h : q1 = 0
  · rw [if_pos h]
  · rw [if_neg h, (hf h).1]
theorem rest_len (s : RS) (h0 : 0 ≤ s.at_) (h1 : s.at_ ≤ s.l.length) : (s.rest.length : Int) = s.l.length - s.at_ := by
  unfold RS.rest; simp; omega
theorem byte_end (s : RS) (i : Nat) (hc : s.code = 0) (_h0 : 0 ≤ s.at_) (_h1 : s.at_ ≤ s.l.length) (hi : s.at_ + i = s.l.length) :
    (s.adv i).byte = ({ s with at_ := s.l.length, code := 1, fat := s.l.length }, 0) := by
  have e : (s.adv i).skip 1 = ({ s with at_ := s.l.length, code := 1, fat := s.l.length }, false) := by
    unfold RS.skip RS.adv RS.left RS.fail
    simp only [hc, if_true]
    rw [if_neg (by omega), if_pos (by omega), hi]
    simp [flt]
  unfold RS.byte
  rw [e]; simp
theorem byte_bad (s : RS) (hc : s.code ≠ 0) : (s.adv 0).byte = (s, 0) := by
  have e0 : s.adv 0 = s := by unfold RS.adv; simp
  rw [e0]
  have e : s.skip 1 = (s, false) := by unfold RS.skip; rw [if_neg hc]
  unfold RS.byte
  rw [e]; simp
theorem byte_good (s : RS) (i : Nat) (c : Int) (t : List Int) (hc : s.code = 0) (h0 : 0 ≤ s.at_) (h1 : s.at_ ≤ s.l.length) (hd : s.rest.drop i = c :: t) :
    (s.adv i).byte = (s.adv (i + 1), c) ∧ s.at_ + i + 1 ≤ s.l.length := by
  have hlen : i < s.rest.length := by
    rcases Nat.lt_or_ge i s.rest.length with h | h
    · exact h
    · rw [List.drop_eq_nil_of_le h] at hd; cases hd
  have hl := rest_len s h0 h1
  have e : (s.adv i).skip 1 = (s.adv (i + 1), true) := by
    unfold RS.skip RS.adv RS.left
    simp only [hc, if_true]
    rw [if_neg (by omega), if_neg (by omega)]
    simp [Int.add_assoc]
  unfold RS.byte
  rw [e]
  simp only [if_true]
  refine ⟨?_, by omega⟩
  have : (s.adv i).l.getD (s.adv i).at_.toNat 0 = c := by
    unfold RS.adv RS.rest at *
    simp only
    rw [List.drop_drop] at hd
    have e2 : (s.at_ + (i : Int)).toNat = s.at_.toNat + i := by omega
    rw [e2]
    have := congrArg (fun l => l[0]?) hd
    simp at this
    simp [this]
  rw [this]
theorem vint_bad {s : RS} (hc : s.code ≠ 0) : s.vint = (s, 0) := by unfold RS.vint; rw [if_neg hc]
theorem vint_end {s : RS} {i : Nat} {x : Int} (hc : s.code = 0) (hu : Upto s i x) (hd : s.rest.drop i = []) : s.vint = ({ s with at_ := s.l.length, code := 1, fat := s.l.length }, 0) := by
  unfold Upto at hu
  rw [hd] at hu
  unfold RS.vint
  rw [if_pos hc, hu]
  simp [comb, vgo]
theorem vint_over {s : RS} {i : Nat} {x c : Int} {t : List Int} (hc : s.code = 0) (hu : Upto s i x) (hd : s.rest.drop i = c :: t) (h9 : i = 9) (h1 : 1 < c) :
    s.vint = ((s.adv (i + 1)).fail 5 (s.at_ + i), 0) := by
  have hq : vgo i (c :: t) = (5, (i : Int), 0) := by simp only [vgo]; rw [if_pos (by omega)]
  unfold Upto at hu
  rw [hd, hq] at hu
  unfold RS.vint
  rw [if_pos hc, hu]
  simp [comb, RS.fail, RS.adv, hc, flt, Int.add_assoc]
theorem vint_min {s : RS} {i : Nat} {x : Int} {t : List Int} (hc : s.code = 0) (hu : Upto s i x) (hd : s.rest.drop i = 0 :: t) (h9 : 0 < i) :
    s.vint = ((s.adv (i + 1)).fail 4 (s.at_ + i), 0) := by
  have hq : vgo i (0 :: t) = (4, (i : Int), 0) := by unfold vgo; rw [if_neg (by omega), if_pos ⟨by omega, rfl⟩]
  unfold Upto at hu
  rw [hd, hq] at hu
  unfold RS.vint
  rw [if_pos hc, hu]
  simp [comb, RS.fail, RS.adv, hc, flt, Int.add_assoc]
theorem vint_last {s : RS} {i : Nat} {x c : Int} {t : List Int} (hc : s.code = 0) (hu : Upto s i x) (hd : s.rest.drop i = c :: t) (h9 : ¬ (i = 9 ∧ 1 < c)) (h1 : ¬ (0 < i ∧ c = 0)) (h2 : c < 128) :
    s.vint = (s.adv (i + 1), x + 128 ^ i * c) := by
  have hq : vgo i (c :: t) = (0, (i : Int) + 1, c) := by simp only [vgo]; rw [if_neg (by omega), if_neg (by omega), if_pos h2]
  unfold Upto at hu
  rw [hd, hq] at hu
  unfold RS.vint
  rw [if_pos hc, hu]
  simp [comb, RS.adv, hc]
theorem upto_more {s : RS} {i : Nat} {x c : Int} {t : List Int} (hu : Upto s i x) (hd : s.rest.drop i = c :: t) (h9 : ¬ (i = 9 ∧ 1 < c)) (h1 : ¬ (0 < i ∧ c = 0)) (h2 : ¬ c < 128) :
    Upto s (i + 1) (x + 128 ^ i * (c % 128)) ∧ s.rest.drop (i + 1) = t := by
  have e : s.rest.drop (i + 1) = t := by rw [← List.drop_drop, hd]; rfl
  refine ⟨?_, e⟩
  have hq : vgo i (c :: t) = ((vgo (i + 1) t).1, (vgo (i + 1) t).2.1, if (vgo (i + 1) t).1 = 0 then c % 128 + 128 * (vgo (i + 1) t).2.2 else 0) := by
    simp only [vgo]; rw [if_neg (by omega), if_neg (by omega), if_neg h2]
  unfold Upto at *
  rw [hd, hq] at hu
  rw [e, hu]
  have ei : ((i + 1 : Nat) : Int) = (i : Int) + 1 := by omega
  rw [ei]
  generalize vgo ((i : Int) + 1) t = q
  obtain ⟨q1, q2, q3⟩ := q
  unfold comb
  simp only
  by_cases h : q1 = 0
  · rw [if_pos h, if_pos h, if_pos h, Int.pow_succ, Int.mul_add, Int.mul_assoc, Int.add_assoc]
  · rw [if_neg h, if_neg h]
theorem or_join (i : Nat) (hi : i ≤ 9) (x c : Int) (h0 : 0 ≤ x) (h1 : x < 128 ^ i) (c0 : 0 ≤ c) (c1 : c < 128) (c2 : i = 9 → c ≤ 1) :
    bits .or .u64 x (IntKind.u64.wrap (c * 2 ^ (7 * i))) = x + 128 ^ i * c ∧ x + 128 ^ i * c < 128 ^ (i + 1) ∧ 0 ≤ x + 128 ^ i * c := by
  obtain ⟨n, rfl⟩ := Int.eq_ofNat_of_zero_le c0
  obtain ⟨m, rfl⟩ := Int.eq_ofNat_of_zero_le h0
  have hp : (2 : Int) ^ (7 * i) = 128 ^ i := by rw [Int.pow_mul]; rfl
  have hpos : (0 : Int) < 128 ^ i := Int.pow_pos (by omega)
  have hcast : ((128 ^ i : Nat) : Int) = 128 ^ i := by rw [Int.natCast_pow]; rfl
  have h1' : m < 128 ^ i := by omega
  have hB : n * 128 ^ i < 18446744073709551616 := by
    have : i = 0 ∨ i = 1 ∨ i = 2 ∨ i = 3 ∨ i = 4 ∨ i = 5 ∨ i = 6 ∨ i = 7 ∨ i = 8 ∨ i = 9 := by omega
    rcases this with rfl | rfl | rfl | rfl | rfl | rfl | rfl | rfl | rfl | rfl <;> simp at c2 ⊢ <;> omega
  have hm : (m : Int) < 18446744073709551616 := by
    have : i = 0 ∨ i = 1 ∨ i = 2 ∨ i = 3 ∨ i = 4 ∨ i = 5 ∨ i = 6 ∨ i = 7 ∨ i = 8 ∨ i = 9 := by omega
    rcases this with rfl | rfl | rfl | rfl | rfl | rfl | rfl | rfl | rfl | rfl <;> simp at h1 <;> omega
  have e0 : (n : Int) * 128 ^ i = ((n * 128 ^ i : Nat) : Int) := by rw [Int.natCast_mul, hcast]
  have e1 : IntKind.u64.wrap ((n : Int) * 2 ^ (7 * i)) = ((n * 128 ^ i : Nat) : Int) := by
    rw [hp, e0]
    simp [IntKind.wrap, IntKind.bits, IntKind.signed]
    omega
  rw [e1, u64_or_nat m _ (by omega) hB]
  have e2 : m ||| n * 128 ^ i = n * 128 ^ i + m := by
    rw [Nat.or_comm]
    have q : (2 : Nat) ^ (7 * i) = 128 ^ i := by rw [Nat.pow_mul]
    exact nat_join (7 * i) _ _ (by rw [q]; exact Nat.mul_mod_left _ _) (by rw [q]; exact h1')
  rw [e2]
  have e3 : ((n * 128 ^ i + m : Nat) : Int) = (m : Int) + 128 ^ i * (n : Int) := by
    rw [Int.natCast_add, ← e0, Int.mul_comm, Int.add_comm]
  refine ⟨e3, ?_, ?_⟩
  · rw [Int.pow_succ]
    have : (128 : Int) ^ i * n ≤ 128 ^ i * 127 := Int.mul_le_mul_of_nonneg_left (by omega) (by omega)
    omega
  · have : (0 : Int) ≤ 128 ^ i * n := Int.mul_nonneg (by omega) (by omega)
    omega


def RS.most (s : RS) (m : Int) : RS × Int := if m < s.vint.2 then (s.vint.1.fail 2 s.at_, 0) else s.vint
def RS.int (s : RS) (m : Int) : RS × Int := if 0 ≤ m then s.most m else (s.vint.1.fail 2 s.at_, 0)

theorem vint_range {s : RS} (hb : Bys s.l) : 0 ≤ s.vint.2 ∧ s.vint.2 < 18446744073709551616 := by
  unfold RS.vint
  split
  · split
    · rename_i h1 h2
      have := vgo_back (l := s.rest) (hb.drop _) h2
      exact ⟨this.2.2.2.1, this.2.2.2.2⟩
    · split <;> simp
  · simp

theorem most_range {s : RS} {m : Int} (hb : Bys s.l) (h0 : 0 ≤ m) : 0 ≤ (s.most m).2 ∧ (s.most m).2 ≤ m := by
  have := vint_range hb
  unfold RS.most
  split
  · simp; exact h0
  · omega

theorem new_rest (l : List Int) : (RS.new l).rest = l := by simp [RS.rest, RS.new]
theorem vint_new_good {l : List Int} (h : (vgo 0 l).1 = 0) : (RS.new l).vint = ((RS.new l).adv (vgo 0 l).2.1, (vgo 0 l).2.2) := by
  unfold RS.vint; rw [new_rest, if_pos (show (RS.new l).code = 0 from rfl), if_pos h]
theorem vint_new_bad {l : List Int} (h : (vgo 0 l).1 ≠ 0) : (RS.new l).vint.1.code = (vgo 0 l).1 ∧ (RS.new l).vint.1.fat = (vgo 0 l).2.1 ∧ (RS.new l).vint.2 = 0 := by
  unfold RS.vint; rw [new_rest, if_pos (show (RS.new l).code = 0 from rfl), if_neg h]
  have hf := vgo_fault l 0 (Int.le_refl _) h
  by_cases h1 : (vgo 0 l).1 = 1
  · rw [if_pos h1]
    rcases hf.2.2 with ⟨_, e⟩ | ⟨e, _⟩
    · refine ⟨h1.symm, ?_, rfl⟩; simp only [RS.new]; omega
    · omega
  · rw [if_neg h1]; exact ⟨rfl, by simp [RS.new], rfl⟩

end Go.Proofs.Ytgphhganepjaiaa
