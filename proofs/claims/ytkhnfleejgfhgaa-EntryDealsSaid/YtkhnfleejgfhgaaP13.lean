/-
  Plain laws of bits: numbers of 32 and of 8 digits; bytes some of whose digits are turned, and that a sum tells it. No program.
-/
import Derived.IntWalk
import Derived.Test.YtkhnfleejgfhgaaA3
import Derived.Test.YtkhnfleejgfhgaaP10
set_option linter.all false
set_option linter.unusedSimpArgs false
set_option linter.unusedVariables false
set_option linter.unnecessarySimpa false
namespace Go.Proofs.Ytkhnfleejgfhgaa
open Go.RowKit

theorem ofInt_nat (n a : Nat) (h : a < 2 ^ n) : (BitVec.ofInt n (a : Int)).toNat = a := by
  rw [BitVec.toNat_ofInt, ← Int.natCast_emod, Int.toNat_natCast, Nat.mod_eq_of_lt h]
theorem xor32 (a b : Nat) (ha : a < 4294967296) (hb : b < 4294967296) : bitsI .xor .u32 a b = ((a ^^^ b : Nat) : Int) := by
  show IntKind.u32.wrap ((BitVec.ofInt 32 (a : Int) ^^^ BitVec.ofInt 32 (b : Int)).toNat : Int) = _
  have h : a ^^^ b < 2 ^ 32 := Nat.xor_lt_two_pow (by omega) (by omega)
  rw [BitVec.toNat_xor, ofInt_nat 32 a (by omega), ofInt_nat 32 b (by omega), IntWalk.u32_in _ (by omega)]
theorem and32 (a b : Nat) (ha : a < 4294967296) (hb : b < 4294967296) : bitsI .and .u32 a b = ((a &&& b : Nat) : Int) := by
  show IntKind.u32.wrap ((BitVec.ofInt 32 (a : Int) &&& BitVec.ofInt 32 (b : Int)).toNat : Int) = _
  have h : a &&& b < 2 ^ 32 := Nat.and_lt_two_pow a (by omega)
  rw [BitVec.toNat_and, ofInt_nat 32 a (by omega), ofInt_nat 32 b (by omega), IntWalk.u32_in _ (by omega)]
theorem xor8 (a b : Nat) (ha : a < 256) (hb : b < 256) : bitsI .xor .u8 a b = ((a ^^^ b : Nat) : Int) := by
  show IntKind.u8.wrap ((BitVec.ofInt 8 (a : Int) ^^^ BitVec.ofInt 8 (b : Int)).toNat : Int) = _
  have h : a ^^^ b < 2 ^ 8 := Nat.xor_lt_two_pow (by omega) (by omega)
  rw [BitVec.toNat_xor, ofInt_nat 8 a (by omega), ofInt_nat 8 b (by omega), IntWalk.u8_in _ (by omega)]
theorem and1 (a : Nat) (ha : a < 4294967296) : bitsI .and .u32 a 1 = ((a % 2 : Nat) : Int) := by
  have := and32 a 1 ha (by omega)
  rw [Nat.and_one_is_mod] at this; exact this
theorem and15 (a : Nat) (ha : a < 4294967296) : bitsI .and .u32 a 15 = ((a % 16 : Nat) : Int) := by
  have := and32 a 15 ha (by omega)
  rw [show (15 : Nat) = 2 ^ 4 - 1 from rfl, Nat.and_two_pow_sub_one_eq_mod] at this; exact this
theorem full_xor (a : Nat) (ha : a < 4294967296) : 4294967295 ^^^ a = 4294967295 - a := by
  apply Nat.eq_of_testBit_eq
  intro i
  rw [Nat.testBit_xor, show (4294967295 : Nat) = 2 ^ 32 - 1 from rfl, Nat.testBit_two_pow_sub_one, show 2 ^ 32 - 1 - a = 2 ^ 32 - (a + 1) from by omega, Nat.testBit_two_pow_sub_succ (by omega)]
  by_cases hi : i < 32
  · simp [hi]
  · have : a.testBit i = false := Nat.testBit_lt_two_pow (Nat.lt_of_lt_of_le (show a < 2 ^ 32 by omega) (Nat.pow_le_pow_right (by omega) (by omega)))
    simp [hi, this]
theorem not32 (a : Nat) (ha : a < 4294967296) : bitsI .xor .u32 4294967295 a = 4294967295 - (a : Int) := by
  have h := xor32 4294967295 a (by omega) ha
  rw [full_xor a ha] at h
  refine h.trans ?_
  omega
theorem shr32 (a k : Nat) : (a : Int).fdiv (2 ^ k) = ((a / 2 ^ k : Nat) : Int) := by
  rw [Int.fdiv_eq_ediv_of_nonneg _ (by exact_mod_cast Nat.zero_le _)]
  simp

/-- A byte, some of whose first digits are turned. -/
def tbyte (x : Nat) (f : Nat → Bool) : Nat → Nat
  | 0 => x
  | j + 1 => if f j = true then tbyte x f j ^^^ 2 ^ j else tbyte x f j
theorem tbyte_lt {x : Nat} (h : x < 256) (f : Nat → Bool) : ∀ j, j ≤ 8 → tbyte x f j < 256 := by
  intro j
  induction j with
  | zero => intro _; exact h
  | succ j ih =>
    intro hj
    have := ih (by omega)
    unfold tbyte
    split
    · have h2 : (2 : Nat) ^ j < 2 ^ 8 := Nat.pow_lt_pow_right (by omega) (by omega)
      have : tbyte x f j ^^^ 2 ^ j < 2 ^ 8 := Nat.xor_lt_two_pow (by omega) h2
      omega
    · exact this
theorem tbyte_bit (x : Nat) (f : Nat → Bool) : ∀ (n i : Nat), (tbyte x f n).testBit i = (x.testBit i ^^ (decide (i < n) && f i)) := by
  intro n
  induction n with
  | zero => intro i; simp [tbyte]
  | succ n ih =>
    intro i
    unfold tbyte
    by_cases hf : f n = true
    · rw [if_pos hf, Nat.testBit_xor, ih, Nat.testBit_two_pow]
      by_cases hi : i = n
      · subst hi; simp [hf]
      · have e1 : decide (n = i) = false := by simpa using fun h => hi h.symm
        have e2 : decide (i < n + 1) = decide (i < n) := by rw [decide_eq_decide]; omega
        rw [e1, e2]; simp
    · rw [if_neg hf, ih]
      by_cases hi : i = n
      · subst hi; simp at hf; simp [hf]
      · have e2 : decide (i < n + 1) = decide (i < n) := by rw [decide_eq_decide]; omega
        rw [e2]
/-- Is the digit at a place turned? -/
def isT (at_ : Int) (d : Nat) (i : Nat) : Bool := decide (at_ ≤ i ∧ i < at_ + 32) && d.testBit ((i : Int) - at_).toNat
/-- Bytes some of whose digits are turned. -/
def turnN (l : List Nat) (at_ : Int) (d : Nat) : List Nat := (List.range l.length).map fun k => tbyte (l.getD k 0) (fun j => isT at_ d (8 * k + j)) 8
def turnB (l : List Int) (at_ : Int) (d : Nat) : List Int := (turnN (nats l) at_ d).map fun (n : Nat) => (n : Int)
theorem nats_len (l : List Int) : (nats l).length = l.length := by simp [nats]
theorem turnN_len (l : List Nat) (at_ : Int) (d : Nat) : (turnN l at_ d).length = l.length := by simp [turnN]
theorem turnB_len (l : List Int) (at_ : Int) (d : Nat) : (turnB l at_ d).length = l.length := by simp [turnB, turnN_len, nats_len]
theorem nats_getD (l : List Int) (k : Nat) : (nats l).getD k 0 = (l.getD k 0).toNat := by
  simp only [nats, List.getD_eq_getElem?_getD, List.getElem?_map]
  cases l[k]? <;> rfl
theorem nats_turn (l : List Int) (at_ : Int) (d : Nat) : nats (turnB l at_ d) = turnN (nats l) at_ d := by
  simp only [nats, turnB, List.map_map]
  rw [show (Int.toNat ∘ fun (n : Nat) => (n : Int)) = id from by funext n; simp]
  simp
theorem nats_append (a b : List Int) : nats (a ++ b) = nats a ++ nats b := by simp [nats]
theorem turnN_lt {l : List Nat} (h : ∀ x ∈ l, x < 256) (at_ : Int) (d : Nat) : ∀ x ∈ turnN l at_ d, x < 256 := by
  intro x hx
  simp only [turnN, List.mem_map, List.mem_range] at hx
  obtain ⟨k, hk, rfl⟩ := hx
  exact tbyte_lt (by simpa [hk] using h _ (List.getElem_mem hk)) _ 8 (Nat.le_refl _)
theorem turnB_bys {l : List Int} (h : Bys l) (at_ : Int) (d : Nat) : Bys (turnB l at_ d) := by
  intro x hx
  simp only [turnB, List.mem_map] at hx
  obtain ⟨n, hn, rfl⟩ := hx
  have := turnN_lt (nats_lt h) at_ d n hn
  omega
theorem nats_back {l : List Int} (h : Bys l) : (nats l).map (fun (n : Nat) => (n : Int)) = l := by
  simp only [nats, List.map_map]
  conv => rhs; rw [← List.map_id l]
  refine List.map_congr_left fun x hx => ?_
  have := h x hx
  simp only [Function.comp_apply, id]; omega

/-- The digits of bytes, one behind the other. -/
def bitsL (l : List Nat) : List Nat := l.flatMap (bitsOf 8)
theorem bitsOf_len (n : Nat) : ∀ x, (bitsOf n x).length = n := by
  induction n with
  | zero => intro x; rfl
  | succ n ih => intro x; simp [bitsOf, ih]
theorem bitsOf_get (n : Nat) : ∀ (x j : Nat), j < n → (bitsOf n x).getD j 0 = (x.testBit j).toNat := by
  induction n with
  | zero => intro x j h; omega
  | succ n ih =>
    intro x j h
    cases j with
    | zero =>
      rw [Nat.testBit_zero]
      simp only [bitsOf, List.getD_cons_zero]
      rcases Nat.mod_two_eq_zero_or_one x with h | h <;> simp [h]
    | succ j =>
      rw [Nat.testBit_succ]
      simp only [bitsOf, List.getD_cons_succ]
      exact ih (x / 2) j (by omega)
theorem bitsL_len (l : List Nat) : (bitsL l).length = 8 * l.length := by
  induction l with
  | nil => rfl
  | cons x l ih =>
    have e : bitsL (x :: l) = bitsOf 8 x ++ bitsL l := by simp [bitsL]
    rw [e, List.length_append, bitsOf_len, ih, List.length_cons]; omega
theorem bitsL_get : ∀ (l : List Nat) (i : Nat), i < 8 * l.length → (bitsL l).getD i 0 = ((l.getD (i / 8) 0).testBit (i % 8)).toNat := by
  intro l
  induction l with
  | nil => intro i h; simp at h
  | cons x l ih =>
    intro i h
    have e : bitsL (x :: l) = bitsOf 8 x ++ bitsL l := by simp [bitsL]
    rw [e, List.getD_eq_getElem?_getD, List.getElem?_append, bitsOf_len]
    by_cases hi : i < 8
    · rw [if_pos hi, ← List.getD_eq_getElem?_getD, bitsOf_get 8 x i hi]
      have e1 : i / 8 = 0 := by omega
      have e2 : i % 8 = i := by omega
      rw [e1, e2]; rfl
    · rw [if_neg hi, ← List.getD_eq_getElem?_getD, ih (i - 8) (by rw [List.length_cons] at h; omega)]
      have e1 : i / 8 = (i - 8) / 8 + 1 := by omega
      have e2 : i % 8 = (i - 8) % 8 := by omega
      rw [e1, e2]; rfl
theorem crcA_bits (l : List Nat) : ∀ (c : Nat), (∀ x ∈ l, x < 256) → crcA c l = cbits c (bitsL l) := by
  induction l with
  | nil => intro c _; rfl
  | cons x l ih =>
    intro c h
    have e : bitsL (x :: l) = bitsOf 8 x ++ bitsL l := by simp [bitsL]
    rw [e, cbits_append, ← csteps_bits 8 c x (h x (List.mem_cons_self ..))]
    exact ih _ fun y hy => h y (List.mem_cons_of_mem _ hy)
theorem bitsOf_mod (n : Nat) : ∀ x y : Nat, bitsOf n (x + 2 ^ n * y) = bitsOf n x := by
  induction n with
  | zero => intro x y; rfl
  | succ n ih =>
    intro x y
    simp only [bitsOf]
    have e : 2 ^ (n + 1) * y = 2 * (2 ^ n * y) := by rw [Nat.pow_succ, Nat.mul_comm (2 ^ n) 2, Nat.mul_assoc]
    rw [e]
    have e1 : (x + 2 * (2 ^ n * y)) % 2 = x % 2 := by omega
    have e2 : (x + 2 * (2 ^ n * y)) / 2 = x / 2 + 2 ^ n * y := by omega
    rw [e1, e2, ih]
theorem bitsOf_add (m : Nat) : ∀ (n x : Nat), bitsOf (m + n) x = bitsOf m x ++ bitsOf n (x / 2 ^ m) := by
  induction m with
  | zero => intro n x; simp [bitsOf]
  | succ m ih =>
    intro n x
    rw [show m + 1 + n = (m + n) + 1 from by omega]
    simp only [bitsOf, List.cons_append]
    rw [ih, Nat.div_div_eq_div_mul, Nat.pow_succ, Nat.mul_comm (2 ^ m) 2]
theorem fix_bits : ∀ {l : List Int}, Bys l → bitsL (nats l) = bitsOf (8 * l.length) (fixOf l).toNat := by
  intro l
  induction l with
  | nil => intro _; rfl
  | cons x l ih =>
    intro h
    have hx := h x (List.mem_cons_self ..)
    have ht := ih fun y hy => h y (List.mem_cons_of_mem _ hy)
    have hr := fixOf_range (l := l) (fun y hy => h y (List.mem_cons_of_mem _ hy))
    have e : bitsL (nats (x :: l)) = bitsOf 8 x.toNat ++ bitsL (nats l) := by simp [bitsL, nats]
    have e2 : (fixOf (x :: l)).toNat = x.toNat + 2 ^ 8 * (fixOf l).toNat := by
      have : fixOf (x :: l) = x + 256 * fixOf l := rfl
      rw [this]; omega
    rw [e, ht, List.length_cons, show 8 * (l.length + 1) = 8 + 8 * l.length from by omega, bitsOf_add, e2, bitsOf_mod]
    congr 2
    omega
/-- The digits that were turned are a burst. -/
theorem turn_diff (l : List Nat) (at_ d : Nat) : List.zipWith (· ^^^ ·) (bitsL (turnN l at_ d)) (bitsL l) =
    List.replicate (min at_ (8 * l.length)) 0 ++ bitsOf (min 32 (8 * l.length - at_)) (d % 2 ^ (min 32 (8 * l.length - at_))) ++ List.replicate (8 * l.length - at_ - 32) 0 := by
  have hlen : (List.zipWith (· ^^^ ·) (bitsL (turnN l at_ d)) (bitsL l)).length = 8 * l.length := by
    rw [List.length_zipWith, bitsL_len, bitsL_len, turnN_len, Nat.min_self]
  have hget : ∀ i, i < 8 * l.length → (List.zipWith (· ^^^ ·) (bitsL (turnN l at_ d)) (bitsL l)).getD i 0 = (isT at_ d i).toNat := by
    intro i hi
    have h1 := bitsL_get (turnN l at_ d) i (by rw [turnN_len]; exact hi)
    have h2 := bitsL_get l i hi
    have g1 : (bitsL (turnN l at_ d))[i]? = some ((bitsL (turnN l at_ d)).getD i 0) := by
      rw [List.getD_eq_getElem?_getD, List.getElem?_eq_getElem (by rw [bitsL_len, turnN_len]; exact hi)]; rfl
    have g2 : (bitsL l)[i]? = some ((bitsL l).getD i 0) := by
      rw [List.getD_eq_getElem?_getD, List.getElem?_eq_getElem (by rw [bitsL_len]; exact hi)]; rfl
    rw [List.getD_eq_getElem?_getD, List.getElem?_zipWith, g1, g2]
    simp only [Option.getD_some]
    rw [h1, h2]
    have h3 : (turnN l at_ d).getD (i / 8) 0 = tbyte (l.getD (i / 8) 0) (fun j => isT at_ d (8 * (i / 8) + j)) 8 := by
      simp [turnN, show i / 8 < l.length by omega]
    rw [h3, tbyte_bit]
    have e1 : decide (i % 8 < 8) = true := by simp; omega
    have e2 : 8 * (i / 8) + i % 8 = i := by omega
    rw [e1, e2]
    cases (l.getD (i / 8) 0).testBit (i % 8) <;> cases isT at_ d i <;> rfl
  refine List.ext_getElem? fun i => ?_
  by_cases hi : i < 8 * l.length
  · have g : (List.zipWith (· ^^^ ·) (bitsL (turnN l at_ d)) (bitsL l))[i]? = some ((isT at_ d i).toNat) := by
      rw [List.getElem?_eq_getElem (by rw [hlen]; exact hi)]
      have := hget i hi
      rw [List.getD_eq_getElem?_getD, List.getElem?_eq_getElem (by rw [hlen]; exact hi)] at this
      simpa using this
    rw [g, List.append_assoc, List.getElem?_append]
    by_cases h1 : i < at_
    · rw [if_pos (by simp; omega)]
      have : isT at_ d i = false := by unfold isT; rw [decide_eq_false (by omega)]; rfl
      rw [this, List.getElem?_replicate, if_pos (by omega)]; rfl
    · rw [if_neg (by simp; omega), List.getElem?_append, bitsOf_len, List.length_replicate]
      have hm : min at_ (8 * l.length) = at_ := by omega
      rw [hm]
      by_cases h2 : i - at_ < min 32 (8 * l.length - at_)
      · rw [if_pos h2]
        have e := bitsOf_get (min 32 (8 * l.length - at_)) (d % 2 ^ (min 32 (8 * l.length - at_))) (i - at_) h2
        rw [List.getD_eq_getElem?_getD, List.getElem?_eq_getElem (by rw [bitsOf_len]; exact h2)] at e
        rw [List.getElem?_eq_getElem (by rw [bitsOf_len]; exact h2)]
        simp only [Option.getD_some] at e
        rw [e, Nat.testBit_mod_two_pow]
        have e2 : isT at_ d i = d.testBit (i - at_) := by
          unfold isT
          have : decide ((at_ : Int) ≤ (i : Int) ∧ (i : Int) < (at_ : Int) + 32) = true := by simp; omega
          rw [this]
          have e3 : ((i : Int) - (at_ : Int)).toNat = i - at_ := by omega
          rw [e3]; rfl
        rw [e2]; simp [h2]
      · rw [if_neg h2]
        have e2 : isT at_ d i = false := by unfold isT; rw [decide_eq_false (by omega)]; rfl
        rw [e2, List.getElem?_replicate, if_pos (by omega)]; rfl
  · rw [List.getElem?_eq_none (by rw [hlen]; omega), List.getElem?_eq_none]
    simp only [List.length_append, List.length_replicate, bitsOf_len]; omega
theorem turn_same {l : List Nat} {at_ d : Nat} (h : d % 2 ^ (min 32 (8 * l.length - at_)) = 0) : turnN l at_ d = l := by
  refine List.ext_getElem? fun k => ?_
  by_cases hk : k < l.length
  · have hz : ∀ j, j < 8 → isT at_ d (8 * k + j) = false := by
      intro j hj
      unfold isT
      by_cases hin : (at_ : Int) ≤ ((8 * k + j : Nat) : Int) ∧ ((8 * k + j : Nat) : Int) < (at_ : Int) + 32
      · have e3 : (((8 * k + j : Nat) : Int) - (at_ : Int)).toNat = 8 * k + j - at_ := by omega
        have hb := congrArg (fun z => z.testBit (8 * k + j - at_)) h
        simp only [Nat.testBit_mod_two_pow, Nat.zero_testBit] at hb
        have : decide (8 * k + j - at_ < min 32 (8 * l.length - at_)) = true := by simp; omega
        rw [this] at hb
        rw [e3]
        simp at hb; simp [hb]
      · have : decide ((at_ : Int) ≤ ((8 * k + j : Nat) : Int) ∧ ((8 * k + j : Nat) : Int) < (at_ : Int) + 32) = false := by simpa using hin
        rw [this]; rfl
    have key : ∀ n, n ≤ 8 → tbyte (l.getD k 0) (fun j => isT at_ d (8 * k + j)) n = l.getD k 0 := by
      intro n
      induction n with
      | zero => intro _; rfl
      | succ n ih => intro hn; unfold tbyte; rw [if_neg (by simp [hz n (by omega)])]; exact ih (by omega)
    have := key 8 (Nat.le_refl _)
    simp only [turnN, List.getElem?_map, List.getElem?_range hk, Option.map_some]
    rw [this]; simp [hk]
  · rw [List.getElem?_eq_none (by rw [turnN_len]; omega), List.getElem?_eq_none (by omega)]
theorem crc_residue {p s : List Int} (hp : Bys p) (hs : Bys s) (h4 : s.length = 4) (h : fixOf s = crcI p) : cbits 4294967295 (bitsL (nats (p ++ s))) = csteps 32 4294967295 := by
  have hA := crcA_lt (c := 4294967295) (by omega) (nats_lt hp)
  have hr := fixOf_range hs
  rw [h4] at hr
  have e : bitsL (nats (p ++ s)) = bitsL (nats p) ++ bitsL (nats s) := by rw [nats_append]; simp [bitsL]
  have hS : (fixOf s).toNat < 2 ^ 32 := by have := hr.2; omega
  rw [e, cbits_append, ← crcA_bits _ _ (nats_lt hp), fix_bits hs, h4, ← csteps_bits 32 _ _ hS]
  congr 1
  have e2 : (fixOf s).toNat = 4294967295 - crcA 4294967295 (nats p) := by rw [h]; unfold crcI; omega
  rw [e2, ← full_xor _ hA, Nat.xor_comm, Nat.xor_assoc, Nat.xor_self, Nat.xor_zero]
/-- A burst in bytes and their sum is told. -/
theorem burst_sum {p s : List Int} (hp : Bys p) (hs : Bys s) (h4 : s.length = 4) (h : fixOf s = crcI p) {at_ d : Nat} (ht : turnB (p ++ s) at_ d ≠ p ++ s) :
    ¬ fixOf ((turnB (p ++ s) at_ d).drop p.length) = crcI ((turnB (p ++ s) at_ d).take p.length) := by
  intro hz
  have hps : Bys (p ++ s) := fun x hx => by rcases List.mem_append.1 hx with hx | hx; exact hp x hx; exact hs x hx
  have hb := turnB_bys hps at_ d
  have r1 := crc_residue hp hs h4 h
  have r2 := crc_residue (p := (turnB (p ++ s) at_ d).take p.length) (s := (turnB (p ++ s) at_ d).drop p.length) (fun x hx => hb x (List.mem_of_mem_take hx)) (fun x hx => hb x (List.mem_of_mem_drop hx)) (by rw [List.length_drop, turnB_len, List.length_append]; omega) hz
  rw [List.take_append_drop, nats_turn] at r2
  have hx := cbits_xor (bitsL (turnN (nats (p ++ s)) at_ d)) (bitsL (nats (p ++ s))) 4294967295 4294967295 (by rw [bitsL_len, bitsL_len, turnN_len])
  rw [r1, r2, Nat.xor_self, Nat.xor_self, turn_diff] at hx
  by_cases h0 : d % 2 ^ (min 32 (8 * (nats (p ++ s)).length - at_)) = 0
  · apply ht
    unfold turnB
    rw [turn_same h0, nats_back hps]
  · exact burst_told (by omega) (Nat.mod_lt _ (Nat.two_pow_pos _)) h0 hx
end Go.Proofs.Ytkhnfleejgfhgaa
