/-
  Plain laws of the sum of bytes: its steps are linear, and tell a burst. No program.
-/
import Derived.Test.YtkhnfleejgfhgaaP2
set_option linter.all false
set_option linter.unusedSimpArgs false
set_option linter.unusedVariables false
set_option linter.unnecessarySimpa false
namespace Go.Proofs.Ytkhnfleejgfhgaa

def cstep (c : Nat) : Nat := if c % 2 = 1 then (c / 2) ^^^ 2197175160 else c / 2
def csteps : Nat → Nat → Nat
  | 0, c => c
  | n + 1, c => csteps n (cstep c)
theorem xor_mod2 (a b : Nat) : (a ^^^ b) % 2 = (a % 2 + b % 2) % 2 := by
  have h : (a ^^^ b) % 2 ^ 1 = (a % 2 ^ 1) ^^^ (b % 2 ^ 1) := Nat.xor_mod_two_pow
  rw [Nat.pow_one] at h
  rw [h]
  rcases Nat.mod_two_eq_zero_or_one a with ha | ha <;> rcases Nat.mod_two_eq_zero_or_one b with hb | hb <;> rw [ha, hb] <;> rfl
theorem nxl (a b c : Nat) : a ^^^ (b ^^^ c) = b ^^^ (a ^^^ c) := by rw [← Nat.xor_assoc, Nat.xor_comm a b, Nat.xor_assoc]
theorem cstep_xor (a b : Nat) : cstep (a ^^^ b) = cstep a ^^^ cstep b := by
  have hm := xor_mod2 a b
  have hd : (a ^^^ b) / 2 = a / 2 ^^^ b / 2 := Nat.xor_div_two
  unfold cstep
  rw [hd]
  rcases Nat.mod_two_eq_zero_or_one a with ha | ha <;> rcases Nat.mod_two_eq_zero_or_one b with hb | hb <;> rw [ha, hb] at hm <;> simp only [hm, ha, hb]
  · simp
  · simp [Nat.xor_assoc]
  · simp only [if_pos, Nat.reduceAdd, Nat.reduceMod]
    simp [Nat.xor_assoc]
    rw [Nat.xor_comm (b / 2)]
  · simp [Nat.xor_assoc, nxl]
    rw [Nat.xor_comm (a / 2)]
theorem csteps_xor (n : Nat) : ∀ a b : Nat, csteps n (a ^^^ b) = csteps n a ^^^ csteps n b := by
  induction n with
  | zero => intro a b; rfl
  | succ n ih => intro a b; simp only [csteps, cstep_xor, ih]
theorem cstep_two (m : Nat) : cstep (2 * m) = m := by
  unfold cstep
  rw [if_neg (by omega)]; omega
theorem csteps_pow (n : Nat) : ∀ m : Nat, csteps n (2 ^ n * m) = m := by
  induction n with
  | zero => intro m; simp [csteps]
  | succ n ih =>
    intro m
    rw [csteps, Nat.pow_succ, show 2 ^ n * 2 * m = 2 * (2 ^ n * m) from by rw [Nat.mul_comm (2 ^ n) 2, Nat.mul_assoc], cstep_two, ih]
theorem cstep_lt {c : Nat} (h : c < 4294967296) : cstep c < 4294967296 := by
  unfold cstep
  split
  · have : c / 2 ^^^ 2197175160 < 2 ^ 32 := Nat.xor_lt_two_pow (by omega) (by omega)
    simpa using this
  · omega
theorem csteps_lt (n : Nat) : ∀ {c : Nat}, c < 4294967296 → csteps n c < 4294967296 := by
  induction n with
  | zero => intro c h; exact h
  | succ n ih => intro c h; exact ih (cstep_lt h)
theorem cstep_zero {c : Nat} (h : c < 4294967296) (hz : cstep c = 0) : c = 0 := by
  unfold cstep at hz
  split at hz
  · have : c / 2 = 2197175160 := by
      have := congrArg (· ^^^ 2197175160) hz
      simpa [Nat.xor_assoc] using this
    omega
  · omega
theorem csteps_zero (n : Nat) : ∀ {c : Nat}, c < 4294967296 → csteps n c = 0 → c = 0 := by
  induction n with
  | zero => intro c _ h; exact h
  | succ n ih => intro c h hz; exact cstep_zero h (ih (cstep_lt h) hz)
theorem csteps_nought (n : Nat) : csteps n 0 = 0 := by
  induction n with
  | zero => rfl
  | succ n ih => rw [csteps]; exact ih
theorem csteps_add (m : Nat) : ∀ (n c : Nat), csteps (m + n) c = csteps n (csteps m c) := by
  induction m with
  | zero => intro n c; simp [csteps]
  | succ m ih => intro n c; rw [show m + 1 + n = (m + n) + 1 from by omega, csteps, ih, csteps]
theorem split_xor (n c : Nat) : c = (2 ^ n * (c / 2 ^ n)) ^^^ (c % 2 ^ n) := by
  apply Nat.eq_of_testBit_eq
  intro i
  rw [Nat.testBit_xor, Nat.testBit_mod_two_pow, Nat.mul_comm, Nat.testBit_mul_two_pow, Nat.testBit_div_two_pow]
  by_cases h : i < n
  · simp [h, show ¬ n ≤ i by omega]
  · simp [h, show n ≤ i by omega, show i - n + n = i by omega]
/-- Four steps by a table of sixteen. -/
theorem csteps_half (c : Nat) : csteps 4 c = (c / 16) ^^^ csteps 4 (c % 16) := by
  have h := split_xor 4 c
  conv => lhs; rw [h]
  rw [csteps_xor, csteps_pow]
def cinto (c x : Nat) : Nat := csteps 8 (c ^^^ x)
theorem cinto_half (c x : Nat) : cinto c x = csteps 4 (csteps 4 (c ^^^ x)) := csteps_add 4 4 _
def crcA (c : Nat) (l : List Nat) : Nat := l.foldl cinto c
theorem crcA_snoc (c : Nat) (l : List Nat) (x : Nat) : crcA c (l ++ [x]) = cinto (crcA c l) x := by simp [crcA]
theorem cinto_lt {c x : Nat} (h : c < 4294967296) (hx : x < 256) : cinto c x < 4294967296 := by
  have : c ^^^ x < 2 ^ 32 := Nat.xor_lt_two_pow (by omega) (by omega)
  exact csteps_lt 8 (by simpa using this)
theorem crcA_lt {c : Nat} (h : c < 4294967296) : ∀ {l : List Nat}, (∀ x ∈ l, x < 256) → crcA c l < 4294967296 := by
  intro l
  induction l generalizing c with
  | nil => intro _; exact h
  | cons x l ih => intro hl; exact ih (cinto_lt h (hl x (List.mem_cons_self ..))) fun y hy => hl y (List.mem_cons_of_mem _ hy)
/-- Bit by bit. -/
def cbits (c : Nat) (l : List Nat) : Nat := l.foldl (fun c b => cstep (c ^^^ b)) c
def bitsOf : Nat → Nat → List Nat
  | 0, _ => []
  | n + 1, x => x % 2 :: bitsOf n (x / 2)
theorem cbits_append (c : Nat) (l m : List Nat) : cbits c (l ++ m) = cbits (cbits c l) m := by simp [cbits]
theorem csteps_bits (n : Nat) : ∀ (c x : Nat), x < 2 ^ n → csteps n (c ^^^ x) = cbits c (bitsOf n x) := by
  induction n with
  | zero => intro c x h; have : x = 0 := by simpa using h
            subst this; simp [csteps, cbits, bitsOf]
  | succ n ih =>
    intro c x h
    have hx := split_xor 1 x
    rw [Nat.pow_succ] at h
    have e : c ^^^ x = (c ^^^ x % 2) ^^^ (2 * (x / 2)) := by
      conv => lhs; rw [hx]
      simp only [Nat.pow_one]
      rw [Nat.xor_comm (2 * (x / 2)), ← Nat.xor_assoc]
    rw [csteps, e, cstep_xor, cstep_two, ih _ _ (by omega)]
    rfl
theorem cbits_xor : ∀ (l m : List Nat) (c d : Nat), l.length = m.length → cbits (c ^^^ d) (List.zipWith (· ^^^ ·) l m) = cbits c l ^^^ cbits d m := by
  intro l
  induction l with
  | nil => intro m c d h; cases m with
    | nil => rfl
    | cons => simp at h
  | cons x l ih =>
    intro m c d h
    cases m with
    | nil => simp at h
    | cons y m =>
      simp only [List.length_cons, Nat.add_right_cancel_iff] at h
      have := ih m (cstep (c ^^^ x)) (cstep (d ^^^ y)) h
      rw [← cstep_xor] at this
      have e : (c ^^^ x) ^^^ (d ^^^ y) = (c ^^^ d) ^^^ (x ^^^ y) := by
        rw [Nat.xor_assoc, Nat.xor_assoc, ← Nat.xor_assoc x d y, Nat.xor_comm x d, Nat.xor_assoc d x y]
      rw [e] at this
      exact this
theorem cbits_zeros (n : Nat) : ∀ c : Nat, cbits c (List.replicate n 0) = csteps n c := by
  induction n with
  | zero => intro c; rfl
  | succ n ih =>
    intro c
    rw [List.replicate_succ]
    show cbits (cstep (c ^^^ 0)) (List.replicate n 0) = _
    rw [Nat.xor_zero, ih]; rfl
/-- A burst is told: some zeros, at most 32 digits that are not all zero, some zeros. -/
theorem burst_told {a n b x : Nat} (hn : n ≤ 32) (hx : x < 2 ^ n) (h0 : x ≠ 0) : cbits 0 (List.replicate a 0 ++ bitsOf n x ++ List.replicate b 0) ≠ 0 := by
  have hp : (2 : Nat) ^ n ≤ 2 ^ 32 := Nat.pow_le_pow_right (by omega) hn
  have h32 : (2 : Nat) ^ 32 = 4294967296 := by decide
  rw [cbits_append, cbits_append, cbits_zeros, cbits_zeros, csteps_nought, ← csteps_bits n 0 x hx, Nat.zero_xor]
  intro hz
  exact h0 (csteps_zero n (by omega) (csteps_zero b (csteps_lt n (by omega)) hz))
end Go.Proofs.Ytkhnfleejgfhgaa
