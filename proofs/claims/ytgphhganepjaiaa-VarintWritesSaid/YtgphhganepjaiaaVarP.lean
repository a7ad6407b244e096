/-
  Plain laws of numbers in seven digits a byte: how they are written and read. No program.
-/
import Derived.Test.YtgphhganepjaiaaGen
namespace Go.Proofs.Ytgphhganepjaiaa

def vbF : Nat → Int → List Int
  | 0, x => [x]
  | n + 1, x => if x < 128 then [x] else (128 + x % 128) :: vbF n (x / 128)
/-- A number's bytes. -/
def vb (x : Int) : List Int := vbF 9 x
theorem vbF_eq : ∀ (n m : Nat) (x : Int), 0 ≤ x → x < 128 ^ (n + 1) → n ≤ m → vbF n x = vbF m x := by
  intro n
  induction n with
  | zero =>
    intro m x h0 h1 _
    cases m with
    | zero => rfl
    | succ m => simp only [vbF]; rw [if_pos (by omega)]
  | succ n ih =>
    intro m x h0 h1 hm
    obtain ⟨k, rfl⟩ : ∃ k, m = k + 1 := ⟨m - 1, by omega⟩
    simp only [vbF]
    by_cases h : x < 128
    · rw [if_pos h, if_pos h]
    · rw [if_neg h, if_neg h, ih k (x / 128) (by omega) ?_ (by omega)]
      rw [Int.pow_succ] at h1
      omega
theorem vb_lt {x : Int} (h : x < 128) : vb x = [x] := by unfold vb; simp only [vbF]; rw [if_pos h]
theorem vb_ge {x : Int} (h : 128 ≤ x) (h1 : x < 18446744073709551616) : vb x = (128 + x % 128) :: vb (x / 128) := by
  have e : vb x = (128 + x % 128) :: vbF 8 (x / 128) := by unfold vb; rw [show (9 : Nat) = 8 + 1 from rfl]; simp only [vbF]; rw [if_neg (by omega)]
  rw [e]
  unfold vb
  rw [vbF_eq 8 9 (x / 128) (by omega) (by omega) (by omega)]
theorem vb_bys : ∀ (n : Nat) (x : Int), 0 ≤ x → x < 128 ^ (n + 1) → Bys (vbF n x) := by
  intro n
  induction n with
  | zero => intro x h0 h1 y hy; simp [vbF] at hy; omega
  | succ n ih =>
    intro x h0 h1 y hy
    simp only [vbF] at hy
    split at hy
    · simp at hy; omega
    · rcases List.mem_cons.1 hy with rfl | hy
      · omega
      · exact ih (x / 128) (by omega) (by rw [Int.pow_succ] at h1; omega) y hy
theorem vb_by {x : Int} (h0 : 0 ≤ x) (h1 : x < 18446744073709551616) : Bys (vb x) := vb_bys 9 x h0 (by omega)
theorem vbF_len : ∀ (n : Nat) (x : Int), 1 ≤ (vbF n x).length ∧ (vbF n x).length ≤ n + 1 := by
  intro n
  induction n with
  | zero => intro x; simp [vbF]
  | succ n ih =>
    intro x
    simp only [vbF]
    split
    · simp
    · have := ih (x / 128); simp; omega
theorem vb_len (x : Int) : 1 ≤ (vb x).length ∧ (vb x).length ≤ 10 := vbF_len 9 x
theorem vbF_mono : ∀ (n : Nat) (x y : Int), x ≤ y → (vbF n x).length ≤ (vbF n y).length := by
  intro n
  induction n with
  | zero => intro x y _; simp [vbF]
  | succ n ih =>
    intro x y h
    simp only [vbF]
    by_cases hy : y < 128
    · rw [if_pos hy, if_pos (by omega)]; simp
    · rw [if_neg hy]
      split
      · simp
      · have := ih (x / 128) (y / 128) (by omega); simp; omega
theorem vb_mono {x y : Int} (h : x ≤ y) : (vb x).length ≤ (vb y).length := vbF_mono 9 x y h

/-- What the next number is: the code, how many bytes were looked at ahead of it (or with it, where it is right), the number; n bytes of it were read already. -/
def vgo : Int → List Int → Int × Int × Int
  | n, [] => (1, n, 0)
  | n, c :: t => if n = 9 ∧ 1 < c then (5, n, 0) else if 0 < n ∧ c = 0 then (4, n, 0) else if c < 128 then (0, n + 1, c)
    else ((vgo (n + 1) t).1, (vgo (n + 1) t).2.1, if (vgo (n + 1) t).1 = 0 then c % 128 + 128 * (vgo (n + 1) t).2.2 else 0)
/-- What is written is read, whatever stands behind. -/
theorem vgo_vbF : ∀ (k : Nat) (x : Int) (n : Int) (b : List Int), 0 ≤ x → 0 ≤ n → n + k ≤ 9 → x < 128 ^ (k + 1) → (n + k = 9 → x < 2 * 128 ^ k) → (0 < n → 0 < x) → vgo n (vbF k x ++ b) = (0, n + (vbF k x).length, x) := by
  intro k
  induction k with
  | zero =>
    intro x n b h0 hn h9 hx h2 hp
    simp only [vbF, List.cons_append, List.nil_append, vgo]
    rw [if_neg (by omega), if_neg (by omega), if_pos (by omega)]
    simp
  | succ k ih =>
    intro x n b h0 hn h9 hx h2 hp
    rw [Int.pow_succ] at hx
    simp only [vbF]
    by_cases h : x < 128
    · rw [if_pos h]
      simp only [List.cons_append, List.nil_append, vgo]
      rw [if_neg (by omega), if_neg (by omega), if_pos h]
      simp
    · rw [if_neg h]
      simp only [List.cons_append, vgo]
      rw [if_neg (by omega), if_neg (by omega), if_neg (by omega)]
      rw [ih (x / 128) (n + 1) b (by omega) (by omega) (by omega) (by omega) (fun e => by have := h2 (by omega); rw [Int.pow_succ] at this; omega) (fun _ => by omega)]
      simp only [if_true, List.length_cons, Prod.mk.injEq, true_and]
      refine ⟨by omega, by omega⟩
theorem vgo_vb {x : Int} (b : List Int) (h0 : 0 ≤ x) (h1 : x < 18446744073709551616) : vgo 0 (vb x ++ b) = (0, ((vb x).length : Int), x) := by
  have := vgo_vbF 9 x 0 b h0 (by omega) (by omega) (by omega) (fun _ => by omega) (fun h => by omega)
  simpa [vb] using this
/-- What is read is so written. -/
theorem vgo_once : ∀ (l : List Int) (n : Int) (k : Nat), Bys l → 0 ≤ n → n + k = 9 → (vgo n l).1 = 0 →
    vbF k (vgo n l).2.2 = l.take ((vgo n l).2.1 - n).toNat ∧ n < (vgo n l).2.1 ∧ (vgo n l).2.1 ≤ n + l.length ∧ 0 ≤ (vgo n l).2.2 ∧ (vgo n l).2.2 < 2 * 128 ^ k ∧ (0 < n → 0 < (vgo n l).2.2) := by
  intro l
  induction l with
  | nil => intro n k _ _ _ h; simp [vgo] at h
  | cons c t ih =>
    intro n k hb hn hk h
    have hc := hb c (List.mem_cons_self ..)
    simp only [vgo] at h ⊢
    by_cases h1 : n = 9 ∧ 1 < c
    · rw [if_pos h1] at h; simp at h
    rw [if_neg h1] at h ⊢
    by_cases h2 : 0 < n ∧ c = 0
    · rw [if_pos h2] at h; simp at h
    rw [if_neg h2] at h ⊢
    by_cases h3 : c < 128
    · rw [if_pos h3]
      refine ⟨?_, by simp only; omega, by simp; omega, by simp only; omega, ?_, fun h => by simp only; omega⟩
      · rw [show (n + 1 - n).toNat = 1 from by omega]
        cases k with
        | zero => simp [vbF]
        | succ k => simp only [vbF]; rw [if_pos h3]; simp
      · cases k with
        | zero => simp only [Int.pow_zero]; omega
        | succ k => simp only; have : (0 : Int) < 128 ^ k := Int.pow_pos (by omega); rw [Int.pow_succ]; omega
    · rw [if_neg h3] at h ⊢
      simp only at h ⊢
      obtain ⟨j, rfl⟩ : ∃ j, k = j + 1 := ⟨k - 1, by omega⟩
      obtain ⟨e1, e2, e3, e4, e5, e6⟩ := ih (n + 1) j (fun x hx => hb x (List.mem_cons_of_mem _ hx)) (by omega) (by omega) h
      rw [if_pos h]
      have e7 := e6 (by omega)
      refine ⟨?_, by omega, by simp; omega, by omega, ?_, fun _ => by omega⟩
      · simp only [vbF]
        rw [if_neg (by omega)]
        rw [show (c % 128 + 128 * (vgo (n + 1) t).2.2) / 128 = (vgo (n + 1) t).2.2 from by omega, e1]
        rw [show ((vgo (n + 1) t).2.1 - n).toNat = ((vgo (n + 1) t).2.1 - (n + 1)).toNat + 1 from by omega, List.take_succ_cons]
        congr 1
        omega
      · rw [Int.pow_succ]; omega
theorem vgo_back {l : List Int} (hb : Bys l) (h : (vgo 0 l).1 = 0) : vb (vgo 0 l).2.2 = l.take (vgo 0 l).2.1.toNat ∧ 1 ≤ (vgo 0 l).2.1 ∧ (vgo 0 l).2.1 ≤ l.length ∧ 0 ≤ (vgo 0 l).2.2 ∧ (vgo 0 l).2.2 < 18446744073709551616 := by
  obtain ⟨e1, e2, e3, e4, e5, _⟩ := vgo_once l 0 9 hb (by omega) (by omega) h
  refine ⟨by simpa [vb] using e1, by omega, by omega, e4, by omega⟩
/-- Of a fault the number is 0; its code is one of three; its place is within. -/
theorem vgo_fault : ∀ (l : List Int) (n : Int), 0 ≤ n → (vgo n l).1 ≠ 0 → (vgo n l).2.2 = 0 ∧ n ≤ (vgo n l).2.1 ∧ (((vgo n l).1 = 1 ∧ (vgo n l).2.1 = n + l.length) ∨ (((vgo n l).1 = 4 ∨ (vgo n l).1 = 5) ∧ (vgo n l).2.1 < n + l.length)) := by
  intro l
  induction l with
  | nil => intro n _ _; simp [vgo]
  | cons c t ih =>
    intro n hn h
    simp only [vgo] at h ⊢
    by_cases h1 : n = 9 ∧ 1 < c
    · rw [if_pos h1]; simp; omega
    rw [if_neg h1] at h ⊢
    by_cases h2 : 0 < n ∧ c = 0
    · rw [if_pos h2]; simp; omega
    rw [if_neg h2] at h ⊢
    by_cases h3 : c < 128
    · rw [if_pos h3] at h; simp at h
    rw [if_neg h3] at h ⊢
    simp only at h ⊢
    obtain ⟨e1, e2, e3⟩ := ih (n + 1) (by omega) h
    rw [if_neg h]
    refine ⟨rfl, by omega, ?_⟩
    rcases e3 with ⟨a, b⟩ | ⟨a, b⟩
    · left; exact ⟨a, by simp; omega⟩
    · right; exact ⟨a, by simp; omega⟩
end Go.Proofs.Ytgphhganepjaiaa
