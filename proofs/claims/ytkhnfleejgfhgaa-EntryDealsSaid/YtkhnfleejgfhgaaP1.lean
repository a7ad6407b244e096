/-
  Plain laws of numbers in seven digits a byte: how they are written and read. No program.
  Plain words: a reader as a value. No program.
  Plain laws of a reader and the next number. No program.
  Plain words: a writer as a value. No program.
  Plain laws of the next number by its bytes. No program.
  Plain laws of signs as numbers, and of rising lists. No program.
  Plain laws of reading rising lists. No program.
  Plain law: a rising list's own bytes are read back. No program.
-/
import Derived.Test.YtkhnfleejgfhgaaGen
import Derived.Test.YtkhnfleejgfhgaaA1
import Derived.Laws.BitsAllLaws
set_option linter.all false
set_option linter.unusedSimpArgs false
set_option linter.unusedVariables false
set_option linter.unnecessarySimpa false
section
namespace Go.Proofs.Ytkhnfleejgfhgaa

def vbF : Nat → Int → List Int
  | 0, x => [x]
  | n + 1, x => if x < 128 then [x] else (128 + x % 128) :: vbF n (x / 128)
/-- A number's bytes. -/
def vb (x : Int) : List Int := vbF 9 x
theorem vbF_eq : ∀ (n m : Nat) (x : Int), 0 ≤ x → x < 128 ^ (n + 1) → n ≤ m → vbF n x = vbF m x := by
  intro n
  induction n with
  | zero =>
    intro m x h0 h1 _
    cases m with
    | zero => rfl
    | succ m => simp only [vbF]; rw [if_pos (by omega)]
  | succ n ih =>
    intro m x h0 h1 hm
    obtain ⟨k, rfl⟩ : ∃ k, m = k + 1 := ⟨m - 1, by omega⟩
    simp only [vbF]
    by_cases h : x < 128
    · rw [if_pos h, if_pos h]
    · rw [if_neg h, if_neg h, ih k (x / 128) (by omega) ?_ (by omega)]
      rw [Int.pow_succ] at h1
      omega
theorem vb_lt {x : Int} (h : x < 128) : vb x = [x] := by unfold vb; simp only [vbF]; rw [if_pos h]
theorem vb_ge {x : Int} (h : 128 ≤ x) (h1 : x < 18446744073709551616) : vb x = (128 + x % 128) :: vb (x / 128) := by
  have e : vb x = (128 + x % 128) :: vbF 8 (x / 128) := by unfold vb; rw [show (9 : Nat) = 8 + 1 from rfl]; simp only [vbF]; rw [if_neg (by omega)]
  rw [e]
  unfold vb
  rw [vbF_eq 8 9 (x / 128) (by omega) (by omega) (by omega)]
theorem vb_bys : ∀ (n : Nat) (x : Int), 0 ≤ x → x < 128 ^ (n + 1) → Bys (vbF n x) := by
  intro n
  induction n with
  | zero => intro x h0 h1 y hy; simp [vbF] at hy; omega
  | succ n ih =>
    intro x h0 h1 y hy
    simp only [vbF] at hy
    split at hy
    · simp at hy; omega
    · rcases List.mem_cons.1 hy with rfl | hy
      · omega
      · exact ih (x / 128) (by omega) (by rw [Int.pow_succ] at h1; omega) y hy
theorem vb_by {x : Int} (h0 : 0 ≤ x) (h1 : x < 18446744073709551616) : Bys (vb x) := vb_bys 9 x h0 (by omega)
theorem vbF_len : ∀ (n : Nat) (x : Int), 1 ≤ (vbF n x).length ∧ (vbF n x).length ≤ n + 1 := by
  intro n
  induction n with
  | zero => intro x; simp [vbF]
  | succ n ih =>
    intro x
    simp only [vbF]
    split
    · simp
    · have := ih (x / 128); simp; omega
theorem vb_len (x : Int) : 1 ≤ (vb x).length ∧ (vb x).length ≤ 10 := vbF_len 9 x
theorem vbF_mono : ∀ (n : Nat) (x y : Int), x ≤ y → (vbF n x).length ≤ (vbF n y).length := by
  intro n
  induction n with
  | zero => intro x y _; simp [vbF]
  | succ n ih =>
    intro x y h
    simp only [vbF]
    by_cases hy : y < 128
    · rw [if_pos hy, if_pos (by omega)]; simp
    · rw [if_neg hy]
      split
      · simp
      · have := ih (x / 128) (y / 128) (by omega); simp; omega
theorem vb_mono {x y : Int} (h : x ≤ y) : (vb x).length ≤ (vb y).length := vbF_mono 9 x y h

/-- What the next number is: the code, how many bytes were looked at ahead of it (or with it, where it is right), the number; n bytes of it were read already. -/
def vgo : Int → List Int → Int × Int × Int
  | n, [] => (1, n, 0)
  | n, c :: t => if n = 9 ∧ 1 < c then (5, n, 0) else if 0 < n ∧ c = 0 then (4, n, 0) else if c < 128 then (0, n + 1, c)
    else ((vgo (n + 1) t).1, (vgo (n + 1) t).2.1, if (vgo (n + 1) t).1 = 0 then c % 128 + 128 * (vgo (n + 1) t).2.2 else 0)
/-- What is written is read, whatever stands behind. -/
theorem vgo_vbF : ∀ (k : Nat) (x : Int) (n : Int) (b : List Int), 0 ≤ x → 0 ≤ n → n + k ≤ 9 → x < 128 ^ (k + 1) → (n + k = 9 → x < 2 * 128 ^ k) → (0 < n → 0 < x) → vgo n (vbF k x ++ b) = (0, n + (vbF k x).length, x) := by
  intro k
  induction k with
  | zero =>
    intro x n b h0 hn h9 hx h2 hp
    simp only [vbF, List.cons_append, List.nil_append, vgo]
    rw [if_neg (by omega), if_neg (by omega), if_pos (by omega)]
    simp
  | succ k ih =>
    intro x n b h0 hn h9 hx h2 hp
    rw [Int.pow_succ] at hx
    simp only [vbF]
    by_cases h : x < 128
    · rw [if_pos h]
      simp only [List.cons_append, List.nil_append, vgo]
      rw [if_neg (by omega), if_neg (by omega), if_pos h]
      simp
    · rw [if_neg h]
      simp only [List.cons_append, vgo]
      rw [if_neg (by omega), if_neg (by omega), if_neg (by omega)]
      rw [ih (x / 128) (n + 1) b (by omega) (by omega) (by omega) (by omega) (fun e => by have := h2 (by omega); rw [Int.pow_succ] at this; omega) (fun _ => by omega)]
      simp only [if_true, List.length_cons, Prod.mk.injEq, true_and]
      refine ⟨by omega, by omega⟩
theorem vgo_vb {x : Int} (b : List Int) (h0 : 0 ≤ x) (h1 : x < 18446744073709551616) : vgo 0 (vb x ++ b) = (0, ((vb x).length : Int), x) := by
  have := vgo_vbF 9 x 0 b h0 (by omega) (by omega) (by omega) (fun _ => by omega) (fun h => by omega)
  simpa [vb] using this
/-- What is read is so written. -/
theorem vgo_once : ∀ (l : List Int) (n : Int) (k : Nat), Bys l → 0 ≤ n → n + k = 9 → (vgo n l).1 = 0 →
    vbF k (vgo n l).2.2 = l.take ((vgo n l).2.1 - n).toNat ∧ n < (vgo n l).2.1 ∧ (vgo n l).2.1 ≤ n + l.length ∧ 0 ≤ (vgo n l).2.2 ∧ (vgo n l).2.2 < 2 * 128 ^ k ∧ (0 < n → 0 < (vgo n l).2.2) := by
  intro l
  induction l with
  | nil => intro n k _ _ _ h; simp [vgo] at h
  | cons c t ih =>
    intro n k hb hn hk h
    have hc := hb c (List.mem_cons_self ..)
    simp only [vgo] at h ⊢
    by_cases h1 : n = 9 ∧ 1 < c
    · rw [if_pos h1] at h; simp at h
    rw [if_neg h1] at h ⊢
    by_cases h2 : 0 < n ∧ c = 0
    · rw [if_pos h2] at h; simp at h
    rw [if_neg h2] at h ⊢
    by_cases h3 : c < 128
    · rw [if_pos h3]
      refine ⟨?_, by simp only; omega, by simp; omega, by simp only; omega, ?_, fun h => by simp only; omega⟩
      · rw [show (n + 1 - n).toNat = 1 from by omega]
        cases k with
        | zero => simp [vbF]
        | succ k => simp only [vbF]; rw [if_pos h3]; simp
      · cases k with
        | zero => simp only [Int.pow_zero]; omega
        | succ k => simp only; have : (0 : Int) < 128 ^ k := Int.pow_pos (by omega); rw [Int.pow_succ]; omega
    · rw [if_neg h3] at h ⊢
      simp only at h ⊢
      obtain ⟨j, rfl⟩ : ∃ j, k = j + 1 := ⟨k - 1, by omega⟩
      obtain ⟨e1, e2, e3, e4, e5, e6⟩ := ih (n + 1) j (fun x hx => hb x (List.mem_cons_of_mem _ hx)) (by omega) (by omega) h
      rw [if_pos h]
      have e7 := e6 (by omega)
      refine ⟨?_, by omega, by simp; omega, by omega, ?_, fun _ => by omega⟩
      · simp only [vbF]
        rw [if_neg (by omega)]
        rw [show (c % 128 + 128 * (vgo (n + 1) t).2.2) / 128 = (vgo (n + 1) t).2.2 from by omega, e1]
        rw [show ((vgo (n + 1) t).2.1 - n).toNat = ((vgo (n + 1) t).2.1 - (n + 1)).toNat + 1 from by omega, List.take_succ_cons]
        congr 1
        omega
      · rw [Int.pow_succ]; omega
theorem vgo_back {l : List Int} (hb : Bys l) (h : (vgo 0 l).1 = 0) : vb (vgo 0 l).2.2 = l.take (vgo 0 l).2.1.toNat ∧ 1 ≤ (vgo 0 l).2.1 ∧ (vgo 0 l).2.1 ≤ l.length ∧ 0 ≤ (vgo 0 l).2.2 ∧ (vgo 0 l).2.2 < 18446744073709551616 := by
  obtain ⟨e1, e2, e3, e4, e5, _⟩ := vgo_once l 0 9 hb (by omega) (by omega) h
  refine ⟨by simpa [vb] using e1, by omega, by omega, e4, by omega⟩
/-- Of a fault the number is 0; its code is one of three; its place is within. -/
theorem vgo_fault : ∀ (l : List Int) (n : Int), 0 ≤ n → (vgo n l).1 ≠ 0 → (vgo n l).2.2 = 0 ∧ n ≤ (vgo n l).2.1 ∧ (((vgo n l).1 = 1 ∧ (vgo n l).2.1 = n + l.length) ∨ (((vgo n l).1 = 4 ∨ (vgo n l).1 = 5) ∧ (vgo n l).2.1 < n + l.length)) := by
  intro l
  induction l with
  | nil => intro n _ _; simp [vgo]
  | cons c t ih =>
    intro n hn h
    simp only [vgo] at h ⊢
    by_cases h1 : n = 9 ∧ 1 < c
    · rw [if_pos h1]; simp; omega
    rw [if_neg h1] at h ⊢
    by_cases h2 : 0 < n ∧ c = 0
    · rw [if_pos h2]; simp; omega
    rw [if_neg h2] at h ⊢
    by_cases h3 : c < 128
    · rw [if_pos h3] at h; simp at h
    rw [if_neg h3] at h ⊢
    simp only at h ⊢
    obtain ⟨e1, e2, e3⟩ := ih (n + 1) (by omega) h
    rw [if_neg h]
    refine ⟨rfl, by omega, ?_⟩
    rcases e3 with ⟨a, b⟩ | ⟨a, b⟩
    · left; exact ⟨a, by simp; omega⟩
    · right; exact ⟨a, by simp; omega⟩
end Go.Proofs.Ytkhnfleejgfhgaa
end
section
namespace Go.Proofs.Ytkhnfleejgfhgaa

def flt (c a : Int) : Int × Int := if c = 0 then (0, 0) else (c, a)
/-- A reader: its bytes, its place, its fault. -/
structure RS where
  l : List Int
  at_ : Int
  code : Int
  fat : Int
def RS.fail (s : RS) (c a : Int) : RS := if s.code = 0 then { s with code := (flt c a).1, fat := (flt c a).2 } else s
def RS.good (s : RS) : Bool := s.code == 0
def RS.left (s : RS) : Int := s.l.length - s.at_
def RS.ok (s : RS) : Prop := 0 ≤ s.at_ ∧ s.at_ ≤ s.l.length ∧ s.l.length ≤ 140737488355328
def RS.skip (s : RS) (n : Int) : RS × Bool :=
  if s.code = 0 then (if n < 0 then (s.fail 17 s.at_, false) else if s.left < n then (s.fail 1 s.l.length, false) else ({ s with at_ := s.at_ + n }, true)) else (s, false)
def RS.byte (s : RS) : RS × Int := if (s.skip 1).2 = true then ((s.skip 1).1, s.l.getD s.at_.toNat 0) else ((s.skip 1).1, 0)
def RS.take (s : RS) (n : Int) : RS × List Int := if (s.skip n).2 = true then ((s.skip n).1, (s.l.drop s.at_.toNat).take n.toNat) else ((s.skip n).1, [])
def RS.new (l : List Int) : RS := ⟨l, 0, 0, 0⟩

theorem skip_yes {s : RS} {n : Int} (h : (s.skip n).2 = true) : s.code = 0 ∧ 0 ≤ n ∧ n ≤ s.left ∧ (s.skip n).1 = { s with at_ := s.at_ + n } := by
  unfold RS.skip at h ⊢
  by_cases h1 : s.code = 0
  · rw [if_pos h1] at h ⊢
    by_cases h2 : n < 0
    · rw [if_pos h2] at h; cases h
    · rw [if_neg h2] at h ⊢
      by_cases h3 : s.left < n
      · rw [if_pos h3] at h; cases h
      · rw [if_neg h3]; exact ⟨h1, by omega, by omega, rfl⟩
  · rw [if_neg h1] at h; cases h
theorem fail_l (s : RS) (c a : Int) : (s.fail c a).l = s.l := by unfold RS.fail; split <;> rfl
theorem fail_at (s : RS) (c a : Int) : (s.fail c a).at_ = s.at_ := by unfold RS.fail; split <;> rfl
theorem RS.ok.fail {s : RS} (h : s.ok) (c a : Int) : (s.fail c a).ok := by unfold RS.ok; rw [fail_l, fail_at]; exact h
theorem RS.ok.skip {s : RS} (h : s.ok) (n : Int) : (s.skip n).1.ok ∧ (s.skip n).1.l = s.l := by
  by_cases hy : (s.skip n).2 = true
  · obtain ⟨h1, h2, h3, h4⟩ := skip_yes hy
    rw [h4]
    obtain ⟨a, b, c⟩ := h
    unfold RS.left at h3
    exact ⟨⟨by show 0 ≤ s.at_ + n; omega, by show s.at_ + n ≤ s.l.length; omega, c⟩, rfl⟩
  · unfold RS.skip at hy ⊢
    by_cases h1 : s.code = 0
    · rw [if_pos h1] at hy ⊢
      by_cases h2 : n < 0
      · rw [if_pos h2]; exact ⟨h.fail _ _, fail_l _ _ _⟩
      · rw [if_neg h2] at hy ⊢
        by_cases h3 : s.left < n
        · rw [if_pos h3]; exact ⟨h.fail _ _, fail_l _ _ _⟩
        · rw [if_neg h3] at hy; exact absurd rfl hy
    · rw [if_neg h1]; exact ⟨h, rfl⟩
theorem RS.ok.byte {s : RS} (h : s.ok) : s.byte.1.ok ∧ s.byte.1.l = s.l := by
  unfold RS.byte; split <;> exact h.skip 1
theorem RS.ok.take {s : RS} (h : s.ok) (n : Int) : (s.take n).1.ok ∧ (s.take n).1.l = s.l := by
  unfold RS.take; split <;> exact h.skip n
theorem RS.ok.new {l : List Int} (h : l.length ≤ 140737488355328) : (RS.new l).ok := ⟨Int.le_refl _, by simp [RS.new], h⟩
theorem byte_u8 {s : RS} (h : s.ok) (hb : Bys s.l) : 0 ≤ s.byte.2 ∧ s.byte.2 < 256 := by
  unfold RS.byte
  split
  · rename_i hy
    obtain ⟨h1, h2, h3, h4⟩ := skip_yes hy
    obtain ⟨a, b, c⟩ := h
    unfold RS.left at h3
    exact hb _ (getD_mem _ _ (by omega))
  · simp
end Go.Proofs.Ytkhnfleejgfhgaa
end
section
namespace Go.Proofs.Ytkhnfleejgfhgaa
open Go.RowKit

theorem Bys.drop {l : List Int} (h : Bys l) (n : Nat) : Bys (l.drop n) := fun x hx => h x (List.mem_of_mem_drop hx)
theorem or128 : ∀ a : Fin 256, a.val ||| 128 = 128 + a.val % 128 := by decide +kernel
def RS.adv (s : RS) (i : Int) : RS := { s with at_ := s.at_ + i }
def RS.rest (s : RS) : List Int := s.l.drop s.at_.toNat
/-- The reader behind the next number, and that. -/
def RS.vint (s : RS) : RS × Int :=
  if s.code = 0 then
    (if (vgo 0 s.rest).1 = 0 then (s.adv (vgo 0 s.rest).2.1, (vgo 0 s.rest).2.2)
    else if (vgo 0 s.rest).1 = 1 then ({ s with at_ := s.l.length, code := 1, fat := s.l.length }, 0)
    else ({ s with at_ := s.at_ + (vgo 0 s.rest).2.1 + 1, code := (vgo 0 s.rest).1, fat := s.at_ + (vgo 0 s.rest).2.1 }, 0))
  else (s, 0)
/-- As far as i bytes were read, x the number so far. -/
def comb (i : Nat) (x : Int) (q : Int × Int × Int) : Int × Int × Int := (q.1, q.2.1, if q.1 = 0 then x + 128 ^ i * q.2.2 else 0)
def Upto (s : RS) (i : Nat) (x : Int) : Prop := vgo 0 s.rest = comb i x (vgo i (s.rest.drop i))
theorem upto_zero (s : RS) (_hb : Bys s.l) : Upto s 0 0 := by
  unfold Upto
  rw [List.drop_zero]
  have e0 : ((0 : Nat) : Int) = 0 := rfl
  rw [e0]
  have hf := vgo_fault s.rest 0 (Int.le_refl _)
  generalize vgo 0 s.rest = q at *
  obtain ⟨q1, q2, q3⟩ := q
  unfold comb
  simp only [Int.pow_zero, Int.one_mul, Int.zero_add] at *
  by_cases h : q1 = 0
  · rw [if_pos h]
  · rw [if_neg h, (hf h).1]
theorem rest_len (s : RS) (h0 : 0 ≤ s.at_) (h1 : s.at_ ≤ s.l.length) : (s.rest.length : Int) = s.l.length - s.at_ := by
  unfold RS.rest; simp; omega
theorem byte_end (s : RS) (i : Nat) (hc : s.code = 0) (_h0 : 0 ≤ s.at_) (_h1 : s.at_ ≤ s.l.length) (hi : s.at_ + i = s.l.length) :
    (s.adv i).byte = ({ s with at_ := s.l.length, code := 1, fat := s.l.length }, 0) := by
  have e : (s.adv i).skip 1 = ({ s with at_ := s.l.length, code := 1, fat := s.l.length }, false) := by
    unfold RS.skip RS.adv RS.left RS.fail
    simp only [hc, if_true]
    rw [if_neg (by omega), if_pos (by omega), hi]
    simp [flt]
  unfold RS.byte
  rw [e]; simp
theorem byte_bad (s : RS) (hc : s.code ≠ 0) : (s.adv 0).byte = (s, 0) := by
  have e0 : s.adv 0 = s := by unfold RS.adv; simp
  rw [e0]
  have e : s.skip 1 = (s, false) := by unfold RS.skip; rw [if_neg hc]
  unfold RS.byte
  rw [e]; simp
theorem byte_good (s : RS) (i : Nat) (c : Int) (t : List Int) (hc : s.code = 0) (h0 : 0 ≤ s.at_) (h1 : s.at_ ≤ s.l.length) (hd : s.rest.drop i = c :: t) :
    (s.adv i).byte = (s.adv (i + 1), c) ∧ s.at_ + i + 1 ≤ s.l.length := by
  have hlen : i < s.rest.length := by
    rcases Nat.lt_or_ge i s.rest.length with h | h
    · exact h
    · rw [List.drop_eq_nil_of_le h] at hd; cases hd
  have hl := rest_len s h0 h1
  have e : (s.adv i).skip 1 = (s.adv (i + 1), true) := by
    unfold RS.skip RS.adv RS.left
    simp only [hc, if_true]
    rw [if_neg (by omega), if_neg (by omega)]
    simp [Int.add_assoc]
  unfold RS.byte
  rw [e]
  simp only [if_true]
  refine ⟨?_, by omega⟩
  have : (s.adv i).l.getD (s.adv i).at_.toNat 0 = c := by
    unfold RS.adv RS.rest at *
    simp only
    rw [List.drop_drop] at hd
    have e2 : (s.at_ + (i : Int)).toNat = s.at_.toNat + i := by omega
    rw [e2]
    have := congrArg (fun l => l[0]?) hd
    simp at this
    simp [this]
  rw [this]
theorem vint_bad {s : RS} (hc : s.code ≠ 0) : s.vint = (s, 0) := by unfold RS.vint; rw [if_neg hc]
theorem vint_end {s : RS} {i : Nat} {x : Int} (hc : s.code = 0) (hu : Upto s i x) (hd : s.rest.drop i = []) : s.vint = ({ s with at_ := s.l.length, code := 1, fat := s.l.length }, 0) := by
  unfold Upto at hu
  rw [hd] at hu
  unfold RS.vint
  rw [if_pos hc, hu]
  simp [comb, vgo]
theorem vint_over {s : RS} {i : Nat} {x c : Int} {t : List Int} (hc : s.code = 0) (hu : Upto s i x) (hd : s.rest.drop i = c :: t) (h9 : i = 9) (h1 : 1 < c) :
    s.vint = ((s.adv (i + 1)).fail 5 (s.at_ + i), 0) := by
  have hq : vgo i (c :: t) = (5, (i : Int), 0) := by simp only [vgo]; rw [if_pos (by omega)]
  unfold Upto at hu
  rw [hd, hq] at hu
  unfold RS.vint
  rw [if_pos hc, hu]
  simp [comb, RS.fail, RS.adv, hc, flt, Int.add_assoc]
theorem vint_min {s : RS} {i : Nat} {x : Int} {t : List Int} (hc : s.code = 0) (hu : Upto s i x) (hd : s.rest.drop i = 0 :: t) (h9 : 0 < i) :
    s.vint = ((s.adv (i + 1)).fail 4 (s.at_ + i), 0) := by
  have hq : vgo i (0 :: t) = (4, (i : Int), 0) := by unfold vgo; rw [if_neg (by omega), if_pos ⟨by omega, rfl⟩]
  unfold Upto at hu
  rw [hd, hq] at hu
  unfold RS.vint
  rw [if_pos hc, hu]
  simp [comb, RS.fail, RS.adv, hc, flt, Int.add_assoc]
theorem vint_last {s : RS} {i : Nat} {x c : Int} {t : List Int} (hc : s.code = 0) (hu : Upto s i x) (hd : s.rest.drop i = c :: t) (h9 : ¬ (i = 9 ∧ 1 < c)) (h1 : ¬ (0 < i ∧ c = 0)) (h2 : c < 128) :
    s.vint = (s.adv (i + 1), x + 128 ^ i * c) := by
  have hq : vgo i (c :: t) = (0, (i : Int) + 1, c) := by simp only [vgo]; rw [if_neg (by omega), if_neg (by omega), if_pos h2]
  unfold Upto at hu
  rw [hd, hq] at hu
  unfold RS.vint
  rw [if_pos hc, hu]
  simp [comb, RS.adv, hc]
theorem upto_more {s : RS} {i : Nat} {x c : Int} {t : List Int} (hu : Upto s i x) (hd : s.rest.drop i = c :: t) (h9 : ¬ (i = 9 ∧ 1 < c)) (h1 : ¬ (0 < i ∧ c = 0)) (h2 : ¬ c < 128) :
    Upto s (i + 1) (x + 128 ^ i * (c % 128)) ∧ s.rest.drop (i + 1) = t := by
  have e : s.rest.drop (i + 1) = t := by rw [← List.drop_drop, hd]; rfl
  refine ⟨?_, e⟩
  have hq : vgo i (c :: t) = ((vgo (i + 1) t).1, (vgo (i + 1) t).2.1, if (vgo (i + 1) t).1 = 0 then c % 128 + 128 * (vgo (i + 1) t).2.2 else 0) := by
    simp only [vgo]; rw [if_neg (by omega), if_neg (by omega), if_neg h2]
  unfold Upto at *
  rw [hd, hq] at hu
  rw [e, hu]
  have ei : ((i + 1 : Nat) : Int) = (i : Int) + 1 := by omega
  rw [ei]
  generalize vgo ((i : Int) + 1) t = q
  obtain ⟨q1, q2, q3⟩ := q
  unfold comb
  simp only
  by_cases h : q1 = 0
  · rw [if_pos h, if_pos h, if_pos h, Int.pow_succ, Int.mul_add, Int.mul_assoc, Int.add_assoc]
  · rw [if_neg h, if_neg h]
theorem or_join (i : Nat) (hi : i ≤ 9) (x c : Int) (h0 : 0 ≤ x) (h1 : x < 128 ^ i) (c0 : 0 ≤ c) (c1 : c < 128) (c2 : i = 9 → c ≤ 1) :
    bits .or .u64 x (IntKind.u64.wrap (c * 2 ^ (7 * i))) = x + 128 ^ i * c ∧ x + 128 ^ i * c < 128 ^ (i + 1) ∧ 0 ≤ x + 128 ^ i * c := by
  obtain ⟨n, rfl⟩ := Int.eq_ofNat_of_zero_le c0
  obtain ⟨m, rfl⟩ := Int.eq_ofNat_of_zero_le h0
  have hp : (2 : Int) ^ (7 * i) = 128 ^ i := by rw [Int.pow_mul]; rfl
  have hpos : (0 : Int) < 128 ^ i := Int.pow_pos (by omega)
  have hcast : ((128 ^ i : Nat) : Int) = 128 ^ i := by rw [Int.natCast_pow]; rfl
  have h1' : m < 128 ^ i := by omega
  have hB : n * 128 ^ i < 18446744073709551616 := by
    have : i = 0 ∨ i = 1 ∨ i = 2 ∨ i = 3 ∨ i = 4 ∨ i = 5 ∨ i = 6 ∨ i = 7 ∨ i = 8 ∨ i = 9 := by omega
    rcases this with rfl | rfl | rfl | rfl | rfl | rfl | rfl | rfl | rfl | rfl <;> simp at c2 ⊢ <;> omega
  have hm : (m : Int) < 18446744073709551616 := by
    have : i = 0 ∨ i = 1 ∨ i = 2 ∨ i = 3 ∨ i = 4 ∨ i = 5 ∨ i = 6 ∨ i = 7 ∨ i = 8 ∨ i = 9 := by omega
    rcases this with rfl | rfl | rfl | rfl | rfl | rfl | rfl | rfl | rfl | rfl <;> simp at h1 <;> omega
  have e0 : (n : Int) * 128 ^ i = ((n * 128 ^ i : Nat) : Int) := by rw [Int.natCast_mul, hcast]
  have e1 : IntKind.u64.wrap ((n : Int) * 2 ^ (7 * i)) = ((n * 128 ^ i : Nat) : Int) := by
    rw [hp, e0]
    simp [IntKind.wrap, IntKind.bits, IntKind.signed]
    omega
  rw [e1, u64_or_nat m _ (by omega) hB]
  have e2 : m ||| n * 128 ^ i = n * 128 ^ i + m := by
    rw [Nat.or_comm]
    have q : (2 : Nat) ^ (7 * i) = 128 ^ i := by rw [Nat.pow_mul]
    exact nat_join (7 * i) _ _ (by rw [q]; exact Nat.mul_mod_left _ _) (by rw [q]; exact h1')
  rw [e2]
  have e3 : ((n * 128 ^ i + m : Nat) : Int) = (m : Int) + 128 ^ i * (n : Int) := by
    rw [Int.natCast_add, ← e0, Int.mul_comm, Int.add_comm]
  refine ⟨e3, ?_, ?_⟩
  · rw [Int.pow_succ]
    have : (128 : Int) ^ i * n ≤ 128 ^ i * 127 := Int.mul_le_mul_of_nonneg_left (by omega) (by omega)
    omega
  · have : (0 : Int) ≤ 128 ^ i * n := Int.mul_nonneg (by omega) (by omega)
    omega


def RS.most (s : RS) (m : Int) : RS × Int := if m < s.vint.2 then (s.vint.1.fail 2 s.at_, 0) else s.vint
def RS.int (s : RS) (m : Int) : RS × Int := if 0 ≤ m then s.most m else (s.vint.1.fail 2 s.at_, 0)

theorem vint_range {s : RS} (hb : Bys s.l) : 0 ≤ s.vint.2 ∧ s.vint.2 < 18446744073709551616 := by
  unfold RS.vint
  split
  · split
    · rename_i h1 h2
      have := vgo_back (l := s.rest) (hb.drop _) h2
      exact ⟨this.2.2.2.1, this.2.2.2.2⟩
    · split <;> simp
  · simp

theorem most_range {s : RS} {m : Int} (hb : Bys s.l) (h0 : 0 ≤ m) : 0 ≤ (s.most m).2 ∧ (s.most m).2 ≤ m := by
  have := vint_range hb
  unfold RS.most
  split
  · simp; exact h0
  · omega

theorem new_rest (l : List Int) : (RS.new l).rest = l := by simp [RS.rest, RS.new]
theorem vint_new_good {l : List Int} (h : (vgo 0 l).1 = 0) : (RS.new l).vint = ((RS.new l).adv (vgo 0 l).2.1, (vgo 0 l).2.2) := by
  unfold RS.vint; rw [new_rest, if_pos (show (RS.new l).code = 0 from rfl), if_pos h]
theorem vint_new_bad {l : List Int} (h : (vgo 0 l).1 ≠ 0) : (RS.new l).vint.1.code = (vgo 0 l).1 ∧ (RS.new l).vint.1.fat = (vgo 0 l).2.1 ∧ (RS.new l).vint.2 = 0 := by
  unfold RS.vint; rw [new_rest, if_pos (show (RS.new l).code = 0 from rfl), if_neg h]
  have hf := vgo_fault l 0 (Int.le_refl _) h
  by_cases h1 : (vgo 0 l).1 = 1
  · rw [if_pos h1]
    rcases hf.2.2 with ⟨_, e⟩ | ⟨e, _⟩
    · refine ⟨h1.symm, ?_, rfl⟩; simp only [RS.new]; omega
    · omega
  · rw [if_neg h1]; exact ⟨rfl, by simp [RS.new], rfl⟩

end Go.Proofs.Ytkhnfleejgfhgaa
end
section
namespace Go.Proofs.Ytkhnfleejgfhgaa

structure WS where
  most : Int
  l : List Int
  code : Int
def WS.new (most : Int) : WS := ⟨max most 0, [], 0⟩
def WS.fail (s : WS) (c : Int) : WS := if s.code = 0 then { s with code := c } else s
def WS.put (s : WS) (m : List Int) : WS := if s.code = 0 then (if s.most - s.l.length < m.length then { s with code := 2 } else { s with l := s.l ++ m }) else s
theorem WS.put_ok {s : WS} {m : List Int} (h : s.code = 0) (hm : s.l.length + m.length ≤ s.most) : s.put m = { s with l := s.l ++ m } := by
  unfold WS.put; rw [if_pos h, if_neg (by omega)]
theorem WS.put_no {s : WS} {m : List Int} (h : s.code = 0) (hm : s.most < s.l.length + m.length) : s.put m = { s with code := 2 } := by
  unfold WS.put; rw [if_pos h, if_pos (by omega)]
theorem WS.put_bad {s : WS} {m : List Int} (h : s.code ≠ 0) : s.put m = s := by
  unfold WS.put; rw [if_neg h]
theorem WS.new_is {n : Int} (h : 0 ≤ n) : WS.new n = ⟨n, [], 0⟩ := by unfold WS.new; rw [show max n 0 = n from by omega]
def WS.bytes (s : WS) : List Int := if s.code = 0 then s.l else []
def WS.putIf (s : WS) (x : Int) (ok : Bool) : WS := if ok = true then s.put (vb x) else s.fail 3
theorem putIf_20 (x : Int) : ((WS.new 20).putIf x true).code = 0 ∧ ((WS.new 20).putIf x true).bytes = vb x ∧ ((WS.new 20).putIf x true).l.length ≤ 20 ∧ ((WS.new 20).putIf x false).code = 3 ∧ ((WS.new 20).putIf x false).bytes = [] ∧ ((WS.new 20).putIf x false).l.length ≤ 20 := by
  have hl := (vb_len x).2
  have e : (WS.new 20).put (vb x) = ⟨20, vb x, 0⟩ := by
    rw [WS.new_is (by omega), WS.put_ok rfl (by simp; omega)]; rfl
  have f : (WS.new 20).fail 3 = ⟨20, [], 3⟩ := by rw [WS.new_is (by omega)]; rfl
  simp only [WS.putIf, if_true, e, f, WS.bytes]
  exact ⟨trivial, by simp, by omega, by simp, by simp, by simp⟩
/-- A number's lowest bytes. -/
def lowBytes : Nat → Int → List Int
  | 0, _ => []
  | n + 1, x => x % 256 :: lowBytes n (x / 256)
theorem lowBytes_snoc (n : Nat) : ∀ x : Int, lowBytes (n + 1) x = lowBytes n x ++ [x / 256 ^ n % 256] := by
  induction n with
  | zero => intro x; simp [lowBytes]
  | succ n ih =>
    intro x
    have := ih (x / 256)
    rw [show lowBytes (n + 1 + 1) x = x % 256 :: lowBytes (n + 1) (x / 256) from rfl, this, show lowBytes (n + 1) x = x % 256 :: lowBytes n (x / 256) from rfl]
    simp only [List.cons_append]
    congr 3
    rw [Int.ediv_ediv_of_nonneg (by omega), Int.pow_succ', ]
theorem lowBytes_len (n : Nat) : ∀ x : Int, (lowBytes n x).length = n := by
  induction n with
  | zero => intro x; rfl
  | succ n ih => intro x; simp [lowBytes, ih]
theorem lowBytes_bys (n : Nat) : ∀ x : Int, Bys (lowBytes n x) := by
  induction n with
  | zero => intro x y hy; simp [lowBytes] at hy
  | succ n ih =>
    intro x y hy
    simp only [lowBytes, List.mem_cons] at hy
    rcases hy with rfl | hy
    · omega
    · exact ih _ y hy

def WS.ok (s : WS) : Prop := 0 ≤ s.most ∧ s.most < 9223372036854775808 ∧ s.l.length ≤ s.most
def WS.room (s : WS) : Int := s.most - s.l.length
theorem WS.ok.new {n : Int} (h : n < 9223372036854775808) : (WS.new n).ok := by
  refine ⟨?_, ?_, ?_⟩ <;> simp [WS.new] <;> omega
theorem fail_parts (s : WS) (c : Int) : (s.fail c).most = s.most ∧ (s.fail c).l = s.l := by unfold WS.fail; split <;> exact ⟨rfl, rfl⟩
theorem WS.ok.fail {s : WS} (h : s.ok) (c : Int) : (s.fail c).ok := by
  obtain ⟨h1, h2⟩ := fail_parts s c
  unfold WS.ok; rw [h1, h2]; exact h
theorem put_most (s : WS) (m : List Int) : (s.put m).most = s.most := by
  unfold WS.put; split
  · split <;> rfl
  · rfl
theorem WS.ok.put {s : WS} (h : s.ok) (m : List Int) : (s.put m).ok := by
  obtain ⟨a, b, c⟩ := h
  unfold WS.put
  split
  · split
    · exact ⟨a, b, c⟩
    · exact ⟨a, b, by simp; omega⟩
  · exact ⟨a, b, c⟩
theorem WS.put_put (s : WS) (l m : List Int) : (s.put l).put m = if s.code = 0 ∧ s.most - s.l.length < l.length then s.put l else (s.put l).put m := by
  split
  · rename_i h
    unfold WS.put
    rw [if_pos h.1, if_pos h.2]
    simp
  · rfl
theorem put_len (s : WS) (m : List Int) : (s.put m).l.length ≤ s.l.length + m.length := by
  unfold WS.put
  split
  · split
    · simp
    · simp
  · simp
theorem put2 (k : Int) (m v : List Int) : (((WS.new k).put m).put v).code = 0 ∧ (((WS.new k).put m).put v).bytes = m ++ v ∧ (m.length : Int) + v.length ≤ max k 0 ∨ (((WS.new k).put m).put v).code ≠ 0 ∧ ¬ (m.length : Int) + v.length ≤ max k 0 := by
  by_cases h1 : max k 0 < m.length
  · right
    have e1 : (WS.new k).put m = ⟨max k 0, [], 2⟩ := WS.put_no rfl (by simp [WS.new]; omega)
    rw [e1, WS.put_bad (by simp)]
    exact ⟨by simp, by omega⟩
  · have e1 : (WS.new k).put m = ⟨max k 0, m, 0⟩ := by rw [WS.put_ok rfl (by simp [WS.new]; omega)]; simp [WS.new]
    by_cases h2 : max k 0 < (m.length : Int) + v.length
    · right
      rw [e1, WS.put_no rfl (by simp; omega)]
      exact ⟨by simp, by omega⟩
    · left
      rw [e1, WS.put_ok rfl (by simp; omega)]
      exact ⟨rfl, by simp [WS.bytes], by omega⟩
end Go.Proofs.Ytkhnfleejgfhgaa
end
section
namespace Go.Proofs.Ytkhnfleejgfhgaa

/-- The number at the front of bytes, how many bytes it has, the fault. -/
def vGet (l : List Int) : Int × Int × (Int × Int) := if (vgo 0 l).1 = 0 then ((vgo 0 l).2.2, (vgo 0 l).2.1, (0, 0)) else (0, 0, ((vgo 0 l).1, (vgo 0 l).2.1))
theorem vgo_cons (n c : Int) (t : List Int) : vgo n (c :: t) = if n = 9 ∧ 1 < c then (5, n, 0) else if 0 < n ∧ c = 0 then (4, n, 0) else if c < 128 then (0, n + 1, c)
    else ((vgo (n + 1) t).1, (vgo (n + 1) t).2.1, if (vgo (n + 1) t).1 = 0 then c % 128 + 128 * (vgo (n + 1) t).2.2 else 0) := rfl
/-- The number that the first k bytes tell. -/
def valTo (l : List Int) : Nat → Int
  | 0 => 0
  | k + 1 => valTo l k + 128 ^ k * (l.getD k 0 % 128)
theorem valTo_range (l : List Int) : ∀ k, 0 ≤ valTo l k ∧ valTo l k < 128 ^ k := by
  intro k
  induction k with
  | zero => simp [valTo]
  | succ k ih =>
    have hp : (0 : Int) < 128 ^ k := Int.pow_pos (by omega)
    have h1 : (0 : Int) ≤ 128 ^ k * (l.getD k 0 % 128) := Int.mul_nonneg (by omega) (by omega)
    have h2 : (128 : Int) ^ k * (l.getD k 0 % 128) ≤ 128 ^ k * 127 := Int.mul_le_mul_of_nonneg_left (by omega) (by omega)
    simp only [valTo, Int.pow_succ]
    omega
def UptoL (l : List Int) (k : Nat) : Prop := vgo 0 l = comb k (valTo l k) (vgo k (l.drop k))
theorem uptoL_zero (l : List Int) : UptoL l 0 := by
  unfold UptoL
  rw [List.drop_zero]
  have e0 : ((0 : Nat) : Int) = 0 := rfl
  rw [e0]
  have hf := vgo_fault l 0 (Int.le_refl _)
  generalize vgo 0 l = q at *
  obtain ⟨q1, q2, q3⟩ := q
  unfold comb
  simp only [valTo, Int.pow_zero, Int.one_mul, Int.zero_add] at *
  by_cases h : q1 = 0
  · rw [if_pos h]
  · rw [if_neg h, (hf h).1]
theorem drop_getD {l : List Int} {k : Nat} (h : k < l.length) : l.drop k = l.getD k 0 :: l.drop (k + 1) := by
  rw [List.drop_eq_getElem_cons h]; simp [h]
theorem vGet_over {l : List Int} {k : Nat} (hu : UptoL l k) (h : k < l.length) (h9 : k = 9) (h1 : 1 < l.getD k 0) : vGet l = (0, 0, (5, (k : Int))) := by
  unfold UptoL at hu
  have hq : vgo k (l.drop k) = (5, (k : Int), 0) := by rw [drop_getD h]; unfold vgo; rw [if_pos ⟨by omega, h1⟩]
  rw [hq] at hu
  unfold vGet
  rw [hu]
  simp [comb]
theorem vGet_min {l : List Int} {k : Nat} (hu : UptoL l k) (h : k < l.length) (h0 : 0 < k) (h1 : l.getD k 0 = 0) : vGet l = (0, 0, (4, (k : Int))) := by
  unfold UptoL at hu
  have hq : vgo k (l.drop k) = (4, (k : Int), 0) := by rw [drop_getD h]; unfold vgo; rw [if_neg (by omega), if_pos ⟨by omega, h1⟩]
  rw [hq] at hu
  unfold vGet
  rw [hu]
  simp [comb]
theorem vGet_last {l : List Int} {k : Nat} (hu : UptoL l k) (h : k < l.length) (h1 : ¬ (k = 9 ∧ 1 < l.getD k 0)) (h2 : ¬ (0 < k ∧ l.getD k 0 = 0)) (h3 : l.getD k 0 < 128) (h4 : 0 ≤ l.getD k 0) :
    vGet l = (valTo l (k + 1), (k : Int) + 1, (0, 0)) := by
  unfold UptoL at hu
  have hq : vgo k (l.drop k) = (0, (k : Int) + 1, l.getD k 0) := by rw [drop_getD h]; unfold vgo; rw [if_neg (by omega), if_neg (by omega), if_pos h3]
  rw [hq] at hu
  unfold vGet
  rw [hu]
  have e : l.getD k 0 % 128 = l.getD k 0 := by omega
  simp only [comb, valTo, if_true, e]
theorem vGet_end {l : List Int} (hu : UptoL l l.length) : vGet l = (0, 0, (1, (l.length : Int))) := by
  unfold UptoL at hu
  rw [List.drop_length] at hu
  unfold vGet
  rw [hu]
  simp [comb, vgo]
theorem uptoL_more {l : List Int} {k : Nat} (hu : UptoL l k) (h : k < l.length) (h1 : ¬ (k = 9 ∧ 1 < l.getD k 0)) (h2 : ¬ (0 < k ∧ l.getD k 0 = 0)) (h3 : ¬ l.getD k 0 < 128) : UptoL l (k + 1) := by
  unfold UptoL at *
  have hq : vgo k (l.drop k) = ((vgo (k + 1) (l.drop (k + 1))).1, (vgo (k + 1) (l.drop (k + 1))).2.1, if (vgo (k + 1) (l.drop (k + 1))).1 = 0 then l.getD k 0 % 128 + 128 * (vgo (k + 1) (l.drop (k + 1))).2.2 else 0) := by
    rw [drop_getD h, vgo_cons, if_neg (by omega), if_neg (by omega), if_neg h3]
  rw [hq] at hu
  rw [hu]
  have ei : ((k + 1 : Nat) : Int) = (k : Int) + 1 := by omega
  rw [ei]
  generalize vgo ((k : Int) + 1) (l.drop (k + 1)) = q
  obtain ⟨q1, q2, q3⟩ := q
  unfold comb
  simp only [valTo]
  by_cases h : q1 = 0
  · rw [if_pos h, if_pos h, if_pos h, Int.pow_succ, Int.mul_add, Int.mul_assoc, Int.add_assoc]
  · rw [if_neg h, if_neg h]
/-- The inner loop: what is left to be told, from the last byte down. -/
theorem horner (l : List Int) (k j : Nat) (x : Int) (h : valTo l k = 128 ^ (j + 1) * x + valTo l (j + 1)) (x0 : 0 ≤ x) (hV : valTo l k < 18446744073709551616) :
    valTo l k = 128 ^ j * (128 * x + l.getD j 0 % 128) + valTo l j ∧ 128 * x + l.getD j 0 % 128 < 18446744073709551616 := by
  have e : valTo l k = 128 ^ j * (128 * x + l.getD j 0 % 128) + valTo l j := by
    rw [h]
    simp only [valTo, Int.pow_succ, Int.mul_add, Int.mul_assoc]
    omega
  refine ⟨e, ?_⟩
  have hp : (1 : Int) ≤ 128 ^ j := Int.pow_pos (by omega)
  have hr := (valTo_range l j).1
  have h3 : 0 ≤ 128 * x + l.getD j 0 % 128 := by omega
  have : 1 * (128 * x + l.getD j 0 % 128) ≤ 128 ^ j * (128 * x + l.getD j 0 % 128) := Int.mul_le_mul_of_nonneg_right hp h3
  omega
theorem valTo_u64 {l : List Int} {k : Nat} (h9 : k ≤ 9) (h1 : ¬ (k = 9 ∧ 1 < l.getD k 0)) (h3 : l.getD k 0 < 128) (h4 : 0 ≤ l.getD k 0) : valTo l (k + 1) < 18446744073709551616 := by
  have hr := valTo_range l k
  simp only [valTo]
  have e : l.getD k 0 % 128 = l.getD k 0 := by omega
  rw [e]
  generalize l.getD k 0 = c at *
  have : k = 0 ∨ k = 1 ∨ k = 2 ∨ k = 3 ∨ k = 4 ∨ k = 5 ∨ k = 6 ∨ k = 7 ∨ k = 8 ∨ k = 9 := by omega
  rcases this with rfl | rfl | rfl | rfl | rfl | rfl | rfl | rfl | rfl | rfl <;> simp at hr h1 ⊢ <;> omega

/-- A reader that may be: its place within its bytes, which are bytes. -/
structure ROk (s : RS) : Prop where
  at0 : 0 ≤ s.at_
  at1 : s.at_ ≤ s.l.length
  len : s.l.length ≤ 140737488355328
  bys : Bys s.l
theorem ROk.ok {s : RS} (h : ROk s) : s.ok := ⟨h.at0, h.at1, h.len⟩
theorem RS.ok.rok {s : RS} (h : s.ok) (hb : Bys s.l) : ROk s := ⟨h.1, h.2.1, h.2.2, hb⟩
theorem ROk.new {l : List Int} (hb : Bys l) (hn : l.length ≤ 140737488355328) : ROk (RS.new l) := ⟨by simp [RS.new], by simp [RS.new], hn, hb⟩
theorem ROk.fail {s : RS} (h : ROk s) (c a : Int) : ROk (s.fail c a) := by
  unfold RS.fail; split
  · exact ⟨h.at0, h.at1, h.len, h.bys⟩
  · exact h
theorem ROk.skip {s : RS} (h : ROk s) (n : Int) : ROk (s.skip n).1 := (h.ok.skip n).1.rok (by rw [(h.ok.skip n).2]; exact h.bys)
theorem ROk.take {s : RS} (h : ROk s) (n : Int) : ROk (s.take n).1 := (h.ok.take n).1.rok (by rw [(h.ok.take n).2]; exact h.bys)
theorem vint_parts {s : RS} (h : ROk s) (hc : s.code = 0) {X N C Af : Int} (hq : vGet s.rest = (X, N, (C, Af))) :
    (C = 0 → s.vint = (s.adv N, X) ∧ 1 ≤ N ∧ s.at_ + N ≤ s.l.length ∧ 0 ≤ X ∧ X < 18446744073709551616) ∧ (C = 1 → s.vint = ({ s with at_ := s.l.length, code := 1, fat := s.l.length }, 0)) ∧
      (C ≠ 0 → C ≠ 1 → s.vint = ({ s with at_ := s.at_ + Af + 1, code := C, fat := s.at_ + Af }, 0) ∧ 0 ≤ Af ∧ s.at_ + Af + 1 ≤ s.l.length) := by
  have hrl := rest_len s h.at0 h.at1
  have hb : Bys s.rest := h.bys.drop _
  unfold vGet at hq
  unfold RS.vint
  rw [if_pos hc]
  by_cases h0 : (vgo 0 s.rest).1 = 0
  · have hk := vgo_back hb h0
    rw [if_pos h0] at hq
    simp only [Prod.mk.injEq] at hq
    obtain ⟨rfl, rfl, rfl, rfl⟩ := hq
    rw [if_pos h0]
    exact ⟨fun _ => ⟨rfl, by omega, by omega, by omega, by omega⟩, fun h => by omega, fun h => by omega⟩
  · have hf := vgo_fault s.rest 0 (Int.le_refl _) h0
    rw [if_neg h0] at hq
    simp only [Prod.mk.injEq] at hq
    obtain ⟨rfl, rfl, rfl, rfl⟩ := hq
    rw [if_neg h0]
    refine ⟨fun h => by omega, fun h => by rw [if_pos h], fun _ h1 => ?_⟩
    rw [if_neg h1]
    refine ⟨rfl, by omega, by omega⟩
theorem ROk.vint {s : RS} (h : ROk s) : ROk s.vint.1 ∧ s.vint.1.l = s.l := by
  by_cases hc : s.code = 0
  · obtain ⟨X, N, C, Af, hq⟩ : ∃ X N C Af, vGet s.rest = (X, N, (C, Af)) := ⟨_, _, _, _, rfl⟩
    obtain ⟨p1, p2, p3⟩ := vint_parts h hc hq
    by_cases c0 : C = 0
    · obtain ⟨e, h1, h2, _⟩ := p1 c0
      rw [e]
      have := h.at0
      exact ⟨⟨by simp [RS.adv]; omega, by simp [RS.adv]; omega, h.len, h.bys⟩, rfl⟩
    by_cases c1 : C = 1
    · rw [p2 c1]; exact ⟨⟨by simp, by simp, h.len, h.bys⟩, rfl⟩
    · obtain ⟨e, h1, h2⟩ := p3 c0 c1
      rw [e]
      have := h.at0
      exact ⟨⟨by simp; omega, by simp; omega, h.len, h.bys⟩, rfl⟩
  · rw [vint_bad hc]; exact ⟨h, rfl⟩
theorem ROk.most {s : RS} (h : ROk s) (m : Int) : ROk (s.most m).1 ∧ (s.most m).1.l = s.l := by
  unfold RS.most
  split
  · exact ⟨h.vint.1.fail _ _, by rw [fail_l]; exact h.vint.2⟩
  · exact h.vint
theorem ROk.int {s : RS} (h : ROk s) (m : Int) : ROk (s.int m).1 ∧ (s.int m).1.l = s.l := by
  unfold RS.int
  split
  · exact h.most m
  · exact ⟨h.vint.1.fail _ _, by rw [fail_l]; exact h.vint.2⟩
theorem take_bys {s : RS} (h : Bys s.l) (n : Int) : Bys (s.take n).2 := by
  unfold RS.take; split
  · exact fun x hx => h x (List.mem_of_mem_drop (List.mem_of_mem_take hx))
  · intro x hx; simp at hx
theorem take_len (s : RS) (n : Int) : (s.take n).2.length ≤ s.l.length := by
  unfold RS.take; split
  · simp; omega
  · simp

/-- Two rows of bytes are the same where their bytes as small numbers are. -/
theorem bys_inj : ∀ (l m : List Int), Bys l → Bys m → (l.map fun n => UInt8.ofNat n.toNat) = (m.map fun n => UInt8.ofNat n.toNat) → l = m := by
      intro l
      induction l with
      | nil => intro m _ _ h; cases m with
        | nil => rfl
        | cons => simp at h
      | cons x l ih =>
        intro m hl hm h
        cases m with
        | nil => simp at h
        | cons y m =>
          simp only [List.map_cons, List.cons.injEq] at h
          have hx := hl x (List.mem_cons_self ..)
          have hy := hm y (List.mem_cons_self ..)
          have e := congrArg UInt8.toNat h.1
          simp only [UInt8.toNat_ofNat'] at e
          rw [Nat.mod_eq_of_lt (by omega), Nat.mod_eq_of_lt (by omega)] at e
          rw [ih m (fun z hz => hl z (List.mem_cons_of_mem _ hz)) (fun z hz => hm z (List.mem_cons_of_mem _ hz)) h.2, show x = y from by omega]
def sameB (l m : List Int) : Bool := decide (l = m)
theorem same_self (l : List Int) : sameB l l = true := by simp [sameB]
end Go.Proofs.Ytkhnfleejgfhgaa
end
section
namespace Go.Proofs.Ytkhnfleejgfhgaa
open Go.RowKit

def zig (n : Int) : Int := if n < 0 then -2 * n - 1 else 2 * n
def zag (x : Int) : Int := if x % 2 = 1 then -(x / 2) - 1 else x / 2
theorem zig_range {n : Int} (h0 : -9223372036854775808 ≤ n) (h1 : n < 9223372036854775808) : 0 ≤ zig n ∧ zig n < 18446744073709551616 := by
  unfold zig; split <;> omega
theorem zag_range {x : Int} (h0 : 0 ≤ x) (h1 : x < 18446744073709551616) : -9223372036854775808 ≤ zag x ∧ zag x < 9223372036854775808 := by
  unfold zag; split <;> omega
theorem zag_zig (n : Int) : zag (zig n) = n := by unfold zag zig; split <;> split <;> omega
theorem zig_zag {x : Int} (h0 : 0 ≤ x) : zig (zag x) = x := by unfold zag zig; split <;> split <;> omega

theorem xor_u64_0 {x : Int} (h0 : 0 ≤ x) (h1 : x < 18446744073709551616) : bitsI .xor .u64 x 0 = x := by
  show bits .xor .u64 x 0 = x
  rw [u64_xor x 0 h0 h1 (by omega) (by omega)]; simp; omega
theorem xor_u64_1 {x : Int} (h0 : 0 ≤ x) (h1 : x < 18446744073709551616) : bitsI .xor .u64 x 18446744073709551615 = 18446744073709551615 - x := by
  obtain ⟨n, rfl⟩ := Int.eq_ofNat_of_zero_le h0
  show IntKind.u64.wrap ((BitVec.ofInt 64 (n : Int) ^^^ BitVec.ofInt 64 18446744073709551615).toNat : Int) = _
  have e : BitVec.ofInt 64 18446744073709551615 = BitVec.allOnes 64 := by decide
  rw [e, BitVec.xor_allOnes, BitVec.toNat_not, ofInt_u64 n (by omega), IntKind.wrap_u64]
  omega
theorem xor_i64_0 {x : Int} (h0 : 0 ≤ x) (h1 : x < 9223372036854775808) : bitsI .xor .i64 x 0 = x := by
  obtain ⟨n, rfl⟩ := Int.eq_ofNat_of_zero_le h0
  show IntKind.i64.wrap ((BitVec.ofInt 64 (n : Int) ^^^ BitVec.ofInt 64 0).toNat : Int) = _
  have e : BitVec.ofInt 64 0 = 0#64 := by decide
  rw [e, BitVec.xor_zero, ofInt_u64 n (by omega)]
  exact IntWalk.i64_in _ (by omega)
theorem xor_i64_1 {x : Int} (h0 : 0 ≤ x) (h1 : x < 9223372036854775808) : bitsI .xor .i64 x (-1) = -x - 1 := by
  obtain ⟨n, rfl⟩ := Int.eq_ofNat_of_zero_le h0
  show IntKind.i64.wrap ((BitVec.ofInt 64 (n : Int) ^^^ BitVec.ofInt 64 (-1)).toNat : Int) = _
  have e : BitVec.ofInt 64 (-1) = BitVec.allOnes 64 := by decide
  rw [e, BitVec.xor_allOnes, BitVec.toNat_not, ofInt_u64 n (by omega), IntKind.wrap_i64]
  omega

theorem and_u64_1 {x : Int} (h0 : 0 ≤ x) (h1 : x < 18446744073709551616) : bitsI .and .u64 x 1 = x % 2 := by
  show bits .and .u64 x 1 = x % 2
  rw [u64_and x 1 h0 h1 (by omega) (by omega)]
  have : x.toNat &&& 1 = x.toNat % 2 := by simp [Nat.and_one_is_mod]
  simp only [Int.toNat_one, this]
  omega
def rises (l : List Int) : Bool := (List.range (l.length - 1)).all fun i => decide (l.getD i 0 < l.getD (i + 1) 0)
theorem rises_iff {l : List Int} : rises l = true ↔ ∀ i, i + 1 < l.length → l.getD i 0 < l.getD (i + 1) 0 := by
  unfold rises
  simp only [List.all_eq_true, List.mem_range, decide_eq_true_eq]
  constructor
  · intro h i hi; exact h i (by omega)
  · intro h i hi; exact h i (by omega)
theorem rises_not {l : List Int} {i : Nat} (hi : i + 1 < l.length) (h : l.getD (i + 1) 0 ≤ l.getD i 0) : rises l = false := by
  cases hr : rises l with
  | false => rfl
  | true => have := rises_iff.1 hr i hi; omega
def stp (l : List Int) (i : Nat) : Int := if i = 0 then l.getD 0 0 else l.getD i 0 - l.getD (i - 1) 0 - 1
def stps (l : List Int) (k : Nat) : List Int := (List.range k).map (stp l)
theorem stps_succ (l : List Int) (k : Nat) : stps l (k + 1) = stps l k ++ [stp l k] := by simp [stps, List.range_succ]
theorem stps_len (l : List Int) (k : Nat) : (stps l k).length = k := by simp [stps]
theorem stp_range {l : List Int} (hl : U64s l) (hr : rises l = true) {i : Nat} (hi : i < l.length) : 0 ≤ stp l i ∧ stp l i < 18446744073709551616 := by
  have h0 := hl _ (getD_mem l i hi)
  unfold stp
  by_cases hz : i = 0
  · subst hz; rw [if_pos rfl]; exact h0
  · rw [if_neg hz]
    have h1 := rises_iff.1 hr (i - 1) (by omega)
    have h2 := hl _ (getD_mem l (i - 1) (by omega))
    rw [show i - 1 + 1 = i from by omega] at h1
    omega
/-- The bytes of a list of numbers. -/
def vbs (l : List Int) : List Int := l.flatMap vb
theorem vbs_snoc (l : List Int) (x : Int) : vbs (l ++ [x]) = vbs l ++ vb x := by simp [vbs]
theorem vbs_nil : vbs [] = [] := rfl
theorem vbs_len (l : List Int) : (vbs l).length ≤ 10 * l.length := by
  induction l with
  | nil => simp [vbs]
  | cons x l ih => have := (vb_len x).2; simp [vbs] at ih ⊢; omega
theorem vbs_bys {l : List Int} (h : U64s l) : Bys (vbs l) := by
  intro y hy
  simp only [vbs, List.mem_flatMap] at hy
  obtain ⟨x, hx, hy⟩ := hy
  exact vb_by (h x hx).1 (h x hx).2 y hy
theorem stps_u64 {l : List Int} (hl : U64s l) (hr : rises l = true) : ∀ k, k ≤ l.length → U64s (stps l k) := by
  intro k hk x hx
  simp only [stps, List.mem_map, List.mem_range] at hx
  obtain ⟨i, hi, rfl⟩ := hx
  exact stp_range hl hr (by omega)
theorem stps_get (l : List Int) (n i : Nat) (h : i < n) : (stps l n).getD i 0 = stp l i := by simp [stps, h]
def WS.puts (s : WS) (l : List Int) : WS := l.foldl (fun s x => s.put (vb x)) s
theorem puts_snoc (s : WS) (l : List Int) (x : Int) : s.puts (l ++ [x]) = (s.puts l).put (vb x) := by simp [WS.puts]
theorem puts_ok {s : WS} (h : s.ok) (l : List Int) : (s.puts l).ok ∧ (s.puts l).most = s.most ∧ (s.puts l).l.length ≤ s.l.length + (vbs l).length := by
  induction l generalizing s with
  | nil => exact ⟨h, rfl, by simp [WS.puts, vbs]⟩
  | cons x l ih =>
    obtain ⟨h1, h2, h3⟩ := ih (h.put (vb x))
    have := put_len s (vb x)
    refine ⟨h1, h2.trans (put_most s (vb x)), ?_⟩
    show ((s.put (vb x)).puts l).l.length ≤ _
    simp [vbs] at h3 ⊢
    omega
end Go.Proofs.Ytkhnfleejgfhgaa
end
section
namespace Go.Proofs.Ytkhnfleejgfhgaa

theorem vint_adv {s : RS} (h : ROk s) (hc : s.vint.1.code = 0) : s.at_ + 1 ≤ s.vint.1.at_ ∧ s.vint.1.at_ ≤ s.l.length := by
  have h0 := h.vint.1.at1
  rw [h.vint.2] at h0
  refine ⟨?_, h0⟩
  by_cases hc0 : s.code = 0
  · obtain ⟨X, N, C, Af, hq⟩ : ∃ X N C Af, vGet s.rest = (X, N, (C, Af)) := ⟨_, _, _, _, rfl⟩
    obtain ⟨p1, p2, p3⟩ := vint_parts h hc0 hq
    by_cases c0 : C = 0
    · obtain ⟨e, h1, h2, _⟩ := p1 c0
      rw [e]; show s.at_ + 1 ≤ s.at_ + N; omega
    · by_cases c1 : C = 1
      · rw [p2 c1] at hc; simp at hc
      · obtain ⟨e, _⟩ := p3 c0 c1
        rw [e] at hc; exact absurd hc c0
  · rw [vint_bad hc0] at hc; exact absurd hc hc0
/-- One number more of a rising list. -/
def RS.rnext (s : RS) (acc : List Int) : RS × Int :=
  if acc.length = 0 then s.vint
  else if s.vint.1.code = 0 ∧ 18446744073709551616 ≤ acc.getD (acc.length - 1) 0 + 1 + s.vint.2 then (s.vint.1.fail 13 s.at_, 0)
  else (s.vint.1, acc.getD (acc.length - 1) 0 + 1 + s.vint.2)
def RS.rr (s : RS) : Nat → List Int → RS × List Int
  | 0, acc => (s, acc)
  | n + 1, acc => if (s.rnext acc).1.code = 0 then (s.rnext acc).1.rr n (acc ++ [(s.rnext acc).2]) else ((s.rnext acc).1, [])
theorem rr_good {s : RS} {acc : List Int} {N : Nat} (h : acc.length < N) (hc : (s.rnext acc).1.code = 0) : s.rr (N - acc.length) acc = (s.rnext acc).1.rr (N - (acc ++ [(s.rnext acc).2]).length) (acc ++ [(s.rnext acc).2]) := by
  obtain ⟨m, hm⟩ : ∃ m, N - acc.length = m + 1 := ⟨N - acc.length - 1, by omega⟩
  rw [hm, RS.rr, if_pos hc]
  congr 1
  simp; omega
theorem rr_bad {s : RS} {acc : List Int} {N : Nat} (h : acc.length < N) (hc : ¬ (s.rnext acc).1.code = 0) : s.rr (N - acc.length) acc = ((s.rnext acc).1, []) := by
  obtain ⟨m, hm⟩ : ∃ m, N - acc.length = m + 1 := ⟨N - acc.length - 1, by omega⟩
  rw [hm, RS.rr, if_neg hc]
theorem rr_end {s : RS} {acc : List Int} {N : Nat} (h : N ≤ acc.length) : s.rr (N - acc.length) acc = (s, acc) := by
  rw [show N - acc.length = 0 from by omega]; rfl
theorem rnext_zero {s : RS} {acc : List Int} (h : acc.length = 0) : s.rnext acc = s.vint := by unfold RS.rnext; rw [if_pos h]
theorem rnext_over {s : RS} {acc : List Int} (h : 0 < acc.length) (ho : 18446744073709551616 ≤ acc.getD (acc.length - 1) 0 + 1 + s.vint.2) :
    (s.rnext acc).1 = s.vint.1.fail 13 s.at_ ∧ ¬ (s.rnext acc).1.code = 0 := by
  unfold RS.rnext
  rw [if_neg (by omega)]
  by_cases hc : s.vint.1.code = 0
  · rw [if_pos ⟨hc, ho⟩]
    refine ⟨rfl, ?_⟩
    unfold RS.fail; rw [if_pos hc]; simp [flt]
  · rw [if_neg (by intro h; exact hc h.1)]
    refine ⟨?_, hc⟩
    unfold RS.fail; rw [if_neg hc]
theorem rnext_fits {s : RS} {acc : List Int} (h : 0 < acc.length) (ho : ¬ 18446744073709551616 ≤ acc.getD (acc.length - 1) 0 + 1 + s.vint.2) :
    s.rnext acc = (s.vint.1, acc.getD (acc.length - 1) 0 + 1 + s.vint.2) := by
  unfold RS.rnext
  rw [if_neg (by omega), if_neg (by intro h; exact ho h.2)]
/-- What is borne at each round. -/
def ROn (s : RS) (N : Nat) (a : RS × List Int) : Prop :=
  ROk a.1 ∧ a.1.l = s.l ∧ (a.2.length : Int) ≤ a.1.at_ ∧ a.2.length ≤ N ∧ U64s a.2 ∧ a.1.rr (N - a.2.length) a.2 = s.rr N []
theorem ROn.start {s : RS} (h : ROk s) (N : Nat) : ROn s N (s, []) := ⟨h, rfl, by simpa using h.at0, by simp, by intro x hx; simp at hx, rfl⟩
theorem U64s.snoc {l : List Int} {x : Int} (h : U64s l) (h0 : 0 ≤ x) (h1 : x < 18446744073709551616) : U64s (l ++ [x]) := by
  intro y hy
  rcases List.mem_append.1 hy with hy | hy
  · exact h y hy
  · simp at hy; subst hy; exact ⟨h0, h1⟩
theorem ROn.next {s t : RS} {N : Nat} {acc : List Int} (h : ROn s N (t, acc)) (hN : acc.length < N) (hc : (t.rnext acc).1.code = 0) : ROn s N ((t.rnext acc).1, acc ++ [(t.rnext acc).2]) := by
  obtain ⟨h1, h2, h3, h4, h5, h6⟩ := h
  simp only at h1 h2 h3 h4 h5 h6
  have hx := vint_range (s := t) h1.bys
  have key : (t.rnext acc).1 = t.vint.1 ∧ 0 ≤ (t.rnext acc).2 ∧ (t.rnext acc).2 < 18446744073709551616 := by
    rcases Nat.eq_zero_or_pos acc.length with hz | hz
    · rw [rnext_zero hz]; exact ⟨rfl, hx.1, hx.2⟩
    · by_cases ho : 18446744073709551616 ≤ acc.getD (acc.length - 1) 0 + 1 + t.vint.2
      · exact absurd hc (rnext_over hz ho).2
      · rw [rnext_fits hz ho]
        have hp := h5 _ (getD_mem acc (acc.length - 1) (by omega))
        exact ⟨rfl, by simp only; omega, by simp only; omega⟩
  have hadv := vint_adv h1 (key.1 ▸ hc)
  refine ⟨?_, ?_, ?_, ?_, h5.snoc key.2.1 key.2.2, ?_⟩
  · rw [key.1]; exact h1.vint.1
  · rw [key.1, h1.vint.2]; exact h2
  · rw [key.1]; simp; omega
  · simp; omega
  · rw [← h6]; exact (rr_good hN hc).symm
theorem ROn.len {s t : RS} {N : Nat} {acc : List Int} (h : ROn s N (t, acc)) : acc.length ≤ s.l.length := by
  obtain ⟨h1, h2, h3, _⟩ := h
  have := h1.at1
  simp only at h2 h3 this
  rw [h2] at this
  omega
theorem puts_fit {s : WS} (h : s.code = 0) (l : List Int) (hm : (s.l.length : Int) + (vbs l).length ≤ s.most) : s.puts l = { s with l := s.l ++ vbs l } := by
  induction l generalizing s with
  | nil => simp [WS.puts, vbs]
  | cons x l ih =>
    have e : vbs (x :: l) = vb x ++ vbs l := by simp [vbs]
    rw [e, List.length_append] at hm
    show (s.put (vb x)).puts l = _
    rw [WS.put_ok h (by omega), ih (s := { s with l := s.l ++ vb x }) h (by simp only [List.length_append]; omega), e]
    simp
theorem rises_snoc {l : List Int} {x : Int} (h : rises l = true) (hx : 0 < l.length → l.getD (l.length - 1) 0 < x) : rises (l ++ [x]) = true := by
  refine rises_iff.2 fun i hi => ?_
  simp only [List.length_append, List.length_singleton] at hi
  rcases Nat.lt_or_ge (i + 1) l.length with h1 | h1
  · have := rises_iff.1 h i h1
    have e1 : (l ++ [x]).getD i 0 = l.getD i 0 := by simp [List.getElem?_append, show i < l.length from by omega]
    have e2 : (l ++ [x]).getD (i + 1) 0 = l.getD (i + 1) 0 := by simp [List.getElem?_append, h1]
    rw [e1, e2]; exact this
  · have hi' : i + 1 = l.length := by omega
    have e1 : (l ++ [x]).getD i 0 = l.getD i 0 := by simp [List.getElem?_append, show i < l.length from by omega]
    have e2 : (l ++ [x]).getD (i + 1) 0 = x := by simp [hi']
    rw [e1, e2, show i = l.length - 1 from by omega]
    exact hx (by omega)
theorem stps_snoc (l : List Int) (x : Int) : stps (l ++ [x]) (l ++ [x]).length = stps l l.length ++ [if l.length = 0 then x else x - l.getD (l.length - 1) 0 - 1] := by
  rw [List.length_append, List.length_singleton, stps_succ]
  congr 1
  · unfold stps
    apply List.map_congr_left
    intro i hi
    simp only [List.mem_range] at hi
    unfold stp
    have e1 : (l ++ [x]).getD i 0 = l.getD i 0 := by simp [List.getElem?_append, hi]
    split
    · rename_i h0; subst h0; exact e1
    · have e2 : (l ++ [x]).getD (i - 1) 0 = l.getD (i - 1) 0 := by simp [List.getElem?_append, show i - 1 < l.length from by omega]
      rw [e1, e2]
  · congr 1
    unfold stp
    have e1 : (l ++ [x]).getD l.length 0 = x := by simp
    split
    · rename_i h0; rw [h0] at e1; exact e1
    · rename_i h0
      have e2 : (l ++ [x]).getD (l.length - 1) 0 = l.getD (l.length - 1) 0 := by simp [List.getElem?_append, show l.length - 1 < l.length from by omega]
      rw [e1, e2]
/-- The next number's bytes stand where it was read. -/
theorem vint_bytes {s : RS} (h : ROk s) (hc : s.vint.1.code = 0) : s.l.take s.vint.1.at_.toNat = s.l.take s.at_.toNat ++ vb s.vint.2 ∧ s.vint.1.l = s.l ∧ s.code = 0 := by
  have hc0 : s.code = 0 := by
    by_cases hc0 : s.code = 0
    · exact hc0
    · rw [vint_bad hc0] at hc; exact absurd hc hc0
  refine ⟨?_, h.vint.2, hc0⟩
  have h0 : (vgo 0 s.rest).1 = 0 := by
    by_cases h0 : (vgo 0 s.rest).1 = 0
    · exact h0
    · unfold RS.vint at hc
      rw [if_pos hc0, if_neg h0] at hc
      split at hc
      · simp at hc
      · exact absurd hc h0
  have hb : Bys s.rest := h.bys.drop _
  obtain ⟨k1, k2, k3, k4, k5⟩ := vgo_back hb h0
  have e : s.vint = (s.adv (vgo 0 s.rest).2.1, (vgo 0 s.rest).2.2) := by unfold RS.vint; rw [if_pos hc0, if_pos h0]
  rw [e]
  show s.l.take (s.at_ + (vgo 0 s.rest).2.1).toNat = _ ++ vb (vgo 0 s.rest).2.2
  rw [k1]
  have ha := h.at0
  rw [show (s.at_ + (vgo 0 s.rest).2.1).toNat = s.at_.toNat + (vgo 0 s.rest).2.1.toNat from by omega]
  unfold RS.rest
  rw [List.take_add]
/-- What ReadRising has read rises, and is so written. -/
theorem rr_is {s : RS} (hs : ROk s) : ∀ (N : Nat) (acc : List Int), rises acc = true → U64s acc → (s.rr N acc).1.code = 0 → ∀ b : List Int, s.l.take s.at_.toNat = b ++ vbs (stps acc acc.length) →
    rises (s.rr N acc).2 = true ∧ U64s (s.rr N acc).2 ∧ (s.rr N acc).2.length = acc.length + N ∧ (s.rr N acc).1.l = s.l ∧ ROk (s.rr N acc).1 ∧ s.l.take (s.rr N acc).1.at_.toNat = b ++ vbs (stps (s.rr N acc).2 (s.rr N acc).2.length) := by
  intro N
  induction N generalizing s with
  | zero => intro acc h1 h2 hc b hb; exact ⟨h1, h2, rfl, rfl, hs, hb⟩
  | succ N ih =>
    intro acc h1 h2 hc b hb
    simp only [RS.rr] at hc ⊢
    by_cases hn : (s.rnext acc).1.code = 0
    · rw [if_pos hn] at hc ⊢
      have hx := vint_range (s := s) hs.bys
      have key : (s.rnext acc).1 = s.vint.1 ∧ 0 ≤ (s.rnext acc).2 ∧ (s.rnext acc).2 < 18446744073709551616 ∧ (0 < acc.length → acc.getD (acc.length - 1) 0 < (s.rnext acc).2) ∧ (if acc.length = 0 then (s.rnext acc).2 else (s.rnext acc).2 - acc.getD (acc.length - 1) 0 - 1) = s.vint.2 := by
        rcases Nat.eq_zero_or_pos acc.length with hz | hz
        · rw [rnext_zero hz, if_pos hz]; exact ⟨rfl, hx.1, hx.2, fun h => by omega, rfl⟩
        · by_cases ho : 18446744073709551616 ≤ acc.getD (acc.length - 1) 0 + 1 + s.vint.2
          · exact absurd hn (rnext_over hz ho).2
          · rw [rnext_fits hz ho, if_neg (by omega)]
            have hp := h2 _ (getD_mem acc (acc.length - 1) (by omega))
            exact ⟨rfl, by simp only; omega, by simp only; omega, fun _ => by simp only; omega, by simp only; omega⟩
      obtain ⟨k1, k2, k3, k4, k5⟩ := key
      obtain ⟨v1, v2, v3⟩ := vint_bytes hs (k1 ▸ hn)
      have := ih (s := (s.rnext acc).1) (by rw [k1]; exact hs.vint.1) (acc ++ [(s.rnext acc).2]) (rises_snoc h1 k4) (h2.snoc k2 k3) hc b (by
        rw [k1, v2, v1, hb, stps_snoc, vbs_snoc, k5, List.append_assoc])
      obtain ⟨a1, a2, a3, a4, a5, a6⟩ := this
      have el : (s.rnext acc).1.l = s.l := by rw [k1]; exact v2
      refine ⟨a1, a2, ?_, a4.trans el, a5, by rw [← el]; exact a6⟩
      rw [a3]; simp; omega
    · rw [if_neg hn] at hc; exact absurd hc hn
theorem rr_bad_nil {s : RS} : ∀ (N : Nat) (acc : List Int), s.code = 0 → ¬ (s.rr N acc).1.code = 0 → (s.rr N acc).2 = [] := by
  intro N
  induction N generalizing s with
  | zero => intro acc h0 h; exact absurd h0 h
  | succ N ih =>
    intro acc h0 h
    simp only [RS.rr] at h ⊢
    by_cases hn : (s.rnext acc).1.code = 0
    · rw [if_pos hn] at h ⊢; exact ih _ hn h
    · rw [if_neg hn]
end Go.Proofs.Ytkhnfleejgfhgaa
end
section
namespace Go.Proofs.Ytkhnfleejgfhgaa

theorem vint_own {s : RS} {x : Int} {r : List Int} (hc : s.code = 0) (h0 : 0 ≤ x) (h1 : x < 18446744073709551616) (hr : s.rest = vb x ++ r) : s.vint = (s.adv ((vb x).length : Int), x) := by
  unfold RS.vint
  rw [if_pos hc, hr, vgo_vb r h0 h1]
  simp
theorem adv_rest {s : RS} (h0 : 0 ≤ s.at_) (n : Nat) : (s.adv (n : Int)).rest = s.rest.drop n := by
  unfold RS.rest RS.adv
  simp only [List.drop_drop]
  congr 1
  omega
theorem adv_adv (s : RS) (a b : Int) : (s.adv a).adv b = s.adv (a + b) := by simp [RS.adv, Int.add_assoc]
theorem rr_own {l m : List Int} (hl : U64s l) (hr : rises l = true) : ∀ (n i : Nat) (s : RS), i + n = l.length → s.code = 0 → 0 ≤ s.at_ → s.rest = vbs ((stps l l.length).drop i) ++ m → s.rr n (l.take i) = (s.adv ((vbs ((stps l l.length).drop i)).length : Int), l) := by
  intro n
  induction n with
  | zero =>
    intro i s hi hc h0 hrest
    have e : (stps l l.length).drop i = [] := List.drop_eq_nil_of_le (by rw [stps_len]; omega)
    rw [e]
    simp only [RS.rr, vbs_nil, List.length_nil]
    rw [List.take_of_length_le (by omega)]
    simp [RS.adv]
  | succ n ih =>
    intro i s hi hc h0 hrest
    have hlt : i < l.length := by omega
    have hx := stp_range hl hr hlt
    have ed : (stps l l.length).drop i = stp l i :: (stps l l.length).drop (i + 1) := by
      rw [List.drop_eq_getElem_cons (by rw [stps_len]; exact hlt)]
      congr 1
      simp [stps]
    have ev : vbs ((stps l l.length).drop i) = vb (stp l i) ++ vbs ((stps l l.length).drop (i + 1)) := by rw [ed]; simp [vbs]
    have hv := vint_own hc hx.1 hx.2 (r := vbs ((stps l l.length).drop (i + 1)) ++ m) (by rw [hrest, ev, List.append_assoc])
    have hlen : (l.take i).length = i := by simp; omega
    have hn : s.rnext (l.take i) = (s.adv ((vb (stp l i)).length : Int), l.getD i 0) := by
      rcases Nat.eq_zero_or_pos i with hz | hz
      · rw [rnext_zero (by omega), hv]
        unfold stp
        rw [if_pos hz, hz]
      · have hp : (l.take i).getD ((l.take i).length - 1) 0 = l.getD (i - 1) 0 := by
          rw [hlen]
          simp [show i - 1 < i from by omega]
        have hle := rises_iff.1 hr (i - 1) (by omega)
        rw [show i - 1 + 1 = i from by omega] at hle
        have hy := hl _ (getD_mem l i hlt)
        have es : stp l i = l.getD i 0 - l.getD (i - 1) 0 - 1 := by unfold stp; rw [if_neg (by omega)]
        rw [rnext_fits (by omega) (by rw [hp, hv]; simp only; omega), hp, hv]
        simp only [Prod.mk.injEq, true_and]
        omega
    simp only [RS.rr]
    rw [hn]
    have hc2 : (s.adv ((vb (stp l i)).length : Int)).code = 0 := hc
    rw [if_pos hc2]
    simp only
    rw [← take_snoc l i hlt, ih (i + 1) _ (by omega) hc2 (by show 0 ≤ s.at_ + ((vb (stp l i)).length : Int); omega) (by rw [adv_rest h0, hrest, ev, List.append_assoc, List.drop_left]), adv_adv, ev, List.length_append]
    congr 2
theorem vbs_ge (l : List Int) : l.length ≤ (vbs l).length := by
  induction l with
  | nil => simp
  | cons x l ih => have := (vb_len x).1; simp [vbs] at ih ⊢; omega
theorem new_take (l : List Int) : (RS.new l).l.take (RS.new l).at_.toNat = [] ++ vbs (stps [] ([] : List Int).length) := by simp [RS.new, stps, vbs]
/-- What has been read of rising lists, from a new reader. -/
theorem rr_new {l : List Int} (h : ROk (RS.new l)) (N : Nat) : ((RS.new l).rr N []).2.length ≤ l.length ∧ (((RS.new l).rr N []).1.code = 0 → rises ((RS.new l).rr N []).2 = true ∧ U64s ((RS.new l).rr N []).2 ∧ ((RS.new l).rr N []).2.length = N ∧ ROk ((RS.new l).rr N []).1 ∧ ((RS.new l).rr N []).1.l = l ∧
    l.take ((RS.new l).rr N []).1.at_.toNat = vbs (stps ((RS.new l).rr N []).2 ((RS.new l).rr N []).2.length)) ∧ (¬ ((RS.new l).rr N []).1.code = 0 → ((RS.new l).rr N []).2 = []) := by
  have hbad := rr_bad_nil (s := RS.new l) N [] rfl
  by_cases hc : ((RS.new l).rr N []).1.code = 0
  · obtain ⟨a1, a2, a3, a4, a5, a6⟩ := rr_is h N [] (by decide) (by intro x hx; simp at hx) hc [] (new_take l)
    have a6' : l.take ((RS.new l).rr N []).1.at_.toNat = vbs (stps ((RS.new l).rr N []).2 ((RS.new l).rr N []).2.length) := by simpa [RS.new] using a6
    refine ⟨?_, fun _ => ⟨a1, a2, by simpa using a3, a5, a4, a6'⟩, fun h => absurd hc h⟩
    have h1 := vbs_ge (stps ((RS.new l).rr N []).2 ((RS.new l).rr N []).2.length)
    rw [stps_len, ← a6'] at h1
    have : (l.take ((RS.new l).rr N []).1.at_.toNat).length ≤ l.length := by simp; omega
    omega
  · refine ⟨by rw [hbad hc]; simp, fun h => absurd h hc, fun h => hbad h⟩
end Go.Proofs.Ytkhnfleejgfhgaa
end
