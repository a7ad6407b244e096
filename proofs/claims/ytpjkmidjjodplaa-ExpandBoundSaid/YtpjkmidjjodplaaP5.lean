/-
  Plain laws of chapter 11: tokens. No program.
-/
import Derived.Test.YtpjkmidjjodplaaP2
set_option linter.all false
set_option linter.unusedSimpArgs false
set_option linter.unusedVariables false
set_option linter.unnecessarySimpa false
section
namespace Go.Proofs.Ytpjkmidjjodplaa

structure Tk where
  lit : List Int
  off : Int
  len : Int
deriving DecidableEq
def tk0 : Tk := ⟨[], 0, 0⟩
def Tk.run (t : Tk) : Bool := decide (t.off = 0 ∧ t.len = 0 ∧ 1 ≤ t.lit.length ∧ t.lit.length ≤ 1048576)
def Tk.copy (t : Tk) : Bool := decide (t.lit.length = 0 ∧ 1 ≤ t.off ∧ t.off ≤ 65536 ∧ 4 ≤ t.len ∧ t.len ≤ 1048576)
def Tk.right (t : Tk) : Bool := t.run || t.copy
def Tk.made (t : Tk) : Int := if t.run = true then t.lit.length else if t.copy = true then t.len else 0
/-- What a token in memory is: its bytes are bytes, its numbers fit. -/
structure Tk.ok (t : Tk) : Prop where
  lit : Bys t.lit
  off0 : -9223372036854775808 ≤ t.off
  off1 : t.off < 9223372036854775808
  len0 : -9223372036854775808 ≤ t.len
  len1 : t.len < 9223372036854775808
theorem run_iff {t : Tk} : t.run = true ↔ t.off = 0 ∧ t.len = 0 ∧ 1 ≤ t.lit.length ∧ t.lit.length ≤ 1048576 := by simp [Tk.run]
theorem copy_iff {t : Tk} : t.copy = true ↔ t.lit = [] ∧ 1 ≤ t.off ∧ t.off ≤ 65536 ∧ 4 ≤ t.len ∧ t.len ≤ 1048576 := by simp [Tk.copy]
theorem right_iff {t : Tk} : t.right = true ↔ t.run = true ∨ t.copy = true := by simp [Tk.right]
theorem run_not_copy {t : Tk} (h : t.run = true) : t.copy = false := by
  cases hc : t.copy with
  | false => rfl
  | true => have h1 := run_iff.1 h; have h2 := copy_iff.1 hc; omega
/-- How a token is written. -/
def tokB (t : Tk) : List Int := if t.run = true then vb (2 * t.lit.length - 2) ++ t.lit else vb (2 * t.len - 7) ++ vb (t.off - 1)
/-- The number with which a token begins: the reader behind it, is it a copy, of how many bytes (0: a fault). -/
def RS.thead (s : RS) : RS × Bool × Int :=
  if s.vint.1.code = 0 then
    (if s.vint.2 % 2 = 1 then (if 1048572 < s.vint.2 / 2 then (s.vint.1.fail 2 s.at_, false, 0) else (s.vint.1, true, s.vint.2 / 2 + 4))
    else (if 1048575 < s.vint.2 / 2 then (s.vint.1.fail 2 s.at_, false, 0) else (s.vint.1, false, s.vint.2 / 2 + 1)))
  else (s.vint.1, false, 0)
def RS.toff (s : RS) : RS × Int :=
  if s.vint.1.code = 0 then (if 65536 ≤ s.vint.2 then (s.vint.1.fail 10 s.at_, 0) else (s.vint.1, s.vint.2 + 1)) else (s.vint.1, 0)
/-- The reader behind a token, and that. -/
def RS.token (s : RS) : RS × Tk :=
  if s.thead.1.code = 0 then
    (if s.thead.2.1 = true then (if s.thead.1.toff.1.code = 0 then (s.thead.1.toff.1, ⟨[], s.thead.1.toff.2, s.thead.2.2⟩) else (s.thead.1.toff.1, tk0))
    else (if (s.thead.1.take s.thead.2.2).1.code = 0 then ((s.thead.1.take s.thead.2.2).1, ⟨(s.thead.1.take s.thead.2.2).2, 0, 0⟩) else ((s.thead.1.take s.thead.2.2).1, tk0)))
  else (s.thead.1, tk0)
theorem thead_keep {s : RS} (h : ROk s) : ROk s.thead.1 ∧ s.thead.1.l = s.l := by
  obtain ⟨a, b⟩ := h.vint
  unfold RS.thead
  repeat' split
  all_goals first | exact ⟨a, b⟩ | exact ⟨a.fail _ _, by rw [fail_l]; exact b⟩
theorem toff_keep {s : RS} (h : ROk s) : ROk s.toff.1 ∧ s.toff.1.l = s.l := by
  obtain ⟨a, b⟩ := h.vint
  unfold RS.toff
  repeat' split
  all_goals first | exact ⟨a, b⟩ | exact ⟨a.fail _ _, by rw [fail_l]; exact b⟩
theorem token_keep {s : RS} (h : ROk s) : ROk s.token.1 ∧ s.token.1.l = s.l := by
  obtain ⟨a, b⟩ := thead_keep h
  obtain ⟨c, d⟩ := toff_keep a
  have e := a.take s.thead.2.2
  have f := (a.ok.take s.thead.2.2).2
  unfold RS.token
  repeat' split
  all_goals first | exact ⟨a, b⟩ | exact ⟨c, d.trans b⟩ | exact ⟨e, f.trans b⟩
theorem fail_no {s : RS} {c a : Int} (h : s.code = 0) (hc : c ≠ 0) : ¬ (s.fail c a).code = 0 := by
  unfold RS.fail; rw [if_pos h]; simp [flt, hc]
/-- What the head says, where there is no fault. -/
theorem thead_is {s : RS} (h : ROk s) (hc : s.thead.1.code = 0) : s.vint.1.code = 0 ∧ s.thead.1 = s.vint.1 ∧
    ((s.thead.2.1 = true ∧ s.vint.2 = 2 * s.thead.2.2 - 7 ∧ 4 ≤ s.thead.2.2 ∧ s.thead.2.2 ≤ 1048576) ∨ (s.thead.2.1 = false ∧ s.vint.2 = 2 * s.thead.2.2 - 2 ∧ 1 ≤ s.thead.2.2 ∧ s.thead.2.2 ≤ 1048576)) := by
  have hv := vint_range (s := s) h.bys
  unfold RS.thead at hc ⊢
  by_cases h0 : s.vint.1.code = 0
  · rw [if_pos h0] at hc ⊢
    by_cases h1 : s.vint.2 % 2 = 1
    · rw [if_pos h1] at hc ⊢
      by_cases h2 : 1048572 < s.vint.2 / 2
      · rw [if_pos h2] at hc; exact absurd hc (fail_no h0 (by decide))
      · rw [if_neg h2]; exact ⟨h0, rfl, .inl ⟨rfl, by simp only; omega, by simp only; omega, by simp only; omega⟩⟩
    · rw [if_neg h1] at hc ⊢
      by_cases h2 : 1048575 < s.vint.2 / 2
      · rw [if_pos h2] at hc; exact absurd hc (fail_no h0 (by decide))
      · rw [if_neg h2]; exact ⟨h0, rfl, .inr ⟨rfl, by simp only; omega, by simp only; omega, by simp only; omega⟩⟩
  · rw [if_neg h0] at hc; exact absurd hc h0
theorem thead_bad {s : RS} (hc : ¬ s.thead.1.code = 0) : s.thead.2 = (false, 0) := by
  unfold RS.thead at hc ⊢
  by_cases h0 : s.vint.1.code = 0
  · rw [if_pos h0] at hc ⊢
    by_cases h1 : s.vint.2 % 2 = 1
    · rw [if_pos h1] at hc ⊢
      by_cases h2 : 1048572 < s.vint.2 / 2
      · rw [if_pos h2]
      · rw [if_neg h2] at hc; exact absurd h0 hc
    · rw [if_neg h1] at hc ⊢
      by_cases h2 : 1048575 < s.vint.2 / 2
      · rw [if_pos h2]
      · rw [if_neg h2] at hc; exact absurd h0 hc
  · rw [if_neg h0]
theorem toff_is {s : RS} (hc : s.toff.1.code = 0) : s.vint.1.code = 0 ∧ s.toff.1 = s.vint.1 ∧ s.toff.2 = s.vint.2 + 1 ∧ s.vint.2 < 65536 := by
  unfold RS.toff at hc ⊢
  by_cases h0 : s.vint.1.code = 0
  · rw [if_pos h0] at hc ⊢
    by_cases h2 : 65536 ≤ s.vint.2
    · rw [if_pos h2] at hc; exact absurd hc (fail_no h0 (by decide))
    · rw [if_neg h2]; exact ⟨h0, rfl, rfl, by omega⟩
  · rw [if_neg h0] at hc; exact absurd hc h0
theorem toff_bad {s : RS} (hc : ¬ s.toff.1.code = 0) : s.toff.2 = 0 := by
  unfold RS.toff at hc ⊢
  by_cases h0 : s.vint.1.code = 0
  · rw [if_pos h0] at hc ⊢
    by_cases h2 : 65536 ≤ s.vint.2
    · rw [if_pos h2]
    · rw [if_neg h2] at hc; exact absurd h0 hc
  · rw [if_neg h0]
theorem token_is {s : RS} (h : ROk s) (hc : s.token.1.code = 0) : s.code = 0 ∧ s.token.2.right = true ∧ Bys s.token.2.lit ∧ s.at_ < s.token.1.at_ ∧ s.l.take s.token.1.at_.toNat = s.l.take s.at_.toNat ++ tokB s.token.2 := by
  unfold RS.token at hc ⊢
  by_cases h0 : s.thead.1.code = 0
  · obtain ⟨a, b⟩ := thead_keep h
    obtain ⟨k1, k2, k3⟩ := thead_is h h0
    obtain ⟨v1, v2, v3⟩ := vint_bytes h k1
    have ha := vint_adv h k1
    rw [if_pos h0] at hc ⊢
    rcases k3 with ⟨c1, c2, c3, c4⟩ | ⟨c1, c2, c3, c4⟩
    · rw [if_pos c1] at hc ⊢
      by_cases h3 : s.thead.1.toff.1.code = 0
      · rw [if_pos h3] at hc ⊢
        obtain ⟨t1, t2, t3, t4⟩ := toff_is h3
        obtain ⟨w1, w2, w3⟩ := vint_bytes a t1
        have hb := vint_adv a t1
        have hr := vint_range (s := s.thead.1) a.bys
        have hcp : (Tk.mk [] s.thead.1.toff.2 s.thead.2.2).copy = true := copy_iff.2 ⟨rfl, by simp only; omega, by simp only; omega, c3, c4⟩
        have hrn : (Tk.mk [] s.thead.1.toff.2 s.thead.2.2).run = false := by
          cases q : (Tk.mk [] s.thead.1.toff.2 s.thead.2.2).run with
          | false => rfl
          | true => rw [run_not_copy q] at hcp; cases hcp
        refine ⟨v3, right_iff.2 (.inr hcp), (fun x hx => by simp at hx), by simp only; rw [t2, k2] at *; omega, ?_⟩
        simp only [tokB, hrn, Bool.false_eq_true, if_false]
        rw [t2, ← b, w1, b, t3, show s.thead.1.vint.2 + 1 - 1 = s.thead.1.vint.2 from by omega, k2, v1, ← c2, List.append_assoc]
      · rw [if_neg h3] at hc; exact absurd hc h3
    · rw [c1] at hc ⊢
      simp only [Bool.false_eq_true, if_false] at hc ⊢
      by_cases h3 : (s.thead.1.take s.thead.2.2).1.code = 0
      · rw [if_pos h3] at hc ⊢
        obtain ⟨t1, t2, t3, t4, t5⟩ := take_bytes a h3
        have hrn : (Tk.mk (s.thead.1.take s.thead.2.2).2 0 0).run = true := run_iff.2 ⟨rfl, rfl, by simp only; omega, by simp only; omega⟩
        refine ⟨v3, right_iff.2 (.inl hrn), take_bys a.bys _, by simp only; rw [t4, k2]; omega, ?_⟩
        simp only [tokB, hrn, if_true]
        rw [← b, t5, b, t3, k2, v1, ← c2, List.append_assoc]
      · rw [if_neg h3] at hc; exact absurd hc h3
  · rw [if_neg h0] at hc; exact absurd hc h0
theorem token_bad {s : RS} (hc : ¬ s.token.1.code = 0) : s.token.2 = tk0 := by
  unfold RS.token at hc ⊢
  by_cases h0 : s.thead.1.code = 0
  · rw [if_pos h0] at hc ⊢
    split at hc
    · rename_i h1
      rw [if_pos h1]
      split at hc
      · contradiction
      · rename_i h2; rw [if_neg h2]
    · rename_i h1
      rw [if_neg h1]
      split at hc
      · contradiction
      · rename_i h2; rw [if_neg h2]
  · rw [if_neg h0]
theorem token_own {s : RS} {t : Tk} {r : List Int} (h : ROk s) (hc : s.code = 0) (ht : t.right = true) (hr : s.rest = tokB t ++ r) : s.token = (s.adv ((tokB t).length : Int), t) := by
  obtain ⟨lit, off, len⟩ := t
  rcases right_iff.1 ht with h1 | h1
  · obtain ⟨a1, a2, a3, a4⟩ := run_iff.1 h1
    simp only at a1 a2 a3 a4
    subst a1 a2
    have eB : tokB ⟨lit, 0, 0⟩ = vb (2 * lit.length - 2) ++ lit := by simp [tokB, h1]
    rw [eB, List.append_assoc] at hr
    have v := vint_own hc (by omega) (by omega) hr
    have b := adv_ok h hr
    have hh : s.thead = (s.adv ((vb (2 * (lit.length : Int) - 2)).length : Int), false, (lit.length : Int)) := by
      unfold RS.thead
      rw [v]
      simp only
      rw [if_pos (show (s.adv ((vb (2 * (lit.length : Int) - 2)).length : Int)).code = 0 from hc), if_neg (by omega), if_neg (by omega)]
      simp only [Prod.mk.injEq, true_and]
      omega
    have tk := take_own b (show (s.adv ((vb (2 * (lit.length : Int) - 2)).length : Int)).code = 0 from hc) (b := lit) (r := r) (by rw [adv_rest h.at0, hr, List.drop_left])
    unfold RS.token
    rw [hh]
    simp only
    rw [tk]
    simp only [Bool.false_eq_true, if_false]
    have c2 : ((s.adv ((vb (2 * (lit.length : Int) - 2)).length : Int)).adv (lit.length : Int)).code = 0 := hc
    have c3 : (s.adv ((vb (2 * (lit.length : Int) - 2)).length : Int)).code = 0 := hc
    rw [if_pos c3, if_pos c2, eB, adv_adv, List.length_append]
    rfl
  · obtain ⟨a1, a2, a3, a4, a5⟩ := copy_iff.1 h1
    simp only at a1 a2 a3 a4 a5
    subst a1
    have hrn : (Tk.mk [] off len).run = false := by
      cases q : (Tk.mk [] off len).run with
      | false => rfl
      | true => rw [run_not_copy q] at h1; cases h1
    have eB : tokB ⟨[], off, len⟩ = vb (2 * len - 7) ++ vb (off - 1) := by simp [tokB, hrn]
    rw [eB, List.append_assoc] at hr
    have v := vint_own hc (by omega) (by omega) hr
    have b := adv_ok h hr
    have c3 : (s.adv ((vb (2 * len - 7)).length : Int)).code = 0 := hc
    have hh : s.thead = (s.adv ((vb (2 * len - 7)).length : Int), true, len) := by
      unfold RS.thead
      rw [v]
      simp only
      rw [if_pos c3, if_pos (by omega), if_neg (by omega)]
      simp only [Prod.mk.injEq, true_and]
      omega
    have v2 := vint_own (x := off - 1) (r := r) c3 (by omega) (by omega) (by rw [adv_rest h.at0, hr, List.drop_left])
    have c4 : ((s.adv ((vb (2 * len - 7)).length : Int)).adv ((vb (off - 1)).length : Int)).code = 0 := hc
    have ho : (s.adv ((vb (2 * len - 7)).length : Int)).toff = ((s.adv ((vb (2 * len - 7)).length : Int)).adv ((vb (off - 1)).length : Int), off) := by
      unfold RS.toff
      rw [v2]
      simp only
      rw [if_pos c4, if_neg (by omega)]
      simp only [Prod.mk.injEq, true_and]
      omega
    unfold RS.token
    rw [hh]
    simp only
    rw [ho]
    simp only [if_true]
    rw [if_pos c3, if_pos c4, eB, adv_adv, List.length_append]
    rfl
end Go.Proofs.Ytpjkmidjjodplaa
end
