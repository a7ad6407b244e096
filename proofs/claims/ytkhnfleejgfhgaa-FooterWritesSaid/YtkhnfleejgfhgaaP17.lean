/-
  Plain laws of chapter 17: epochs and positions read. No program.
-/
import Derived.Test.YtkhnfleejgfhgaaP2
set_option linter.all false
set_option linter.unusedSimpArgs false
set_option linter.unusedVariables false
set_option linter.unnecessarySimpa false
namespace Go.Proofs.Ytkhnfleejgfhgaa

def epRight (e : Int) : Bool := decide (1 ≤ e) && decide (e < 4611686018427387904)
def epPos (e : Int) : Bool := decide (e < 4611686018427387904)
def epTail (e : Int) : Bool := decide (e ≤ 4611686018427387904)
def epAdmit (own : Int) (sealed : Bool) (e : Int) : Int :=
  if (!epRight own || !epRight e) = true then 3 else if own < e then 13 else if (decide (e < own) || sealed) = true then 18 else 0
/-- The next number, where ok lets it be. -/
def RS.epo (s : RS) (ok : Int → Bool) : RS × Int := if s.vint.1.code = 0 then (if ok s.vint.2 = true then s.vint else (s.vint.1.fail 3 s.at_, 0)) else (s.vint.1, 0)
theorem epRight_iff {e : Int} : epRight e = true ↔ 1 ≤ e ∧ e < 4611686018427387904 := by simp [epRight]
theorem epPos_iff {e : Int} : epPos e = true ↔ e < 4611686018427387904 := by simp [epPos]
theorem epo_keep {s : RS} (h : ROk s) (ok : Int → Bool) : ROk (s.epo ok).1 ∧ (s.epo ok).1.l = s.l := by
  obtain ⟨a, b⟩ := h.vint
  unfold RS.epo
  repeat' split
  · exact ⟨a, b⟩
  · exact ⟨a.fail _ _, by rw [fail_l]; exact b⟩
  · exact ⟨a, b⟩
theorem fail_not3 {s : RS} (a : Int) (h : s.code = 0) : ¬ (s.fail 3 a).code = 0 := by
  unfold RS.fail; rw [if_pos h]; simp [flt]
theorem epo_code {s : RS} {ok : Int → Bool} (hc : (s.epo ok).1.code = 0) : s.vint.1.code = 0 ∧ ok s.vint.2 = true ∧ s.epo ok = s.vint := by
  unfold RS.epo at hc ⊢
  by_cases h : s.vint.1.code = 0
  · rw [if_pos h] at hc ⊢
    by_cases ho : ok s.vint.2 = true
    · rw [if_pos ho]; exact ⟨h, ho, rfl⟩
    · rw [if_neg ho] at hc; exact absurd hc (fail_not3 _ h)
  · rw [if_neg h] at hc; exact absurd hc h
theorem epo_is {s : RS} (h : ROk s) {ok : Int → Bool} (hc : (s.epo ok).1.code = 0) : s.code = 0 ∧ 0 ≤ (s.epo ok).2 ∧ (s.epo ok).2 < 18446744073709551616 ∧ ok (s.epo ok).2 = true ∧ s.at_ < (s.epo ok).1.at_ ∧ s.l.take (s.epo ok).1.at_.toNat = s.l.take s.at_.toNat ++ vb (s.epo ok).2 := by
  obtain ⟨h1, h2, h3⟩ := epo_code hc
  have hv := vint_range (s := s) h.bys
  obtain ⟨v1, v2, v3⟩ := vint_bytes h h1
  have ha := vint_adv h h1
  rw [h3]
  exact ⟨v3, hv.1, hv.2, h2, by omega, v1⟩
theorem epo_own {s : RS} {ok : Int → Bool} {x : Int} {r : List Int} (hc : s.code = 0) (h0 : 0 ≤ x) (h1 : x < 18446744073709551616) (ho : ok x = true) (hr : s.rest = vb x ++ r) : s.epo ok = (s.adv ((vb x).length : Int), x) := by
  have hv := vint_own hc h0 h1 hr
  unfold RS.epo
  rw [hv]; simp only
  rw [if_pos (show (s.adv ((vb x).length : Int)).code = 0 from hc), if_pos ho]
theorem epo_bad {s : RS} {ok : Int → Bool} (hc : ¬ (s.epo ok).1.code = 0) : (s.epo ok).2 = 0 := by
  unfold RS.epo at hc ⊢
  split
  · rename_i h
    rw [if_pos h] at hc
    split
    · rename_i ho; rw [if_pos ho] at hc; exact absurd h hc
    · rfl
  · rfl
end Go.Proofs.Ytkhnfleejgfhgaa
