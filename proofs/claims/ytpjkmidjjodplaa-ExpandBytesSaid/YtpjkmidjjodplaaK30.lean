/-
  Contracts of chapter 12: written tokens expanded by the code (begun; the walk of expand.Bytes is under way).
-/
import Derived.Test.YtpjkmidjjodplaaK29
set_option linter.all false
set_option linter.unusedSimpArgs false
set_option linter.unusedVariables false
set_option linter.unnecessarySimpa false
namespace Go.Proofs.Ytpjkmidjjodplaa
open Go.RowKit

section
variable {P : Program} {m : Nat} {tm : List AV} {S : List AObj} {Q : QT} {α : Type}
/-- A scope with the two labels 1 and 0: a state is borne at the one or the other. -/
theorem scope_two {c r1 r0 : C} (h1 : findC c 1 = some r1) (h0 : findC c 0 = some r0) (tmF : Bool × α → List AV) (SF : Bool × α → List AObj) (ok : Bool × α → Prop) (μ : Bool × α → Nat)
    (first : (∀ a, ok a → aw P m (cond a.1 r1 r0) (tmF a) (SF a) (qScopes m (fun a => cond a.1 1 0) tmF SF ok Q)) → aw P m c tm S (qScopes m (fun a => cond a.1 1 0) tmF SF ok Q))
    (pass : ∀ a, ok a → aw P m (cond a.1 r1 r0) (tmF a) (SF a) (qScopeds m (fun a => cond a.1 1 0) tmF SF ok μ a Q)) : aw P m (.scope c) tm S Q :=
  scope_ofs (fun a => cond a.1 1 0) (fun a => cond a.1 r1 r0) (fun a => by cases h : a.1 <;> simp only [cond] <;> assumption) tmF SF ok μ first pass
end
/-- What expand.Bytes answers from a reader and what is made so far. -/
def expR (bound : Int) (s : RS) (out : List Int) : List Int × (Int × Int) := if s.code = 0 then expB bound s out else ([], (s.code, s.fat))
/-- What it answers at its end. -/
def expE (s : RS) (out : List Int) : List Int × (Int × Int) := if s.code = 0 then (out, (0, 0)) else ([], (s.code, s.fat))
theorem expR_end {bound : Int} {s : RS} {out : List Int} (h : ¬ 0 < s.left) : expR bound s out = expE s out := by
  unfold expR expE; rw [expB_end h]
theorem expR_bad {bound : Int} {s : RS} {out o : List Int} (h : ¬ s.code = 0) : expR bound s out = expE s o := by
  unfold expR expE; rw [if_neg h, if_neg h]
theorem expE_bad {s : RS} {out o : List Int} (h : ¬ s.code = 0) : expE s out = expE s o := by
  unfold expE; rw [if_neg h, if_neg h]
theorem fail_code {s : RS} {c a : Int} (h : s.code = 0) (hc : c ≠ 0) : (s.fail c a).code = c ∧ (s.fail c a).fat = a := by
  unfold RS.fail; rw [if_pos h]; simp [flt, hc]
theorem fail_keep {s : RS} {c a : Int} (h : ¬ s.code = 0) : s.fail c a = s := by
  unfold RS.fail; rw [if_neg h]
/-- Beyond the bound. -/
theorem expR_over {bound : Int} {s : RS} {out o : List Int} (hc : s.code = 0) (h : 0 < s.left) (hb : bound < out.length + s.thead.2.2) : expR bound s out = expE (s.thead.1.fail 11 s.at_) o := by
  unfold expR; rw [if_pos hc]
  by_cases hh : s.thead.1.code = 0
  · obtain ⟨f1, f2⟩ := fail_code (a := s.at_) hh (show (11 : Int) ≠ 0 by decide)
    rw [expB_over h hh hb]; unfold expE; rw [f1, f2]; rfl
  · rw [expB_head h hh, fail_keep hh]; unfold expE; rw [if_neg hh]
/-- A run. -/
theorem expR_run {bound : Int} {s : RS} {out : List Int} (hs : ROk s) (hc : s.code = 0) (h : 0 < s.left) (hb : ¬ bound < out.length + s.thead.2.2) (hr : s.thead.2.1 = false) :
    expR bound s out = expR bound (s.thead.1.take s.thead.2.2).1 (out ++ (s.thead.1.take s.thead.2.2).2) := by
  by_cases hh : s.thead.1.code = 0
  · by_cases ht : s.token.1.code = 0
    · obtain ⟨m1, m2, m3⟩ := token_made hs ht
      obtain ⟨r1, r2, r3, r4⟩ := m3 hr
      have ho : ¬ (out.length : Int) < s.token.2.off := by rw [r2]; simp only; omega
      unfold expR
      rw [if_pos hc, if_pos r3, expB_step hs h hh hb ht ho, r4, r2]
      simp [expW, again]
    · have e : s.token.1 = (s.thead.1.take s.thead.2.2).1 := by
        unfold RS.token; rw [if_pos hh, hr]; simp only [Bool.false_eq_true, if_false]; split <;> rfl
      unfold expR
      rw [if_pos hc, expB_short h hh hb ht, ← e, if_neg ht]
  · have e : (s.thead.1.take s.thead.2.2).1 = s.thead.1 := by
      unfold RS.take RS.skip; rw [if_neg hh]; rfl
    unfold expR
    rw [if_pos hc, expB_head h hh, e, if_neg hh]
/-- A copy from beyond what is made. -/
theorem expR_far {bound : Int} {s : RS} {out o : List Int} (hc : s.code = 0) (h : 0 < s.left) (hb : ¬ bound < out.length + s.thead.2.2) (hr : s.thead.2.1 = true) (hf : (out.length : Int) < s.thead.1.toff.2) :
    expR bound s out = expE (s.thead.1.toff.1.fail 10 s.thead.1.at_) o := by
  have hh : s.thead.1.code = 0 := by
    by_cases hh : s.thead.1.code = 0
    · exact hh
    · rw [thead_bad hh] at hr; cases hr
  have ht : s.thead.1.toff.1.code = 0 := by
    by_cases ht : s.thead.1.toff.1.code = 0
    · exact ht
    · rw [toff_bad ht] at hf; omega
  have e : s.token = (s.thead.1.toff.1, ⟨[], s.thead.1.toff.2, s.thead.2.2⟩) := by
    unfold RS.token; rw [if_pos hh, if_pos hr, if_pos ht]
  obtain ⟨f1, f2⟩ := fail_code (a := s.thead.1.at_) ht (show (10 : Int) ≠ 0 by decide)
  unfold expR
  rw [if_pos hc, expB_far h hh hb (by rw [e]; exact ht) (by rw [e]; exact hf)]
  unfold expE; rw [f1, f2]; rfl
/-- A copy. -/
theorem expR_copy {bound : Int} {s : RS} {out : List Int} (hs : ROk s) (hc : s.code = 0) (h : 0 < s.left) (hb : ¬ bound < out.length + s.thead.2.2) (hr : s.thead.2.1 = true) (hf : ¬ (out.length : Int) < s.thead.1.toff.2) (ht : s.thead.1.toff.1.code = 0) :
    expR bound s out = expR bound s.thead.1.toff.1 (again out s.thead.1.toff.2.toNat s.thead.2.2.toNat) := by
  have hh : s.thead.1.code = 0 := by
    by_cases hh : s.thead.1.code = 0
    · exact hh
    · rw [thead_bad hh] at hr; cases hr
  have e : s.token = (s.thead.1.toff.1, ⟨[], s.thead.1.toff.2, s.thead.2.2⟩) := by
    unfold RS.token; rw [if_pos hh, if_pos hr, if_pos ht]
  unfold expR
  rw [if_pos hc, if_pos ht, expB_step hs h hh hb (by rw [e]; exact ht) (by rw [e]; exact hf), e]
  simp [expW]
/-- A copy whose offset cannot be read. -/
theorem expR_short {bound : Int} {s : RS} {out : List Int} (hc : s.code = 0) (h : 0 < s.left) (hb : ¬ bound < out.length + s.thead.2.2) (hr : s.thead.2.1 = true) (ht : ¬ s.thead.1.toff.1.code = 0) (o : List Int) :
    expR bound s out = expE s.thead.1.toff.1 o := by
  have hh : s.thead.1.code = 0 := by
    by_cases hh : s.thead.1.code = 0
    · exact hh
    · rw [thead_bad hh] at hr; cases hr
  have e : s.token = (s.thead.1.toff.1, tk0) := by
    unfold RS.token; rw [if_pos hh, if_pos hr, if_neg ht]
  unfold expR expE
  rw [if_pos hc, if_neg ht, expB_short h hh hb (by rw [e]; exact ht), e]
end Go.Proofs.Ytpjkmidjjodplaa
