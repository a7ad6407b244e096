/-
  Plain laws of chapter 12: the bytes of written tokens, how many they are. No program.
-/
import Derived.Test.YtpjkmidjjodplaaP7
set_option linter.all false
set_option linter.unusedSimpArgs false
set_option linter.unusedVariables false
set_option linter.unnecessarySimpa false
namespace Go.Proofs.Ytpjkmidjjodplaa

def expBn (bound : Int) : Nat → RS → List Int → List Int × (Int × Int)
  | 0, _, out => (out, (0, 0))
  | n + 1, s, out => if 0 < s.left then
      (if s.thead.1.code = 0 then
        (if bound < out.length + s.thead.2.2 then ([], (11, s.at_))
        else if s.token.1.code = 0 then (if (out.length : Int) < s.token.2.off then ([], (10, s.thead.1.at_)) else expBn bound n s.token.1 (expW out s.token.2))
        else ([], (s.token.1.code, s.token.1.fat)))
      else ([], (s.thead.1.code, s.thead.1.fat)))
    else (out, (0, 0))
theorem token_left {s : RS} (h : ROk s) (hc : s.token.1.code = 0) : s.token.1.left < s.left ∧ ROk s.token.1 ∧ s.token.1.l = s.l := by
  obtain ⟨k1, k2⟩ := token_keep h
  obtain ⟨_, _, _, h4, _⟩ := token_is h hc
  refine ⟨by unfold RS.left; rw [k2]; omega, k1, k2⟩
theorem expBn_done {bound : Int} {n : Nat} {s : RS} {out : List Int} (h : ¬ 0 < s.left) : expBn bound n s out = (out, (0, 0)) := by
  cases n with
  | zero => rfl
  | succ n => rw [expBn, if_neg h]
theorem expBn_more {bound : Int} : ∀ (n m : Nat) (s : RS) (out : List Int), ROk s → s.left ≤ n → s.left ≤ m → expBn bound n s out = expBn bound m s out := by
  intro n
  induction n with
  | zero => intro m s out _ h1 _; rw [expBn_done (n := m) (by omega)]; rfl
  | succ n ih =>
    intro m s out h h1 h2
    by_cases hl : 0 < s.left
    · obtain ⟨k, rfl⟩ : ∃ k, m = k + 1 := ⟨m - 1, by omega⟩
      rw [expBn, expBn, if_pos hl, if_pos hl]
      by_cases hh : s.thead.1.code = 0
      · rw [if_pos hh, if_pos hh]
        by_cases hb : bound < out.length + s.thead.2.2
        · rw [if_pos hb, if_pos hb]
        · rw [if_neg hb, if_neg hb]
          by_cases ht : s.token.1.code = 0
          · rw [if_pos ht, if_pos ht]
            by_cases ho : (out.length : Int) < s.token.2.off
            · rw [if_pos ho, if_pos ho]
            · rw [if_neg ho, if_neg ho]
              obtain ⟨t1, t2, _⟩ := token_left h ht
              exact ih k _ _ t2 (by omega) (by omega)
          · rw [if_neg ht, if_neg ht]
      · rw [if_neg hh, if_neg hh]
    · rw [expBn_done hl, expBn_done hl]
/-- The bytes of written tokens behind some. -/
def expB (bound : Int) (s : RS) (out : List Int) : List Int × (Int × Int) := expBn bound s.left.toNat s out
theorem expB_end {bound : Int} {s : RS} {out : List Int} (h : ¬ 0 < s.left) : expB bound s out = (out, (0, 0)) := expBn_done h
theorem expB_un {bound : Int} {s : RS} {out : List Int} (h : 0 < s.left) : ∃ n, s.left.toNat = n + 1 := ⟨s.left.toNat - 1, by omega⟩
theorem expB_head {bound : Int} {s : RS} {out : List Int} (h : 0 < s.left) (hh : ¬ s.thead.1.code = 0) : expB bound s out = ([], (s.thead.1.code, s.thead.1.fat)) := by
  obtain ⟨n, hn⟩ := expB_un (bound := bound) (out := out) h
  unfold expB; rw [hn, expBn, if_pos h, if_neg hh]
theorem expB_over {bound : Int} {s : RS} {out : List Int} (h : 0 < s.left) (hh : s.thead.1.code = 0) (hb : bound < out.length + s.thead.2.2) : expB bound s out = ([], (11, s.at_)) := by
  obtain ⟨n, hn⟩ := expB_un (bound := bound) (out := out) h
  unfold expB; rw [hn, expBn, if_pos h, if_pos hh, if_pos hb]
theorem expB_short {bound : Int} {s : RS} {out : List Int} (h : 0 < s.left) (hh : s.thead.1.code = 0) (hb : ¬ bound < out.length + s.thead.2.2) (ht : ¬ s.token.1.code = 0) : expB bound s out = ([], (s.token.1.code, s.token.1.fat)) := by
  obtain ⟨n, hn⟩ := expB_un (bound := bound) (out := out) h
  unfold expB; rw [hn, expBn, if_pos h, if_pos hh, if_neg hb, if_neg ht]
theorem expB_far {bound : Int} {s : RS} {out : List Int} (h : 0 < s.left) (hh : s.thead.1.code = 0) (hb : ¬ bound < out.length + s.thead.2.2) (ht : s.token.1.code = 0) (ho : (out.length : Int) < s.token.2.off) : expB bound s out = ([], (10, s.thead.1.at_)) := by
  obtain ⟨n, hn⟩ := expB_un (bound := bound) (out := out) h
  unfold expB; rw [hn, expBn, if_pos h, if_pos hh, if_neg hb, if_pos ht, if_pos ho]
theorem expB_step {bound : Int} {s : RS} {out : List Int} (hs : ROk s) (h : 0 < s.left) (hh : s.thead.1.code = 0) (hb : ¬ bound < out.length + s.thead.2.2) (ht : s.token.1.code = 0) (ho : ¬ (out.length : Int) < s.token.2.off) : expB bound s out = expB bound s.token.1 (expW out s.token.2) := by
  obtain ⟨n, hn⟩ := expB_un (bound := bound) (out := out) h
  obtain ⟨t1, t2, _⟩ := token_left hs ht
  have hge := left_ge t2
  unfold expB
  rw [hn, expBn, if_pos h, if_pos hh, if_neg hb, if_pos ht, if_neg ho]
  exact expBn_more _ _ _ _ t2 (by omega) (by omega)
/-- A token's head is the one of its own bytes. -/
theorem token_head {s : RS} (ht : s.token.1.code = 0) : s.thead.1.code = 0 := by
  by_cases h : s.thead.1.code = 0
  · exact h
  · unfold RS.token at ht; rw [if_neg h] at ht; exact ht
theorem token_made {s : RS} (h : ROk s) (ht : s.token.1.code = 0) : s.token.2.made = s.thead.2.2 ∧ (s.thead.2.1 = true → s.token.2.copy = true ∧ s.token.2 = ⟨[], s.thead.1.toff.2, s.thead.2.2⟩ ∧ s.thead.1.toff.1.code = 0 ∧ s.token.1 = s.thead.1.toff.1) ∧
    (s.thead.2.1 = false → s.token.2.run = true ∧ s.token.2 = ⟨(s.thead.1.take s.thead.2.2).2, 0, 0⟩ ∧ (s.thead.1.take s.thead.2.2).1.code = 0 ∧ s.token.1 = (s.thead.1.take s.thead.2.2).1) := by
  have hh := token_head ht
  obtain ⟨a, b⟩ := thead_keep h
  obtain ⟨k1, k2, k3⟩ := thead_is h hh
  have e : s.token = if s.thead.2.1 = true then (if s.thead.1.toff.1.code = 0 then (s.thead.1.toff.1, ⟨[], s.thead.1.toff.2, s.thead.2.2⟩) else (s.thead.1.toff.1, tk0)) else (if (s.thead.1.take s.thead.2.2).1.code = 0 then ((s.thead.1.take s.thead.2.2).1, ⟨(s.thead.1.take s.thead.2.2).2, 0, 0⟩) else ((s.thead.1.take s.thead.2.2).1, tk0)) := by
    unfold RS.token; rw [if_pos hh]
  rcases k3 with ⟨c1, c2, c3, c4⟩ | ⟨c1, c2, c3, c4⟩
  · rw [if_pos c1] at e
    by_cases h3 : s.thead.1.toff.1.code = 0
    · rw [if_pos h3] at e
      obtain ⟨t1, t2, t3, t4⟩ := toff_is h3
      have hr := vint_range (s := s.thead.1) a.bys
      have hcp : (Tk.mk [] s.thead.1.toff.2 s.thead.2.2).copy = true := copy_iff.2 ⟨rfl, by simp only; omega, by simp only; omega, c3, c4⟩
      have hrn : (Tk.mk [] s.thead.1.toff.2 s.thead.2.2).run = false := by
        cases q : (Tk.mk [] s.thead.1.toff.2 s.thead.2.2).run with
        | false => rfl
        | true => rw [run_not_copy q] at hcp; cases hcp
      rw [e]
      refine ⟨by simp [Tk.made, hrn, hcp], fun _ => ⟨hcp, rfl, h3, rfl⟩, fun h => by rw [c1] at h; cases h⟩
    · rw [if_neg h3] at e; rw [e] at ht; exact absurd ht h3
  · rw [c1] at e
    simp only [Bool.false_eq_true, if_false] at e
    by_cases h3 : (s.thead.1.take s.thead.2.2).1.code = 0
    · rw [if_pos h3] at e
      obtain ⟨t1, t2, t3, t4, t5⟩ := take_bytes a h3
      have hrn : (Tk.mk (s.thead.1.take s.thead.2.2).2 0 0).run = true := run_iff.2 ⟨rfl, rfl, by simp only; omega, by simp only; omega⟩
      rw [e]
      refine ⟨by simp [Tk.made, hrn, t3], fun h => (by rw [c1] at h; cases h), fun _ => ⟨hrn, rfl, h3, rfl⟩⟩
    · rw [if_neg h3] at e; rw [e] at ht; exact absurd ht h3
/-- How many bytes the first k tokens make. -/
def tsum : List Tk → Int
  | [] => 0
  | t :: l => t.made + tsum l
theorem tsum_snoc (l : List Tk) (t : Tk) : tsum (l ++ [t]) = tsum l + t.made := by
  induction l with
  | nil => simp [tsum]
  | cons x l ih => simp only [List.cons_append, tsum, ih]; omega
theorem tsum_ge (l : List Tk) : 0 ≤ tsum l := by
  induction l with
  | nil => simp [tsum]
  | cons x l ih => have := made_ge (t := x); simp only [tsum]; omega
theorem tsum_le {l : List Tk} (h : ∀ t ∈ l, t.right = true) : tsum l ≤ 1048576 * l.length := by
  induction l with
  | nil => simp [tsum]
  | cons x l ih =>
    have h1 := made_pos (h x (List.mem_cons_self ..))
    have h2 := ih fun t ht => h t (List.mem_cons_of_mem _ ht)
    simp only [tsum, List.length_cons]; omega
/-- If written tokens make bytes, they can be read to the end, and make so many. -/
theorem expB_ok {bound : Int} : ∀ (n : Nat) (s : RS) (out : List Int) (acc : List Tk), ROk s → s.code = 0 → Wf tokF.nx [] acc → s.left ≤ n → (out.length : Int) = tsum acc → (expB bound s out).2.1 = 0 → (tokF.rest s acc).1.code = 0 ∧ ((expB bound s out).1.length : Int) = tsum (tokF.rest s acc).2 := by
  intro n
  induction n with
  | zero =>
    intro s out acc h hc _ hl ho he
    rw [expB_end (by omega), rest_end (by omega)]
    exact ⟨hc, ho⟩
  | succ n ih =>
    intro s out acc h hc hw hl ho he
    by_cases hp : 0 < s.left
    · by_cases hh : s.thead.1.code = 0
      · by_cases hb : bound < out.length + s.thead.2.2
        · rw [expB_over hp hh hb] at he; simp at he
        · by_cases ht : s.token.1.code = 0
          · by_cases hf : (out.length : Int) < s.token.2.off
            · rw [expB_far hp hh hb ht hf] at he; simp at he
            · rw [expB_step h hp hh hb ht hf] at he ⊢
              obtain ⟨t1, t2, t3⟩ := token_left h ht
              obtain ⟨i1, i2, i3, i4, i5⟩ := token_is h ht
              have hstep := rest_step tokF_ok (s := s) (acc := acc) h hw hc hp ht
              have e : tokF.rest s acc = tokF.rest s.token.1 (acc ++ [s.token.2]) := hstep
              rw [e]
              exact ih s.token.1 _ (acc ++ [s.token.2]) t2 ht (wf_snoc.2 ⟨hw, ⟨i2, i3⟩⟩) (by omega) (by rw [expW_len _ i2, tsum_snoc, ho]) he
          · rw [expB_short hp hh hb ht] at he; exact absurd he ht
      · rw [expB_head hp hh] at he; exact absurd he hh
    · exact ih s out acc h hc hw (by omega) ho he
/-- Never more than the bound. -/
theorem expB_le {bound : Int} : ∀ (n : Nat) (s : RS) (out : List Int), ROk s → s.left ≤ n → (out.length : Int) ≤ max bound 0 → ((expB bound s out).1.length : Int) ≤ max bound 0 := by
  intro n
  induction n with
  | zero => intro s out _ hl ho; rw [expB_end (by omega)]; exact ho
  | succ n ih =>
    intro s out h hl ho
    by_cases hp : 0 < s.left
    · by_cases hh : s.thead.1.code = 0
      · by_cases hb : bound < out.length + s.thead.2.2
        · rw [expB_over hp hh hb]; simp; omega
        · by_cases ht : s.token.1.code = 0
          · by_cases hf : (out.length : Int) < s.token.2.off
            · rw [expB_far hp hh hb ht hf]; simp; omega
            · rw [expB_step h hp hh hb ht hf]
              obtain ⟨t1, t2, t3⟩ := token_left h ht
              obtain ⟨i1, i2, i3, i4, i5⟩ := token_is h ht
              have hm := (token_made h ht).1
              refine ih _ _ t2 (by omega) ?_
              rw [expW_len _ i2, hm]; omega
          · rw [expB_short hp hh hb ht]; simp; omega
      · rw [expB_head hp hh]; simp; omega
    · exact ih s out h (by omega) ho
theorem expFrom_le {bound : Int} : ∀ (l : List Tk) (i : Nat) (out : List Int), (out.length : Int) ≤ max bound 0 → ((expFrom bound l i out).1.length : Int) ≤ max bound 0 := by
  intro l
  induction l with
  | nil => intro i out h; exact h
  | cons t l ih =>
    intro i out h
    simp only [expFrom]
    split
    · rename_i hw
      obtain ⟨w1, w2, w3⟩ := wrongT_zero hw
      refine ih _ _ ?_
      rw [expW_len _ w1]; omega
    · simp; omega
theorem expFrom_ok {bound : Int} : ∀ (l : List Tk) (i : Nat) (out : List Int), (expFrom bound l i out).2.1 = 0 → ((expFrom bound l i out).1.length : Int) = out.length + tsum l ∧ ∀ t ∈ l, t.right = true := by
  intro l
  induction l with
  | nil => intro i out _; exact ⟨by simp [expFrom, tsum], by simp⟩
  | cons t l ih =>
    intro i out h
    simp only [expFrom] at h ⊢
    by_cases hw : wrongT t out.length bound = 0
    · rw [if_pos hw] at h ⊢
      obtain ⟨w1, w2, w3⟩ := wrongT_zero hw
      obtain ⟨h1, h2⟩ := ih _ _ h
      refine ⟨by rw [h1, expW_len _ w1]; simp only [tsum]; omega, fun x hx => ?_⟩
      rcases List.mem_cons.1 hx with rfl | hx
      · exact w1
      · exact h2 x hx
    · rw [if_neg hw] at h; exact absurd h hw
theorem expFrom_bad {bound : Int} : ∀ (l : List Tk) (i : Nat) (out : List Int), ¬ (expFrom bound l i out).2.1 = 0 → (expFrom bound l i out).1 = [] := by
  intro l
  induction l with
  | nil => intro i out h; exact absurd rfl h
  | cons t l ih =>
    intro i out h
    simp only [expFrom] at h ⊢
    by_cases hw : wrongT t out.length bound = 0
    · rw [if_pos hw] at h ⊢; exact ih _ _ h
    · rw [if_neg hw]
theorem expFrom_bys {bound : Int} : ∀ (l : List Tk) (i : Nat) (out : List Int), (∀ t ∈ l, Bys t.lit) → Bys out → Bys (expFrom bound l i out).1 := by
  intro l
  induction l with
  | nil => intro i out _ h; exact h
  | cons t l ih =>
    intro i out hl h
    simp only [expFrom]
    split
    · refine ih _ _ (fun x hx => hl x (List.mem_cons_of_mem _ hx)) (again_bys _ _ _ fun y hy => ?_)
      rcases List.mem_append.1 hy with hy | hy
      · exact h y hy
      · exact hl t (List.mem_cons_self ..) y hy
    · intro y hy; simp at hy
end Go.Proofs.Ytpjkmidjjodplaa
