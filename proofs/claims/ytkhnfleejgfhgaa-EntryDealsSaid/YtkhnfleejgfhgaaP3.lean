/-
  Plain laws of chapter 22: falling lists. No program.
-/
import Derived.Test.YtkhnfleejgfhgaaP2
set_option linter.all false
set_option linter.unusedSimpArgs false
set_option linter.unusedVariables false
set_option linter.unnecessarySimpa false
section
namespace Go.Proofs.Ytkhnfleejgfhgaa

/-- What a thing behind these must be below. -/
def blw (b : Int) (acc : List Int) : Int := acc.getLastD b
theorem blw_nil (b : Int) : blw b [] = b := rfl
theorem blw_snoc (b : Int) (acc : List Int) (x : Int) : blw b (acc ++ [x]) = x := by simp [blw]
theorem blw_get (b : Int) (acc : List Int) (h : 0 < acc.length) : blw b acc = acc.getD (acc.length - 1) 0 := by
  rcases List.eq_nil_or_concat acc with rfl | ⟨l, x, rfl⟩
  · simp at h
  · simp [blw]
theorem blw_take (b : Int) (l : List Int) (i : Nat) (h : i ≤ l.length) : blw b (l.take i) = if i = 0 then b else l.getD (i - 1) 0 := by
  split
  · rename_i h0; subst h0; rfl
  · rw [blw_get _ _ (by simp; omega)]
    have : (l.take i).length = i := by simp; omega
    rw [this]
    simp [show i - 1 < i from by omega]
def fallNx (b : Int) (acc : List Int) (x : Int) : Prop := 0 ≤ x ∧ x < blw b acc
def fallF (b : Int) : Fmt Int :=
  ⟨fun s acc => if s.vint.1.code = 0 ∧ blw b acc ≤ s.vint.2 then (s.vint.1.fail 13 s.at_, 0) else (s.vint.1, blw b acc - 1 - s.vint.2), fun acc x => vb (blw b acc - 1 - x), fallNx b⟩
theorem fall_le {b : Int} {acc : List Int} (h : Wf (fallNx b) [] acc) : blw b acc ≤ b := by
  have gen : ∀ n, ∀ acc : List Int, acc.length = n → Wf (fallNx b) [] acc → blw b acc ≤ b := by
    intro n
    induction n with
    | zero => intro acc h _; rw [List.eq_nil_of_length_eq_zero h]; exact Int.le_refl _
    | succ n ih =>
      intro acc h hw
      rcases List.eq_nil_or_concat acc with rfl | ⟨l, x, rfl⟩
      · simp at h
      · rw [List.concat_eq_append] at h hw ⊢
        obtain ⟨h1, h2⟩ := wf_snoc.1 hw
        have := ih l (by simpa using h) h1
        rw [blw_snoc]
        have h3 : x < blw b ([] ++ l) := h2.2
        simp only [List.nil_append] at h3
        omega
  exact gen _ acc rfl h
theorem fail_not0 {s : RS} (c a : Int) (h : s.code = 0) (hc : c ≠ 0) : ¬ (s.fail c a).code = 0 := by
  unfold RS.fail; rw [if_pos h]; simp [flt, hc]
theorem fallF_ok {b : Int} (hb : b < 18446744073709551616) : (fallF b).Ok := by
  refine ⟨fun s acc h _ => ?_, fun s acc h hw hc => ?_, fun s acc x r h hc hw hx hr => ?_, fun acc x hw hx => ?_⟩
  · obtain ⟨a, c⟩ := h.vint
    simp only [fallF]
    split
    · exact ⟨a.fail _ _, by rw [fail_l]; exact c⟩
    · exact ⟨a, c⟩
  · simp only [fallF] at hc ⊢
    by_cases hf : s.vint.1.code = 0 ∧ blw b acc ≤ s.vint.2
    · rw [if_pos hf] at hc; exact absurd hc (fail_not0 _ _ hf.1 (by decide))
    · rw [if_neg hf] at hc ⊢
      obtain ⟨v1, v2, v3⟩ := vint_bytes h hc
      have ha := vint_adv h hc
      have hv := vint_range (s := s) h.bys
      have hlt : s.vint.2 < blw b acc := by
        rcases Int.lt_or_le s.vint.2 (blw b acc) with h1 | h1
        · exact h1
        · exact absurd ⟨hc, h1⟩ hf
      have e : blw b acc - 1 - (blw b acc - 1 - s.vint.2) = s.vint.2 := by omega
      refine ⟨v3, ⟨by simp only; omega, by simp only; omega⟩, by simp only; omega, ?_⟩
      simp only
      rw [e]; exact v1
  · have hle := fall_le hw
    obtain ⟨x0, x1⟩ := hx
    simp only [fallF] at hr ⊢
    have hv := vint_own hc (by omega) (by omega) hr
    rw [hv]
    simp only
    rw [if_neg (by omega)]
    simp only [Prod.mk.injEq, true_and]
    omega
  · have hle := fall_le hw
    obtain ⟨x0, x1⟩ := hx
    exact vb_by (by omega) (by omega)
/-- Does a list fall below a number? -/
def falls (b : Int) (l : List Int) : Bool := (List.range l.length).all fun i => decide (l.getD i 0 < if i = 0 then b else l.getD (i - 1) 0)
theorem falls_iff {b : Int} {l : List Int} : falls b l = true ↔ ∀ i, i < l.length → l.getD i 0 < if i = 0 then b else l.getD (i - 1) 0 := by
  unfold falls
  simp only [List.all_eq_true, List.mem_range, decide_eq_true_eq]
theorem falls_not {b : Int} {l : List Int} {i : Nat} (hi : i < l.length) (h : (if i = 0 then b else l.getD (i - 1) 0) ≤ l.getD i 0) : falls b l = false := by
  cases hr : falls b l with
  | false => rfl
  | true => have := falls_iff.1 hr i hi; omega
theorem falls_wf {b : Int} {l : List Int} (hl : U64s l) : falls b l = true ↔ Wf (fallNx b) [] l := by
  rw [falls_iff]
  constructor
  · intro h
    refine wf_of fun k hk => ?_
    have h1 := h k hk
    have h2 := hl _ (getD_mem l k hk)
    simp only [List.nil_append]
    unfold fallNx
    rw [blw_take b l k (by omega)]
    have e : l.getD k 0 = l[k] := by simp [hk]
    rw [e] at h1 h2
    exact ⟨h2.1, h1⟩
  · intro h i hi
    have := wf_get i hi h
    simp only [List.nil_append] at this
    unfold fallNx at this
    rw [blw_take b l i (by omega)] at this
    have e : l.getD i 0 = l[i] := by simp [hi]
    rw [e]; exact this.2
def dst (b : Int) (l : List Int) (i : Nat) : Int := (if i = 0 then b else l.getD (i - 1) 0) - 1 - l.getD i 0
def dsts (b : Int) (l : List Int) (k : Nat) : List Int := (List.range k).map (dst b l)
theorem dsts_succ (b : Int) (l : List Int) (k : Nat) : dsts b l (k + 1) = dsts b l k ++ [dst b l k] := by simp [dsts, List.range_succ]
theorem dsts_len (b : Int) (l : List Int) (k : Nat) : (dsts b l k).length = k := by simp [dsts]
theorem dsts_get (b : Int) (l : List Int) (n k : Nat) (h : k < n) : (dsts b l n).getD k 0 = dst b l k := by simp [dsts, h]
theorem dst_range {b : Int} {l : List Int} (hb : b < 18446744073709551616) (hl : U64s l) (hf : falls b l = true) {i : Nat} (hi : i < l.length) : 0 ≤ dst b l i ∧ dst b l i < 18446744073709551616 := by
  have h1 := falls_iff.1 hf i hi
  have h2 := hl _ (getD_mem l i hi)
  unfold dst
  split at h1
  · rename_i h0; rw [if_pos h0]; omega
  · rename_i h0
    rw [if_neg h0]
    have := hl _ (getD_mem l (i - 1) (by omega))
    omega
theorem dsts_u64 {b : Int} {l : List Int} (hb : b < 18446744073709551616) (hl : U64s l) (hf : falls b l = true) {k : Nat} (hk : k ≤ l.length) : U64s (dsts b l k) := by
  intro x hx
  simp only [dsts, List.mem_map, List.mem_range] at hx
  obtain ⟨i, hi, rfl⟩ := hx
  exact dst_range hb hl hf (by omega)
theorem fall_encs {b : Int} {l : List Int} : encs (fallF b).enc [] l = vbs (dsts b l l.length) := by
  have gen : ∀ k, k ≤ l.length → encs (fallF b).enc [] (l.take k) = vbs (dsts b l k) := by
    intro k
    induction k with
    | zero => intro _; simp [encs, dsts, vbs]
    | succ k ih =>
      intro hk
      rw [take_snoc l k (by omega), encs_snoc, ih (by omega), dsts_succ, vbs_snoc]
      congr 1
      simp only [fallF, List.nil_append]
      rw [blw_take b l k (by omega)]
      rfl
  have := gen l.length (Nat.le_refl _)
  rwa [List.take_length] at this
/-- How a falling list is written. -/
def fallB (b : Int) (l : List Int) : List Int := vb l.length ++ vbs (dsts b l l.length)
def RS.fall (s : RS) (b m : Int) : RS × List Int := (fallF b).counted m s
/-- What stands ahead of a place of a list below a number. -/
def bat (b : Int) (l : List Int) (i : Nat) : Int := if i = 0 then b else l.getD (i - 1) 0
theorem bat_succ (b : Int) (l : List Int) (i : Nat) : bat b l (i + 1) = l.getD i 0 := by simp [bat]
theorem bat_blw (b : Int) (l : List Int) (i : Nat) (h : i ≤ l.length) : blw b (l.take i) = bat b l i := blw_take b l i h
theorem dst_bat (b : Int) (l : List Int) (i : Nat) : dst b l i = bat b l i - 1 - l.getD i 0 := rfl
theorem falls_bat {b : Int} {l : List Int} : falls b l = true ↔ ∀ i, i < l.length → l.getD i 0 < bat b l i := falls_iff
/-- What is left of a number behind k differences. -/
def und (b : Int) (s : List Int) : Nat → Int
  | 0 => b
  | k + 1 => und b s k - 1 - s.getD k 0
def undL (b : Int) (s : List Int) (k : Nat) : List Int := (List.range k).map fun i => und b s (i + 1)
def undOk (b : Int) (s : List Int) : Bool := (List.range s.length).all fun i => decide (s.getD i 0 < und b s i)
theorem undOk_iff {b : Int} {s : List Int} : undOk b s = true ↔ ∀ i, i < s.length → s.getD i 0 < und b s i := by
  unfold undOk
  simp only [List.all_eq_true, List.mem_range, decide_eq_true_eq]
theorem undOk_not {b : Int} {s : List Int} {i : Nat} (hi : i < s.length) (h : und b s i ≤ s.getD i 0) : undOk b s = false := by
  cases hr : undOk b s with
  | false => rfl
  | true => have := undOk_iff.1 hr i hi; omega
theorem undL_succ (b : Int) (s : List Int) (k : Nat) : undL b s (k + 1) = undL b s k ++ [und b s (k + 1)] := by simp [undL, List.range_succ]
theorem undL_len (b : Int) (s : List Int) (k : Nat) : (undL b s k).length = k := by simp [undL]
theorem undL_get (b : Int) (s : List Int) (n k : Nat) (h : k < n) : (undL b s n).getD k 0 = und b s (k + 1) := by simp [undL, h]
theorem undL_bat (b : Int) (s : List Int) (n k : Nat) (h : k ≤ n) : bat b (undL b s n) k = und b s k := by
  cases k with
  | zero => rfl
  | succ k => rw [bat_succ, undL_get b s n k (by omega)]
theorem und_range {b : Int} {s : List Int} (hs : U64s s) (b0 : 0 ≤ b) : ∀ k, k ≤ s.length → (∀ i, i < k → s.getD i 0 < und b s i) → 0 ≤ und b s k ∧ und b s k ≤ b := by
  intro k
  induction k with
  | zero => intro _ _; exact ⟨b0, Int.le_refl _⟩
  | succ k ih =>
    intro hk h
    have h1 := ih (by omega) fun i hi => h i (by omega)
    have h2 := h k (by omega)
    have h3 := hs _ (getD_mem s k (by omega))
    simp only [und]
    omega
theorem undL_falls {b : Int} {s : List Int} (hs : U64s s) (h : undOk b s = true) : falls b (undL b s s.length) = true := by
  refine falls_bat.2 fun i hi => ?_
  rw [undL_len] at hi
  rw [undL_get b s _ i hi, undL_bat b s _ i (by omega)]
  have h2 := undOk_iff.1 h i hi
  have h3 := hs _ (getD_mem s i hi)
  simp only [und]
  omega
theorem undL_dsts {b : Int} {s : List Int} : dsts b (undL b s s.length) s.length = s := by
  refine List.ext_getElem? fun i => ?_
  by_cases hi : i < s.length
  · have h1 : (dsts b (undL b s s.length) s.length)[i]? = some (dst b (undL b s s.length) i) := by simp [dsts, hi]
    rw [h1, dst_bat, undL_get b s _ i hi, undL_bat b s _ i (by omega)]
    simp only [und]
    have : s[i]? = some (s.getD i 0) := by simp [hi]
    rw [this]
    congr 1
    omega
  · rw [List.getElem?_eq_none (by rw [dsts_len]; omega), List.getElem?_eq_none (by omega)]
theorem undL_u64 {b : Int} {s : List Int} (hs : U64s s) (b0 : 0 ≤ b) (b1 : b < 18446744073709551616) (h : undOk b s = true) : U64s (undL b s s.length) := by
  intro x hx
  simp only [undL, List.mem_map, List.mem_range] at hx
  obtain ⟨i, hi, rfl⟩ := hx
  have := und_range hs b0 (i + 1) (by omega) fun j hj => undOk_iff.1 h j (by omega)
  omega
/-- A list that is moved on by a number. -/
def mov (l : List Int) (d : Int) : List Int := l.map fun x => x + d
theorem mov_len (l : List Int) (d : Int) : (mov l d).length = l.length := by simp [mov]
theorem mov_get (l : List Int) (d : Int) (i : Nat) (h : i < l.length) : (mov l d).getD i 0 = l.getD i 0 + d := by simp [mov, h]
theorem mov_bat (b d : Int) (l : List Int) (i : Nat) (h : i ≤ l.length) : bat (b + d) (mov l d) i = bat b l i + d := by
  cases i with
  | zero => rfl
  | succ i => rw [bat_succ, bat_succ, mov_get l d i (by omega)]
theorem mov_falls {b d : Int} {l : List Int} (h : falls b l = true) : falls (b + d) (mov l d) = true := by
  refine falls_bat.2 fun i hi => ?_
  rw [mov_len] at hi
  rw [mov_get l d i hi, mov_bat b d l i (by omega)]
  have := falls_bat.1 h i hi
  omega
theorem mov_dsts (b d : Int) (l : List Int) : ∀ k, k ≤ l.length → dsts (b + d) (mov l d) k = dsts b l k := by
  intro k hk
  unfold dsts
  apply List.map_congr_left
  intro i hi
  simp only [List.mem_range] at hi
  rw [dst_bat, dst_bat, mov_get l d i (by omega), mov_bat b d l i (by omega)]
  omega
theorem und_mov {b d : Int} {l : List Int} : ∀ k, k ≤ l.length → und (b + d) (dsts b l l.length) k = bat b l k + d := by
  intro k
  induction k with
  | zero => intro _; rfl
  | succ k ih =>
    intro hk
    simp only [und]
    rw [ih (by omega), dsts_get b l _ k (by omega), dst_bat, bat_succ]
    omega
theorem undOk_mov {b d : Int} {l : List Int} (hl : U64s l) (h : falls b l = true) (d0 : 0 ≤ d) : undOk (b + d) (dsts b l l.length) = true := by
  refine undOk_iff.2 fun i hi => ?_
  rw [dsts_len] at hi
  rw [dsts_get b l _ i hi, und_mov i (by omega), dst_bat]
  have := hl _ (getD_mem l i hi)
  omega
theorem undL_mov {b d : Int} {l : List Int} : undL (b + d) (dsts b l l.length) l.length = mov l d := by
  refine List.ext_getElem? fun i => ?_
  by_cases hi : i < l.length
  · have h1 : (undL (b + d) (dsts b l l.length) l.length)[i]? = some (und (b + d) (dsts b l l.length) (i + 1)) := by simp [undL, hi]
    have h2 : (mov l d)[i]? = some (l.getD i 0 + d) := by simp [mov, hi]
    rw [h1, h2, und_mov (i + 1) (by omega), bat_succ]
  · rw [List.getElem?_eq_none (by rw [undL_len]; omega), List.getElem?_eq_none (by rw [mov_len]; omega)]
end Go.Proofs.Ytkhnfleejgfhgaa
end
