/-
  Plain laws of the next number by its bytes. No program.
-/
import Derived.Test.YtgphhganepjaiaaPl2
namespace Go.Proofs.Ytgphhganepjaiaa

/-- The number at the front of bytes, how many bytes it has, the fault. -/
def vGet (l : List Int) : Int × Int × (Int × Int) := if (vgo 0 l).1 = 0 then ((vgo 0 l).2.2, (vgo 0 l).2.1, (0, 0)) else (0, 0, ((vgo 0 l).1, (vgo 0 l).2.1))
theorem vgo_cons (n c : Int) (t : List Int) : vgo n (c :: t) = if n = 9 ∧ 1 < c then (5, n, 0) else if 0 < n ∧ c = 0 then (4, n, 0) else if c < 128 then (0, n + 1, c)
    else ((vgo (n + 1) t).1, (vgo (n + 1) t).2.1, if (vgo (n + 1) t).1 = 0 then c % 128 + 128 * (vgo (n + 1) t).2.2 else 0) := rfl
/-- The number that the first k bytes tell. -/
def valTo (l : List Int) : Nat → Int
  | 0 => 0
  | k + 1 => valTo l k + 128 ^ k * (l.getD k 0 % 128)
theorem valTo_range (l : List Int) : ∀ k, 0 ≤ valTo l k ∧ valTo l k < 128 ^ k := by
  intro k
  induction k with
  | zero => simp [valTo]
  | succ k ih =>
    have hp : (0 : Int) < 128 ^ k := Int.pow_pos (by omega)
    have h1 : (0 : Int) ≤ 128 ^ k * (l.getD k 0 % 128) := Int.mul_nonneg (by omega) (by omega)
    have h2 : (128 : Int) ^ k * (l.getD k 0 % 128) ≤ 128 ^ k * 127 := Int.mul_le_mul_of_nonneg_left (by omega) (by omega)
    simp only [valTo, Int.pow_succ]
    omega
def UptoL (l : List Int) (k : Nat) : Prop := vgo 0 l = comb k (valTo l k) (vgo k (l.drop k))
theorem uptoL_zero (l : List Int) : UptoL l 0 := by
  unfold UptoL
  rw [List.drop_zero]
  have e0 : ((0 : Nat) : Int) = 0 := rfl
  rw [e0]
  have hf := vgo_fault l 0 (Int.le_refl _)
  generalize vgo 0 l = q at *
  obtain ⟨q1, q2, q3⟩ := q
  unfold comb
  simp only [valTo, Int.pow_zero, Int.one_mul, Int.zero_add] at *
  by_cases h : q1 = 0
  · rw [if_pos h]
  · rw [if_neg h, (hf h).1]
theorem drop_getD {l : List Int} {k : Nat} (h : k < l.length) : l.drop k = l.getD k 0 :: l.drop (k + 1) := by
  rw [List.drop_eq_getElem_cons h]; simp [h]
theorem vGet_over {l : List Int} {k : Nat} (hu : UptoL l k) (h : k < l.length) (h9 : k = 9) (h1 : 1 < l.getD k 0) : vGet l = (0, 0, (5, (k : Int))) := by
  unfold UptoL at hu
  have hq : vgo k (l.drop k) = (5, (k : Int), 0) := by rw [drop_getD h]; unfold vgo; rw [if_pos ⟨by omega, h1⟩]
  rw [hq] at hu
  unfold vGet
  rw [hu]
  simp [comb]
theorem vGet_min {l : List Int} {k : Nat} (hu : UptoL l k) (h : k < l.length) (h0 : 0 < k) (h1 : l.getD k 0 = 0) : vGet l = (0, 0, (4, (k : Int))) := by
  unfold UptoL at hu
  have hq : vgo k (l.drop k) = (4, (k : Int), 0) := by rw [drop_getD h]; unfold vgo; rw [if_neg (by omega), if_pos ⟨by omega, h1⟩]
  rw [hq] at hu
  unfold vGet
  rw [hu]
  simp [comb]
theorem vGet_last {l : List Int} {k : Nat} (hu : UptoL l k) (h : k < l.length) (h1 : ¬ (k = 9 ∧ 1 < l.getD k 0)) (h2 : ¬ (0 < k ∧ l.getD k 0 = 0)) (h3 : l.getD k 0 < 128) (h4 : 0 ≤ l.getD k 0) :
    vGet l = (valTo l (k + 1), (k : Int) + 1, (0, 0)) := by
  unfold UptoL at hu
  have hq : vgo k (l.drop k) = (0, (k : Int) + 1, l.getD k 0) := by rw [drop_getD h]; unfold vgo; rw [if_neg (by omega), if_neg (by omega), if_pos h3]
  rw [hq] at hu
  unfold vGet
  rw [hu]
  have e : l.getD k 0 % 128 = l.getD k 0 := by omega
  simp only [comb, valTo, if_true, e]
theorem vGet_end {l : List Int} (hu : UptoL l l.length) : vGet l = (0, 0, (1, (l.length : Int))) := by
  unfold UptoL at hu
  rw [List.drop_length] at hu
  unfold vGet
  rw [hu]
  simp [comb, vgo]
theorem uptoL_more {l : List Int} {k : Nat} (hu : UptoL l k) (h : k < l.length) (h1 : ¬ (k = 9 ∧ 1 < l.getD k 0)) (h2 : ¬ (0 < k ∧ l.getD k 0 = 0)) (h3 : ¬ l.getD k 0 < 128) : UptoL l (k + 1) := by
  unfold UptoL at *
  have hq : vgo k (l.drop k) = ((vgo (k + 1) (l.drop (k + 1))).1, (vgo (k + 1) (l.drop (k + 1))).2.1, if (vgo (k + 1) (l.drop (k + 1))).1 = 0 then l.getD k 0 % 128 + 128 * (vgo (k + 1) (l.drop (k + 1))).2.2 else 0) := by
    rw [drop_getD h, vgo_cons, if_neg (by omega), if_neg (by omega), if_neg h3]
  rw [hq] at hu
  rw [hu]
  have ei : ((k + 1 : Nat) : Int) = (k : Int) + 1 := by omega
  rw [ei]
  generalize vgo ((k : Int) + 1) (l.drop (k + 1)) = q
  obtain ⟨q1, q2, q3⟩ := q
  unfold comb
  simp only [valTo]
  by_cases h : q1 = 0
  · rw [if_pos h, if_pos h, if_pos h, Int.pow_succ, Int.mul_add, Int.mul_assoc, Int.add_assoc]
  · rw [if_neg h, if_neg h]
/-- The inner loop: what is left to be told, from the last byte down. -/
theorem horner (l : List Int) (k j : Nat) (x : Int) (h : valTo l k = 128 ^ (j + 1) * x + valTo l (j + 1)) (x0 : 0 ≤ x) (hV : valTo l k < 18446744073709551616) :
    valTo l k = 128 ^ j * (128 * x + l.getD j 0 % 128) + valTo l j ∧ 128 * x + l.getD j 0 % 128 < 18446744073709551616 := by
  have e : valTo l k = 128 ^ j * (128 * x + l.getD j 0 % 128) + valTo l j := by
    rw [h]
    simp only [valTo, Int.pow_succ, Int.mul_add, Int.mul_assoc]
    omega
  refine ⟨e, ?_⟩
  have hp : (1 : Int) ≤ 128 ^ j := Int.pow_pos (by omega)
  have hr := (valTo_range l j).1
  have h3 : 0 ≤ 128 * x + l.getD j 0 % 128 := by omega
  have : 1 * (128 * x + l.getD j 0 % 128) ≤ 128 ^ j * (128 * x + l.getD j 0 % 128) := Int.mul_le_mul_of_nonneg_right hp h3
  omega
theorem valTo_u64 {l : List Int} {k : Nat} (h9 : k ≤ 9) (h1 : ¬ (k = 9 ∧ 1 < l.getD k 0)) (h3 : l.getD k 0 < 128) (h4 : 0 ≤ l.getD k 0) : valTo l (k + 1) < 18446744073709551616 := by
  have hr := valTo_range l k
  simp only [valTo]
  have e : l.getD k 0 % 128 = l.getD k 0 := by omega
  rw [e]
  generalize l.getD k 0 = c at *
  have : k = 0 ∨ k = 1 ∨ k = 2 ∨ k = 3 ∨ k = 4 ∨ k = 5 ∨ k = 6 ∨ k = 7 ∨ k = 8 ∨ k = 9 := by omega
  rcases this with rfl | rfl | rfl | rfl | rfl | rfl | rfl | rfl | rfl | rfl <;> simp at hr h1 ⊢ <;> omega

/-- A reader that may be: its place within its bytes, which are bytes. -/
structure ROk (s : RS) : Prop where
  at0 : 0 ≤ s.at_
  at1 : s.at_ ≤ s.l.length
  len : s.l.length ≤ 140737488355328
  bys : Bys s.l
theorem ROk.ok {s : RS} (h : ROk s) : s.ok := ⟨h.at0, h.at1, h.len⟩
theorem RS.ok.rok {s : RS} (h : s.ok) (hb : Bys s.l) : ROk s := ⟨h.1, h.2.1, h.2.2, hb⟩
theorem ROk.new {l : List Int} (hb : Bys l) (hn : l.length ≤ 140737488355328) : ROk (RS.new l) := ⟨by simp [RS.new], by simp [RS.new], hn, hb⟩
theorem ROk.fail {s : RS} (h : ROk s) (c a : Int) : ROk (s.fail c a) := by
  unfold RS.fail; split
  · exact ⟨h.at0, h.at1, h.len, h.bys⟩
  · exact h
theorem ROk.skip {s : RS} (h : ROk s) (n : Int) : ROk (s.skip n).1 := (h.ok.skip n).1.rok (by rw [(h.ok.skip n).2]; exact h.bys)
theorem ROk.take {s : RS} (h : ROk s) (n : Int) : ROk (s.take n).1 := (h.ok.take n).1.rok (by rw [(h.ok.take n).2]; exact h.bys)
theorem vint_parts {s : RS} (h : ROk s) (hc : s.code = 0) {X N C Af : Int} (hq : vGet s.rest = (X, N, (C, Af))) :
    (C = 0 → s.vint = (s.adv N, X) ∧ 1 ≤ N ∧ s.at_ + N ≤ s.l.length ∧ 0 ≤ X ∧ X < 18446744073709551616) ∧ (C = 1 → s.vint = ({ s with at_ := s.l.length, code := 1, fat := s.l.length }, 0)) ∧
      (C ≠ 0 → C ≠ 1 → s.vint = ({ s with at_ := s.at_ + Af + 1, code := C, fat := s.at_ + Af }, 0) ∧ 0 ≤ Af ∧ s.at_ + Af + 1 ≤ s.l.length) := by
  have hrl := rest_len s h.at0 h.at1
  have hb : Bys s.rest := h.bys.drop _
  unfold vGet at hq
  unfold RS.vint
  rw [if_pos hc]
  by_cases h0 : (vgo 0 s.rest).1 = 0
  · have hk := vgo_back hb h0
    rw [if_pos h0] at hq
    simp only [Prod.mk.injEq] at hq
    obtain ⟨rfl, rfl, rfl, rfl⟩ := hq
    rw [if_pos h0]
    exact ⟨fun _ => ⟨rfl, by omega, by omega, by omega, by omega⟩, fun h => by omega, fun h => by omega⟩
  · have hf := vgo_fault s.rest 0 (Int.le_refl _) h0
    rw [if_neg h0] at hq
    simp only [Prod.mk.injEq] at hq
    obtain ⟨rfl, rfl, rfl, rfl⟩ := hq
    rw [if_neg h0]
    refine ⟨fun h => by omega, fun h => by rw [if_pos h], fun _ h1 => ?_⟩
    rw [if_neg h1]
    refine ⟨rfl, by omega, by omega⟩
theorem ROk.vint {s : RS} (h : ROk s) : ROk s.vint.1 ∧ s.vint.1.l = s.l := by
  by_cases hc : s.code = 0
  · obtain ⟨X, N, C, Af, hq⟩ : ∃ X N C Af, vGet s.rest = (X, N, (C, Af)) := ⟨_, _, _, _, rfl⟩
    obtain ⟨p1, p2, p3⟩ := vint_parts h hc hq
    by_cases c0 : C = 0
    · obtain ⟨e, h1, h2, _⟩ := p1 c0
      rw [e]
      have := h.at0
      exact ⟨⟨by simp [RS.adv]; omega, by simp [RS.adv]; omega, h.len, h.bys⟩, rfl⟩
    by_cases c1 : C = 1
    · rw [p2 c1]; exact ⟨⟨by simp, by simp, h.len, h.bys⟩, rfl⟩
    · obtain ⟨e, h1, h2⟩ := p3 c0 c1
      rw [e]
      have := h.at0
      exact ⟨⟨by simp; omega, by simp; omega, h.len, h.bys⟩, rfl⟩
  · rw [vint_bad hc]; exact ⟨h, rfl⟩
theorem ROk.most {s : RS} (h : ROk s) (m : Int) : ROk (s.most m).1 ∧ (s.most m).1.l = s.l := by
  unfold RS.most
  split
  · exact ⟨h.vint.1.fail _ _, by rw [fail_l]; exact h.vint.2⟩
  · exact h.vint
theorem ROk.int {s : RS} (h : ROk s) (m : Int) : ROk (s.int m).1 ∧ (s.int m).1.l = s.l := by
  unfold RS.int
  split
  · exact h.most m
  · exact ⟨h.vint.1.fail _ _, by rw [fail_l]; exact h.vint.2⟩
theorem take_bys {s : RS} (h : Bys s.l) (n : Int) : Bys (s.take n).2 := by
  unfold RS.take; split
  · exact fun x hx => h x (List.mem_of_mem_drop (List.mem_of_mem_take hx))
  · intro x hx; simp at hx
theorem take_len (s : RS) (n : Int) : (s.take n).2.length ≤ s.l.length := by
  unfold RS.take; split
  · simp; omega
  · simp

/-- Two rows of bytes are the same where their bytes as small numbers are. -/
theorem bys_inj : ∀ (l m : List Int), Bys l → Bys m → (l.map fun n => UInt8.ofNat n.toNat) = (m.map fun n => UInt8.ofNat n.toNat) → l = m := by
      intro l
      induction l with
      | nil => intro m _ _ h; cases m with
        | nil => rfl
        | cons => simp at h
      | cons x l ih =>
        intro m hl hm h
        cases m with
        | nil => simp at h
        | cons y m =>
          simp only [List.map_cons, List.cons.injEq] at h
          have hx := hl x (List.mem_cons_self ..)
          have hy := hm y (List.mem_cons_self ..)
          have e := congrArg UInt8.toNat h.1
          simp only [UInt8.toNat_ofNat'] at e
          rw [Nat.mod_eq_of_lt (by omega), Nat.mod_eq_of_lt (by omega)] at e
          rw [ih m (fun z hz => hl z (List.mem_cons_of_mem _ hz)) (fun z hz => hm z (List.mem_cons_of_mem _ hz)) h.2, show x = y from by omega]
def sameB (l m : List Int) : Bool := decide (l = m)
theorem same_self (l : List Int) : sameB l l = true := by simp [sameB]
end Go.Proofs.Ytgphhganepjaiaa
