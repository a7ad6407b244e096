/-
  Contracts of chapter 11: tokens written.
-/
import Derived.Test.YtpjkmidjjodplaaK24
import Derived.Test.YtpjkmidjjodplaaP9
set_option linter.all false
set_option linter.unusedSimpArgs false
set_option linter.unusedVariables false
set_option linter.unnecessarySimpa false
namespace Go.Proofs.Ytpjkmidjjodplaa
open Go.RowKit

theorem tsum_bound (l : List Tk) : tsum l ≤ 1048576 * l.length := by
  induction l with
  | nil => simp [tsum]
  | cons x l ih =>
    have h1 : x.made ≤ 1048576 := by
      cases h : x.right with
      | false => rw [made_zero h]; omega
      | true => exact (made_pos h).2
    simp only [tsum, List.length_cons]; omega
theorem tsum_take' (l : List Tk) (k : Nat) (h : k < l.length) : tsum (l.take (k + 1)) = tsum (l.take k) + (l.getD k tk0).made := by
  rw [tk_take l k h, tsum_snoc]
def roomT : List Tk → Int
  | [] => 0
  | t :: l => t.lit.length + 20 + roomT l
theorem roomT_snoc (l : List Tk) (t : Tk) : roomT (l ++ [t]) = roomT l + t.lit.length + 20 := by
  induction l with
  | nil => simp [roomT]
  | cons x l ih => simp only [List.cons_append, roomT, ih]; omega
theorem roomT_le {l : List Tk} (h : ∀ t ∈ l, t.lit.length ≤ 2000000) : 0 ≤ roomT l ∧ roomT l ≤ 2000020 * l.length := by
  induction l with
  | nil => simp [roomT]
  | cons x l ih =>
    have h1 := h x (List.mem_cons_self ..)
    have h2 := ih fun t ht => h t (List.mem_cons_of_mem _ ht)
    simp only [roomT, List.length_cons]; omega
theorem tokB_len (t : Tk) : (tokB t).length ≤ t.lit.length + 20 := by
  unfold tokB
  split
  · have := (vb_len (2 * (t.lit.length : Int) - 2)).2; rw [List.length_append]; omega
  · have := (vb_len (2 * t.len - 7)).2; have := (vb_len (t.off - 1)).2; rw [List.length_append]; omega
theorem toksB_room (l : List Tk) : ((toksB l).length : Int) ≤ roomT l := by
  induction l with
  | nil => simp [toksB, roomT]
  | cons x l ih =>
    have := tokB_len x
    have e : toksB (x :: l) = tokB x ++ toksB l := by simp [toksB]
    rw [e, List.length_append]; simp only [roomT]; omega
theorem vb_max : (vb 18446744073709551615).length = 10 := by kernel_rfl
def WS.toks (s : WS) (l : List Tk) : WS := l.foldl WS.tok s
theorem toks_snoc (s : WS) (l : List Tk) (t : Tk) : s.toks (l ++ [t]) = (s.toks l).tok t := by simp [WS.toks]
theorem WS.fine.toks {s : WS} (h : s.fine) (l : List Tk) : (s.toks l).fine := by
  induction l generalizing s with
  | nil => exact h
  | cons x l ih => exact ih (s := s.tok x) (h.tok x)
def rightT (l : List Tk) : Bool := l.all Tk.right
theorem rightT_iff {l : List Tk} : rightT l = true ↔ ∀ t ∈ l, t.right = true := by simp [rightT]
theorem put_two {s : WS} {a b : List Int} (h : s.code = 0) (hm : (s.l.length : Int) + (a ++ b).length ≤ s.most) : (s.put a).put b = ⟨s.most, s.l ++ (a ++ b), 0⟩ := by
  rw [List.length_append] at hm
  have e1 : s.put a = ⟨s.most, s.l ++ a, 0⟩ := by rw [WS.put_ok h (by omega)]; cases s; simp at h; simp [h]
  rw [e1, WS.put_ok rfl (by simp only [List.length_append]; omega)]
  simp
theorem tok_fit {s : WS} {t : Tk} (h : s.code = 0) (hr : t.right = true) (hm : (s.l.length : Int) + (tokB t).length ≤ s.most) : s.tok t = ⟨s.most, s.l ++ tokB t, 0⟩ := by
  unfold WS.tok
  unfold tokB at hm ⊢
  rw [if_pos hr]
  split
  · rename_i q; rw [if_pos q] at hm; exact put_two h hm
  · rename_i q; rw [if_neg q] at hm; exact put_two h hm
theorem tok_bad {s : WS} {t : Tk} (h : ¬ s.code = 0) : s.tok t = s := by
  unfold WS.tok
  have hp : ∀ m, s.put m = s := fun m => WS.put_bad h
  have hf : s.fail 3 = s := by unfold WS.fail; rw [if_neg h]
  rw [hp, hp, hp, hp, hf]
  repeat' split
  all_goals rfl
theorem toks_bad {s : WS} (h : ¬ s.code = 0) (l : List Tk) : s.toks l = s := by
  induction l with
  | nil => rfl
  | cons x l ih => show (s.tok x).toks l = s; rw [tok_bad h, ih]
theorem toks_fit : ∀ (l : List Tk) (s : WS), s.code = 0 → (s.l.length : Int) + roomT l ≤ s.most → s.toks l = if rightT l = true then ⟨s.most, s.l ++ toksB l, 0⟩ else ⟨s.most, (s.toks l).l, 3⟩ := by
  intro l
  induction l with
  | nil => intro s h _; cases s; simp at h; simp [WS.toks, rightT, toksB, h]
  | cons x l ih =>
    intro s h hm
    simp only [roomT] at hm
    have hx := tokB_len x
    have hge : 0 ≤ roomT l := by
      clear ih hm
      induction l with
      | nil => simp [roomT]
      | cons y l ih => simp only [roomT]; omega
    show (s.tok x).toks l = if rightT (x :: l) = true then _ else ⟨s.most, ((s.tok x).toks l).l, 3⟩
    cases hr : x.right
    · have e : s.tok x = ⟨s.most, s.l, 3⟩ := by
        unfold WS.tok WS.fail; rw [hr, if_neg (by simp), if_pos h]
      have hb : (WS.mk s.most s.l 3).toks l = ⟨s.most, s.l, 3⟩ := toks_bad (by simp) l
      rw [e, hb, if_neg (by simp [rightT, hr])]
    · rw [tok_fit h hr (by omega)]
      have := ih ⟨s.most, s.l ++ tokB x, 0⟩ rfl (by simp only [List.length_append]; omega)
      rw [this]
      have er : rightT (x :: l) = rightT l := by simp [rightT, hr]
      rw [er]
      split
      · simp [toksB]
      · rfl
def tokR (l : List Tk) : List Int × Int := if rightT l = true then (toksB l, 0) else ([], 3)
end Go.Proofs.Ytpjkmidjjodplaa
