/-
  Contracts of chapter 23: which links are well-formed, how they are written.
-/
import Derived.Test.YtkhnfleejgfhgaaQ5
import Derived.Test.YtkhnfleejgfhgaaP16
set_option linter.all false
set_option linter.unusedSimpArgs false
set_option linter.unusedVariables false
set_option linter.unnecessarySimpa false
namespace Go.Proofs.Ytkhnfleejgfhgaa
open Go.RowKit

/-- A link, links. -/
abbrev lkA (x : Lk) : AV := .agg [uA x.st, slU x.bk]
def lks (l : List Lk) : List AV := l.map lkA
abbrev slL (l : List Lk) : AV := .sl .none 2 (lks l)
@[simp] theorem ren_lks (ρ : Nat → Nat) (l : List Lk) : (lks l).map (fun x => x.ren ρ) = lks l := by
  have h : ∀ (k : IntKind) (m : List Int), (ints k m).map (fun x => x.ren ρ) = ints k m := ren_ints ρ
  simp [lks, ints_nil, ren_lit, ren_ref, ren_any, ren_agg, ren_tup, ren_sl, ren_fn, tren_none, tren_full, tren_row, oren_cells, oren_row, oren_dead, ixs_z, ixs_1, ixs_2, ixs_3, ren_ints, List.map_cons, List.map_nil]
@[simp] theorem ren_ints_l (ρ : Nat → Nat) (k : IntKind) (l : List Int) : (ints k l).map (fun x => x.ren ρ) = ints k l := ren_ints ρ k l
theorem lks_length (l : List Lk) : (lks l).length = l.length := by simp [lks]
theorem lks_nil : lks [] = [] := (rfl)
theorem lks_snoc (l : List Lk) (x : Lk) : lks l ++ [lkA x] = lks (l ++ [x]) := by simp [lks]
theorem lks_get (l : List Lk) (k : Nat) (h : k < l.length) : (lks l).getD k .any = lkA (l.getD k lk0) := by simp [lks, h]
theorem lk_take (l : List Lk) (k : Nat) (h : k < l.length) : l.take (k + 1) = l.take k ++ [l.getD k lk0] := by
  rw [List.take_succ_eq_append_getElem h]; simp [h]
theorem Lks.take {l : List Lk} (h : Lks l) (k : Nat) : Lks (l.take k) := fun x hx => h x (List.mem_of_mem_take hx)
theorem i64_pred (k : Nat) (h0 : 0 < k) (h : k < 140737488355328) : IntKind.i64.wrap ((k : Int) - 1) = ((k - 1 : Nat) : Int) := by rw [IntWalk.i64_in _ (by omega)]; omega
theorem fidx_no {α : Type} {p : α → Bool} {l : List α} (h : ∀ x ∈ l, p x = false) : l.findIdx p = l.length := List.findIdx_eq_length.2 h
abbrev oneO (x : Int) : AObj := .cells [uA x]
def Smalls (l : List Lk) : Prop := l.length ≤ 1000000 ∧ ∀ x ∈ l, x.bk.length ≤ 1000000
/-- By how much a stream is above the one ahead. -/
def stpL (l : List Lk) (i : Nat) : Int := (l.getD i lk0).st - lst (l.take i) - 1
def stpsL (l : List Lk) (k : Nat) : List Int := (List.range k).map (stpL l)
theorem stpsL_succ (l : List Lk) (k : Nat) : stpsL l (k + 1) = stpsL l k ++ [stpL l k] := by simp [stpsL, List.range_succ]
theorem stpsL_len (l : List Lk) (k : Nat) : (stpsL l k).length = k := by simp [stpsL]
theorem stpsL_get (l : List Lk) (n k : Nat) (h : k < n) : (stpsL l n).getD k 0 = stpL l k := by simp [stpsL, h]
theorem stpL_range {l : List Lk} (hl : Lks l) (hr : risesL l = true) {i : Nat} (hi : i < l.length) : 0 ≤ stpL l i ∧ stpL l i < 18446744073709551616 := by
  have ho := hl _ (lk_mem l i hi)
  have h0 := ho.s0
  have h1 := ho.s1
  unfold stpL
  rw [lst_take l i (by omega)]
  split
  · omega
  · rename_i hz
    have := risesL_iff.1 hr i hi (by omega)
    have hp := (hl _ (lk_mem l (i - 1) (by omega))).s0
    omega
/-- A writer behind the first k links. -/
def WS.lkN (s : WS) (pos : Int) (l : List Lk) : Nat → WS
  | 0 => s.put (vb l.length)
  | k + 1 => ((s.lkN pos l k).put (vb (stpL l k))).fall pos (l.getD k lk0).bk
def WS.links (s : WS) (pos : Int) (l : List Lk) : WS := if rightL pos l = true then s.lkN pos l l.length else s.fail 3
theorem WS.fine.fall {s : WS} (h : s.fine) (b : Int) (l : List Int) : (s.fall b l).fine := by
  unfold WS.fall
  split
  · exact (h.put _).puts _
  · exact h.fail 3
theorem WS.fine.lkN {s : WS} (h : s.fine) (pos : Int) (l : List Lk) : ∀ k, (s.lkN pos l k).fine := by
  intro k
  induction k with
  | zero => exact h.put _
  | succ k ih => exact (ih.put _).fall _ _
theorem WS.fine.links {s : WS} (h : s.fine) (pos : Int) (l : List Lk) : (s.links pos l).fine := by
  unfold WS.links; split
  · exact h.lkN pos l _
  · exact h.fail 3
theorem put_fit {s : WS} {m : List Int} (h : s.code = 0) (hm : (s.l.length : Int) + m.length ≤ s.most) : s.put m = ⟨s.most, s.l ++ m, 0⟩ := by
  rw [WS.put_ok h hm]; cases s; simp at h; simp [h]
theorem fall_fit {s : WS} {b : Int} {l : List Int} (h : s.code = 0) (hf : falls b l = true) (hm : (s.l.length : Int) + (fallB b l).length ≤ s.most) : s.fall b l = ⟨s.most, s.l ++ fallB b l, 0⟩ := by
  unfold fallB at hm
  rw [List.length_append] at hm
  unfold WS.fall
  rw [if_pos hf, put_fit h (by omega), puts_fit rfl _ (by simp only [List.length_append]; omega)]
  simp [fallB]
theorem encs_take {pos : Int} {l : List Lk} {k : Nat} (h : k < l.length) : encs (linkF pos).enc [] (l.take (k + 1)) = encs (linkF pos).enc [] (l.take k) ++ (vb (stpL l k) ++ fallB pos (l.getD k lk0).bk) := by
  rw [lk_take l k h, encs_snoc]
  rfl
theorem encs_le {pos : Int} {l : List Lk} : ∀ k, k ≤ l.length → (encs (linkF pos).enc [] (l.take k)).length ≤ (encs (linkF pos).enc [] l).length := by
  intro k hk
  have gen : ∀ n, k + n = l.length → (encs (linkF pos).enc [] (l.take k)).length ≤ (encs (linkF pos).enc [] l).length := by
    intro n
    induction n generalizing k with
    | zero => intro h; rw [List.take_of_length_le (by omega)]; exact Nat.le_refl _
    | succ n ih =>
      intro h
      have h1 := ih (k + 1) (by omega) (by omega)
      rw [encs_take (by omega), List.length_append] at h1
      omega
  exact gen (l.length - k) (by omega)
/-- Well-formed links, room enough. -/
theorem lkN_fit {s : WS} {pos : Int} {l : List Lk} (hr : rightL pos l = true) (h : s.code = 0) (hm : (s.l.length : Int) + (linksB pos l).length ≤ s.most) : ∀ k, k ≤ l.length → s.lkN pos l k = ⟨s.most, s.l ++ (vb l.length ++ encs (linkF pos).enc [] (l.take k)), 0⟩ := by
  obtain ⟨r1, r2, r3⟩ := rightL_iff.1 hr
  unfold linksB at hm
  rw [List.length_append] at hm
  intro k
  induction k with
  | zero => intro _; unfold WS.lkN; rw [put_fit h (by omega)]; simp [encs]
  | succ k ih =>
    intro hk
    have hle := encs_le (pos := pos) (l := l) (k + 1) hk
    have he := encs_take (pos := pos) (l := l) (k := k) (by omega)
    have hel := congrArg List.length he
    simp only [List.length_append] at hel
    unfold WS.lkN
    rw [ih (by omega), put_fit rfl (by simp only [List.length_append]; omega), fall_fit rfl (goodL_iff.1 (r3 _ (lk_mem l k (by omega)))).2 (by simp only [List.length_append]; omega), he]
    simp only [List.append_assoc]
theorem links_fit {s : WS} {pos : Int} {l : List Lk} (hr : rightL pos l = true) (h : s.code = 0) (hm : (s.l.length : Int) + (linksB pos l).length ≤ s.most) : s.links pos l = ⟨s.most, s.l ++ linksB pos l, 0⟩ := by
  unfold WS.links
  rw [if_pos hr, lkN_fit hr h hm _ (Nat.le_refl _), List.take_length]; rfl
theorem fallB_len {b : Int} {l : List Int} (h : l.length ≤ 4) : (fallB b l).length ≤ 50 := by
  unfold fallB
  rw [List.length_append]
  have h1 := (vb_len (l.length : Int)).2
  have h2 := vbs_len (dsts b l l.length)
  rw [dsts_len] at h2
  omega
theorem linksB_len {pos : Int} {l : List Lk} (hr : rightL pos l = true) : (linksB pos l).length ≤ 970 := by
  obtain ⟨r1, r2, r3⟩ := rightL_iff.1 hr
  have hv := (vb_len (l.length : Int)).2
  have key : ∀ k, k ≤ l.length → (encs (linkF pos).enc [] (l.take k)).length ≤ 60 * k := by
    intro k
    induction k with
    | zero => intro _; simp [encs]
    | succ k ih =>
      intro hk
      have h1 := ih (by omega)
      rw [encs_take (by omega), List.length_append, List.length_append]
      have h2 := (vb_len (stpL l k)).2
      have h3 := fallB_len (b := pos) (goodL_iff.1 (r3 _ (lk_mem l k (by omega)))).1
      omega
  have := key l.length (Nat.le_refl _)
  rw [List.take_length] at this
  unfold linksB
  rw [List.length_append]; omega
def sizeL (pos : Int) (l : List Lk) : Int := if rightL pos l = true then (linksB pos l).length else 0
end Go.Proofs.Ytkhnfleejgfhgaa
