/-
  Chapter 8: FrameFinds.
-/
import Derived.Test.YtkhnfleejgfhgaaL08B
set_option linter.all false
set_option linter.unusedSimpArgs false
set_option linter.unusedVariables false
set_option linter.unnecessarySimpa false
namespace Go.Proofs.Ytkhnfleejgfhgaa
open Go.RowKit

/-- Rows of bytes. -/
def bss (l : List (List Int)) : List AV := l.map (slA .u8)
abbrev slsA (l : List (List Int)) : AV := .sl .none 1 (bss l)
theorem bss_length (l : List (List Int)) : (bss l).length = l.length := by simp [bss]
theorem bss_get (l : List (List Int)) (k : Nat) (h : k < l.length) : (bss l).getD k .any = slA .u8 (l.getD k []) := by simp [bss, h]
@[simp] theorem ren_bss (ρ : Nat → Nat) (l : List (List Int)) : (bss l).map (fun x => x.ren ρ) = bss l := by simp [bss, ints_nil, ren_lit, ren_ref, ren_any, ren_agg, ren_tup, ren_sl, ren_fn, tren_none, tren_full, tren_row, oren_cells, oren_row, oren_dead, ixs_z, ixs_1, ixs_2, ixs_3, ren_ints, List.map_cons, List.map_nil]
def Byss (l : List (List Int)) : Prop := ∀ b ∈ l, Bys b
theorem ls_mem (l : List (List Int)) (k : Nat) (h : k < l.length) : l.getD k [] ∈ l := by simp [h]
/-- What was laid so far: frames at their places. -/
structure Laid (l : List (List Int)) (i : Nat) (all pl : List Int) : Prop where
  len : pl.length = i
  bys : Bys all
  le : all.length ≤ 110 * i
  at_ : ∀ j, j < i → (l.getD j []).length ≤ 60 ∧ 0 ≤ pl.getD j 0 ∧ (pl.getD j 0).toNat + (frameB (l.getD j [])).length ≤ all.length ∧ (all.drop (pl.getD j 0).toNat).take (frameB (l.getD j [])).length = frameB (l.getD j [])
  last : (if i = 0 then 0 else (pl.getD (i - 1) 0).toNat + (frameB (l.getD (i - 1) [])).length) = all.length
theorem Laid.next {l : List (List Int)} {i : Nat} {all pl x : List Int} (hl : Byss l) (h : Laid l i all pl) (hi : i < l.length) (hx : Bys x) (h1 : x.length ≤ 30) (h2 : (l.getD i []).length ≤ 60) :
    Laid l (i + 1) (all ++ x ++ frameB (l.getD i [])) (pl ++ [((all ++ x).length : Int)]) := by
  have hf := frameB_le (l.getD i [])
  have hb := frameB_bys (hl _ (ls_mem l i hi)) (by omega)
  obtain ⟨a1, a2, a3, a4, a5⟩ := h
  have hlast : (pl ++ [((all ++ x).length : Int)]).getD i 0 = ((all ++ x).length : Int) := by
    simp [← a1]
  refine ⟨by simp [a1], bys_app (bys_app a2 hx) hb, by simp only [List.length_append]; omega, fun j hj => ?_, ?_⟩
  · by_cases h3 : j < i
    · obtain ⟨b1, b2, b3, b4⟩ := a4 j h3
      have e : (pl ++ [((all ++ x).length : Int)]).getD j 0 = pl.getD j 0 := by
        simp [List.getElem?_append, a1, h3]
      rw [e]
      refine ⟨b1, b2, by simp only [List.length_append]; omega, ?_⟩
      rw [List.append_assoc, List.drop_append_of_le_length (by omega), List.take_append_of_le_length (by rw [List.length_drop]; omega)]
      exact b4
    · obtain rfl : j = i := by omega
      rw [hlast, Int.toNat_natCast]
      refine ⟨h2, by omega, by simp only [List.length_append]; omega, ?_⟩
      rw [List.drop_left, List.take_length]
  · rw [if_neg (by omega), Nat.add_sub_cancel, hlast, Int.toNat_natCast]
    simp only [List.length_append]
/-- Where one looks for the j-th frame. -/
def frAt (l : List (List Int)) (pl : List Int) (j : Nat) : Nat := if j = 0 then 0 else (pl.getD (j - 1) 0).toNat + (frameB (l.getD (j - 1) [])).length
theorem Laid.whole {l : List (List Int)} {i : Nat} {all pl : List Int} (hl : Byss l) (h : Laid l i all pl) (hi : i = l.length) {j : Nat} (hj : j < i) : wholeF (all.drop (pl.getD j 0).toNat) 60 = (frameB (l.getD j [])).length := by
  obtain ⟨b1, b2, b3, b4⟩ := h.at_ j hj
  obtain ⟨p, hp⟩ : ∃ p, l.getD j [] = p := ⟨_, rfl⟩
  rw [hp] at b1 b3 b4 ⊢
  have e : all.drop (pl.getD j 0).toNat = vb (p.length : Int) ++ ((p ++ lowBytes 4 (crcI p)) ++ (all.drop (pl.getD j 0).toNat).drop (frameB p).length) := by
    conv => lhs; rw [← List.take_append_drop (frameB p).length (all.drop (pl.getD j 0).toNat), b4]
    unfold frameB blobB
    simp only [List.append_assoc]
  have hm : mfr 60 = 60 := by decide
  have hi := int_own (s := RS.new (all.drop (pl.getD j 0).toNat)) (x := (p.length : Int)) (m := mfr 60) rfl (by omega) (by rw [hm]; omega) (by omega) ((new_rest _).trans e)
  unfold wholeF
  rw [hi]
  show (if (0 : Int) = 0 then sizeF (p.length : Int) else 0) = _
  rw [if_pos rfl, sizeF_frame]
/-- All frames are found. -/
theorem scan_all {l : List (List Int)} {all pl : List Int} (hl : Byss l) (h : Laid l l.length all pl) (hn : l.length ≤ 10) (hnx : ∀ j, j < l.length → nextF all (frAt l pl j) 60 = pl.getD j 0) : scanF all 60 0 = pl := by
  have hlen := h.len
  have key : ∀ (n j : Nat), j + n = l.length → scanF all 60 (frAt l pl j) = pl.drop j := by
    intro n
    induction n with
    | zero =>
      intro j hj
      have he : frAt l pl j = all.length := by
        have := h.last
        obtain rfl : j = l.length := by omega
        unfold frAt; exact this
      rw [scan_end (by rw [next_end (by omega)]; decide), List.drop_eq_nil_of_le (by omega)]
    | succ n ih =>
      intro j hj
      have hx := hnx j (by omega)
      obtain ⟨b1, b2, b3, b4⟩ := h.at_ j (by omega)
      have hle := h.le
      rw [scan_step h.bys (by omega) (by rw [hx]; omega), hx, h.whole hl rfl (by omega)]
      have e : pl.drop j = pl.getD j 0 :: pl.drop (j + 1) := by
        rw [List.drop_eq_getElem_cons (by omega)]; simp [show j < pl.length by omega]
      rw [e]
      have := ih (j + 1) (by omega)
      have ef : frAt l pl (j + 1) = (pl.getD j 0 + ((frameB (l.getD j [])).length : Int)).toNat := by
        unfold frAt; rw [if_neg (by omega), Nat.add_sub_cancel]; omega
      rw [← ef, this]
  have := key l.length 0 (by omega)
  rw [List.drop_zero] at this
  exact this
end Go.Proofs.Ytkhnfleejgfhgaa
