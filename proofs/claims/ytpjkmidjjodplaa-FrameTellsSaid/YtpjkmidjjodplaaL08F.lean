/-
  Chapter 8: FrameFinds.
-/
import Derived.Test.YtpjkmidjjodplaaL08B
set_option linter.all false
set_option linter.unusedSimpArgs false
set_option linter.unusedVariables false
set_option linter.unnecessarySimpa false
namespace Go.Proofs.Ytpjkmidjjodplaa
open Go.RowKit

/-- Rows of bytes. -/
def bss (l : List (List Int)) : List AV := l.map (slA .u8)
abbrev slsA (l : List (List Int)) : AV := .sl .none 1 (bss l)
theorem bss_length (l : List (List Int)) : (bss l).length = l.length := by simp [bss]
theorem bss_get (l : List (List Int)) (k : Nat) (h : k < l.length) : (bss l).getD k .any = slA .u8 (l.getD k []) := by simp [bss, h]
@[simp] theorem ren_bss (ρ : Nat → Nat) (l : List (List Int)) : (bss l).map (fun x => x.ren ρ) = bss l := by simp [bss, ints_nil, ren_lit, ren_ref, ren_any, ren_agg, ren_tup, ren_sl, ren_fn, tren_none, tren_full, tren_row, oren_cells, oren_row, oren_dead, ixs_z, ixs_1, ixs_2, ixs_3, ren_ints, List.map_cons, List.map_nil]
def Byss (l : List (List Int)) : Prop := ∀ b ∈ l, Bys b
theorem ls_mem (l : List (List Int)) (k : Nat) (h : k < l.length) : l.getD k [] ∈ l := by simp [h]
/-- What was laid so far: frames at their places. -/
structure Laid (l : List (List Int)) (i : Nat) (all pl : List Int) : Prop where
  len : pl.length = i
  bys : Bys all
  le : all.length ≤ 110 * i
  at_ : ∀ j, j < i → (l.getD j []).length ≤ 60 ∧ 0 ≤ pl.getD j 0 ∧ (pl.getD j 0).toNat + (frameB (l.getD j [])).length ≤ all.length ∧ (all.drop (pl.getD j 0).toNat).take (frameB (l.getD j [])).length = frameB (l.getD j [])
  last : (if i = 0 then 0 else (pl.getD (i - 1) 0).toNat + (frameB (l.getD (i - 1) [])).length) = all.length
theorem Laid.next {l : List (List Int)} {i : Nat} {all pl x : List Int} (hl : Byss l) (h : Laid l i all pl) (hi : i < l.length) (hx : Bys x) (h1 : x.length ≤ 30) (h2 : (l.getD i []).length ≤ 60) :
    Laid l (i + 1) (all ++ x ++ frameB (l.getD i [])) (pl ++ [((all ++ x).length : Int)]) := by
  have hf := frameB_le (l.getD i [])
  have hb := frameB_bys (hl _ (ls_mem l i hi)) (by omega)
  obtain ⟨a1, a2, a3, a4, a5⟩ := h
  have hlast : (pl ++ [((all ++ x).length : Int)]).getD i 0 = ((all ++ x).length : Int) := by
    simp [← a1]
  refine ⟨by simp [a1], bys_app (bys_app a2 hx) hb, by simp only [List.length_append]; omega, fun j hj => ?_, ?_⟩
  · by_cases h3 : j < i
    · obtain ⟨b1, b2, b3, b4⟩ := a4 j h3
      have e : (pl ++ [((all ++ x).length : Int)]).getD j 0 = pl.getD j 0 := by
        simp [List.getElem?_append, a1, h3]
      rw [e]
      refine ⟨b1, b2, by simp only [List.length_append]; omega, ?_⟩
      rw [List.append_assoc, List.drop_append_of_le_length (by omega), List.take_append_of_le_length (by rw [List.length_drop]; omega)]
      exact b4
    · obtain rfl : j = i := by omega
      rw [hlast, Int.toNat_natCast]
      refine ⟨h2, by omega, by simp only [List.length_append]; omega, ?_⟩
      rw [List.drop_left, List.take_length]
  · rw [if_neg (by omega), Nat.add_sub_cancel, hlast, Int.toNat_natCast]
    simp only [List.length_append]
/-- Where one looks for the j-th frame. -/
def frAt (l : List (List Int)) (pl : List Int) (j : Nat) : Nat := if j = 0 then 0 else (pl.getD (j - 1) 0).toNat + (frameB (l.getD (j - 1) [])).length
theorem Laid.whole {l : List (List Int)} {i : Nat} {all pl : List Int} (hl : Byss l) (h : Laid l i all pl) (hi : i = l.length) {j : Nat} (hj : j < i) : wholeF (all.drop (pl.getD j 0).toNat) 60 = (frameB (l.getD j [])).length := by
  obtain ⟨b1, b2, b3, b4⟩ := h.at_ j hj
  obtain ⟨p, hp⟩ : ∃ p, l.getD j [] = p := ⟨_, rfl⟩
  rw [hp] at b1 b3 b4 ⊢
  have e : all.drop (pl.getD j 0).toNat = vb (p.length : Int) ++ ((p ++ lowBytes 4 (crcI p)) ++ (all.drop (pl.getD j 0).toNat).drop (frameB p).length) := by
    conv => lhs; rw [← List.take_append_drop (frameB p).length (all.drop (pl.getD j 0).toNat), b4]
    unfold frameB blobB
    simp only [List.append_assoc]
  have hm : mfr 60 = 60 := by decide
  have hi := int_own (s := RS.new (all.drop (pl.getD j 0).toNat)) (x := (p.length : Int)) (m := mfr 60) rfl (by omega) (by rw [hm]; omega) (by omega) ((new_rest _).trans e)
  unfold wholeF
  rw [hi]
  show (if (0 : Int) = 0 then sizeF (p.length : Int) else 0) = _
  rw [if_pos rfl, sizeF_frame]
/-- All frames are found. -/
theorem scan_all {l : List (List Int)} {all pl : List Int} (hl : Byss l) (h : Laid l l.length all pl) (hn : l.length ≤ 10) (hnx : ∀ j, j < l.length → nextF all (frAt l pl j) 60 = pl.getD j 0) : scanF all 60 0 = pl := by
  have hlen := h.len
  have key : ∀ (n j : Nat), j + n = l.length → scanF all 60 (frAt l pl j) = pl.drop j := by
    intro n
    induction n with
    | zero =>
      intro j hj
      have he : frAt l pl j = all.length := by
        have := h.last
        obtain rfl : j = l.length := by omega
        unfold frAt; exact this
      rw [scan_end (by rw [next_end (by omega)]; decide), List.drop_eq_nil_of_le (by omega)]
    | succ n ih =>
      intro j hj
      have hx := hnx j (by omega)
      obtain ⟨b1, b2, b3, b4⟩ := h.at_ j (by omega)
      have hle := h.le
      rw [scan_step h.bys (by omega) (by rw [hx]; omega), hx, h.whole hl rfl (by omega)]
      have e : pl.drop j = pl.getD j 0 :: pl.drop (j + 1) := by
        rw [List.drop_eq_getElem_cons (by omega)]; simp [show j < pl.length by omega]
      rw [e]
      have := ih (j + 1) (by omega)
      have ef : frAt l pl (j + 1) = (pl.getD j 0 + ((frameB (l.getD j [])).length : Int)).toNat := by
        unfold frAt; rw [if_neg (by omega), Nat.add_sub_cancel]; omega
      rw [← ef, this]
  have := key l.length 0 (by omega)
  rw [List.drop_zero] at this
  exact this
set_option maxHeartbeats 1000000 in
set_option maxRecDepth 100000 in
theorem law_FrameFinds (l bt : List (List Int)) (hl : Byss l) (hb : Byss bt) : Does Try.prog 16 [slsA l, slsA bt] [] (bA true) [] := by
  refine Does.run Try.func16 b16 n16 Try.ntmps16 (by simp only [List.cons_append, List.nil_append, List.length_cons, List.length_nil, Nat.zero_add, Nat.reduceAdd, Nat.reduceSub, List.replicate]; rfl) ?_; simp only [c16, go_sem, Nat.reduceAdd, Nat.reduceMul, Int.reduceToNat, Nat.reduceLeDiff, Int.reduceLE, Int.reduceLT, ↓reduceIte, Int.reduceBEq, Int.reduceBNe, Int.reduceAdd, Int.reduceSub, Int.reduceMul, qFin_ret, qFin_normal, bss_length]; (try ((refine okTr_and ?_ ?_); (· rfl)))
  by_cases h10 : 10 < (l.length : Int) ∨ ¬ bt.length = l.length
  · by_cases h1 : 10 < (l.length : Int)
    · have q1 : decide (10 < (l.length : Int)) = true := by simpa using h1
      (simp only [go_sem, Nat.reduceAdd, Nat.reduceMul, Int.reduceToNat, Nat.reduceLeDiff, Int.reduceLE, Int.reduceLT, ↓reduceIte, Int.reduceBEq, Int.reduceBNe, Int.reduceAdd, Int.reduceSub, Int.reduceMul, qFin_ret, qFin_normal, q1]; (try ((refine okTr_and ?_ ?_); (· rfl))))
      refine CallK.p (live08) ?_; (simp only [go_sem, Nat.reduceAdd, Nat.reduceMul, Int.reduceToNat, Nat.reduceLeDiff, Int.reduceLE, Int.reduceLT, ↓reduceIte, Int.reduceBEq, Int.reduceBNe, Int.reduceAdd, Int.reduceSub, Int.reduceMul, qFin_ret, qFin_normal]; (try ((refine okTr_and ?_ ?_); (· rfl))))
      ((refine FinK.fin r16 [] ?_ ?_ ?_ ?_ ?_ ?_); (· decide); (· rfl); (· simp); (· rfl); (· first | with_reducible rfl | (simp [ints_nil, ren_lit, ren_ref, ren_any, ren_agg, ren_tup, ren_sl, ren_fn, tren_none, tren_full, tren_row, oren_cells, oren_row, oren_dead, ixs_z, ixs_1, ixs_2, ixs_3, ren_ints, List.map_cons, List.map_nil]; done) | rfl); (· simp [resAL, resA1, loadA, oneOr, ints_nil, ren_lit, ren_ref, ren_any, ren_agg, ren_tup, ren_sl, ren_fn, tren_none, tren_full, tren_row, oren_cells, oren_row, oren_dead, ixs_z, ixs_1, ixs_2, ixs_3, ren_ints, List.map_cons, List.map_nil]))
    · have q1 : decide (10 < (l.length : Int)) = false := by simpa using h1
      have q2 : ((bt.length : Int) != (l.length : Int)) = true := by simp; omega
      (simp only [go_sem, Nat.reduceAdd, Nat.reduceMul, Int.reduceToNat, Nat.reduceLeDiff, Int.reduceLE, Int.reduceLT, ↓reduceIte, Int.reduceBEq, Int.reduceBNe, Int.reduceAdd, Int.reduceSub, Int.reduceMul, qFin_ret, qFin_normal, q1, bss_length, q2]; (try ((refine okTr_and ?_ ?_); (· rfl))))
      refine CallK.p (live08) ?_; (simp only [go_sem, Nat.reduceAdd, Nat.reduceMul, Int.reduceToNat, Nat.reduceLeDiff, Int.reduceLE, Int.reduceLT, ↓reduceIte, Int.reduceBEq, Int.reduceBNe, Int.reduceAdd, Int.reduceSub, Int.reduceMul, qFin_ret, qFin_normal]; (try ((refine okTr_and ?_ ?_); (· rfl))))
      ((refine FinK.fin r16 [] ?_ ?_ ?_ ?_ ?_ ?_); (· decide); (· rfl); (· simp); (· rfl); (· first | with_reducible rfl | (simp [ints_nil, ren_lit, ren_ref, ren_any, ren_agg, ren_tup, ren_sl, ren_fn, tren_none, tren_full, tren_row, oren_cells, oren_row, oren_dead, ixs_z, ixs_1, ixs_2, ixs_3, ren_ints, List.map_cons, List.map_nil]; done) | rfl); (· simp [resAL, resA1, loadA, oneOr, ints_nil, ren_lit, ren_ref, ren_any, ren_agg, ren_tup, ren_sl, ren_fn, tren_none, tren_full, tren_row, oren_cells, oren_row, oren_dead, ixs_z, ixs_1, ixs_2, ixs_3, ren_ints, List.map_cons, List.map_nil]))
  · have q1 : decide (10 < (l.length : Int)) = false := by simp; omega
    have q2 : ((bt.length : Int) != (l.length : Int)) = false := by simp; omega
    have hbl : bt.length = l.length := by omega
    have hn : l.length ≤ 10 := by omega
    (simp only [go_sem, Nat.reduceAdd, Nat.reduceMul, Int.reduceToNat, Nat.reduceLeDiff, Int.reduceLE, Int.reduceLT, ↓reduceIte, Int.reduceBEq, Int.reduceBNe, Int.reduceAdd, Int.reduceSub, Int.reduceMul, qFin_ret, qFin_normal, q1, bss_length, q2]; (try ((refine okTr_and ?_ ?_); (· rfl))))
    refine loop_of (α := Nat × List Int × List Int) (fun a => [slsA l, slsA bt, .any, .any, .any, ownA 0 a.2.1, .sl (.row 1) 1 (ints .i64 a.2.2), iA a.1, .any, .any, .any, .any, .any, .any, .any, .any, .any, .any, .any, .any, .any, .any, .any, .any, .any, .any, .any, .any, .any, .any, .any, .any, .any, .any, .any, .any, .any, .any, .any, .any, .any, .any, .any, .any, .any, .any, .any, .any, .any, .any, .any, .any, .any, .any, .any, .any, .any, .any, .any, .any, .any, .any, .any, .any, .any, .any, .any, .any, .any, .any, .any, .any, .any, .any, .any, .any, .any, .any, .any, .any, .any, .any, .any, .any, .any, .any, .any, .any, .any, .any, .any, .any, .any, .any, .any, .any, .any, .any, .any, .any, .any, .any, .any, .any, .any, .any, .any, .any, .any, .any, .any]) (fun a => [.row 1 a.2.1.length, .row 1 a.2.2.length]) (fun a => a.1 ≤ l.length ∧ Laid l a.1 a.2.1 a.2.2) (fun a => l.length - a.1) (0, [], []) ⟨by simp, ⟨rfl, by intro x hx; simp at hx, by simp, by intro j hj; omega, rfl⟩⟩ ((Wk.row 5 1 rfl (.inl rfl) (by decide)).trans ((Wk.row 6 1 rfl (.inl rfl) (by decide)).trans (Wk.to (by simp) (by simp [leT, ints])))) ?_
    rintro ⟨i, all, pl⟩ ⟨hi, hL⟩
    simp only at hi hL
    (simp only [go_sem, Nat.reduceAdd, Nat.reduceMul, Int.reduceToNat, Nat.reduceLeDiff, Int.reduceLE, Int.reduceLT, ↓reduceIte, Int.reduceBEq, Int.reduceBNe, Int.reduceAdd, Int.reduceSub, Int.reduceMul, qFin_ret, qFin_normal, bss_length]; (try ((refine okTr_and ?_ ?_); (· rfl))))
    by_cases hlt : i < l.length
    · have q3 : decide ((i : Int) < (l.length : Int)) = true := by simp; omega
      have ei := i64_succ i (by omega)
      have gl := bss_get l i hlt
      have gb := bss_get bt i (by omega)
      obtain ⟨p, hp⟩ : ∃ p, l.getD i [] = p := ⟨_, rfl⟩
      obtain ⟨x, hx⟩ : ∃ x, bt.getD i [] = x := ⟨_, rfl⟩
      have hpb : Bys p := by rw [← hp]; exact hl _ (ls_mem l i hlt)
      have hxb : Bys x := by rw [← hx]; exact hb _ (ls_mem bt i (by omega))
      have hnx := fun h1 h2 => hL.next hl hlt hxb h1 h2
      rw [hp] at gl hnx
      rw [hx] at gb
      have hle := hL.le
      have hll := hL.len
      by_cases c1 : 60 < (p.length : Int)
      · have q4 : decide (60 < (p.length : Int)) = true := by simpa using c1
        (simp only [go_sem, Nat.reduceAdd, Nat.reduceMul, Int.reduceToNat, Nat.reduceLeDiff, Int.reduceLE, Int.reduceLT, ↓reduceIte, Int.reduceBEq, Int.reduceBNe, Int.reduceAdd, Int.reduceSub, Int.reduceMul, qFin_ret, qFin_normal, q3, gl, bss_length, ints_length, Int.toNat_natCast, q4]; (try ((refine okTr_and ?_ ?_); (· rfl))))
        (repeat ((with_reducible refine And.intro ?_ ?_); (· first | with_reducible assumption | omega | with_reducible rfl | (simp only [List.length_append, List.length_cons, List.length_nil, List.length_singleton]; omega) | (simp [ints_length, okEl_eq, AV.parts]; done) | (simp [ints_length, okEl_eq, AV.parts]; omega) | rfl)))
        refine CallK.p (live08) ?_; (simp only [go_sem, Nat.reduceAdd, Nat.reduceMul, Int.reduceToNat, Nat.reduceLeDiff, Int.reduceLE, Int.reduceLT, ↓reduceIte, Int.reduceBEq, Int.reduceBNe, Int.reduceAdd, Int.reduceSub, Int.reduceMul, qFin_ret, qFin_normal]; (try ((refine okTr_and ?_ ?_); (· rfl))))
        ((refine FinK.fin r16 [] ?_ ?_ ?_ ?_ ?_ ?_); (· decide); (· rfl); (· simp); (· rfl); (· first | with_reducible rfl | (simp [ints_nil, ren_lit, ren_ref, ren_any, ren_agg, ren_tup, ren_sl, ren_fn, tren_none, tren_full, tren_row, oren_cells, oren_row, oren_dead, ixs_z, ixs_1, ixs_2, ixs_3, ren_ints, List.map_cons, List.map_nil]; done) | rfl); (· simp [resAL, resA1, loadA, oneOr, ints_nil, ren_lit, ren_ref, ren_any, ren_agg, ren_tup, ren_sl, ren_fn, tren_none, tren_full, tren_row, oren_cells, oren_row, oren_dead, ixs_z, ixs_1, ixs_2, ixs_3, ren_ints, List.map_cons, List.map_nil]))
      · have q4 : decide (60 < (p.length : Int)) = false := by simpa using c1
        by_cases c2 : 30 < (x.length : Int)
        · have q5 : decide (30 < (x.length : Int)) = true := by simpa using c2
          (simp only [go_sem, Nat.reduceAdd, Nat.reduceMul, Int.reduceToNat, Nat.reduceLeDiff, Int.reduceLE, Int.reduceLT, ↓reduceIte, Int.reduceBEq, Int.reduceBNe, Int.reduceAdd, Int.reduceSub, Int.reduceMul, qFin_ret, qFin_normal, q3, gl, gb, bss_length, ints_length, Int.toNat_natCast, q4, q5]; (try ((refine okTr_and ?_ ?_); (· rfl))))
          (repeat ((with_reducible refine And.intro ?_ ?_); (· first | with_reducible assumption | omega | with_reducible rfl | (simp only [List.length_append, List.length_cons, List.length_nil, List.length_singleton]; omega) | (simp [ints_length, okEl_eq, AV.parts]; done) | (simp [ints_length, okEl_eq, AV.parts]; omega) | rfl)))
          refine CallK.p (live08) ?_; (simp only [go_sem, Nat.reduceAdd, Nat.reduceMul, Int.reduceToNat, Nat.reduceLeDiff, Int.reduceLE, Int.reduceLT, ↓reduceIte, Int.reduceBEq, Int.reduceBNe, Int.reduceAdd, Int.reduceSub, Int.reduceMul, qFin_ret, qFin_normal]; (try ((refine okTr_and ?_ ?_); (· rfl))))
          ((refine FinK.fin r16 [] ?_ ?_ ?_ ?_ ?_ ?_); (· decide); (· rfl); (· simp); (· rfl); (· first | with_reducible rfl | (simp [ints_nil, ren_lit, ren_ref, ren_any, ren_agg, ren_tup, ren_sl, ren_fn, tren_none, tren_full, tren_row, oren_cells, oren_row, oren_dead, ixs_z, ixs_1, ixs_2, ixs_3, ren_ints, List.map_cons, List.map_nil]; done) | rfl); (· simp [resAL, resA1, loadA, oneOr, ints_nil, ren_lit, ren_ref, ren_any, ren_agg, ren_tup, ren_sl, ren_fn, tren_none, tren_full, tren_row, oren_cells, oren_row, oren_dead, ixs_z, ixs_1, ixs_2, ixs_3, ren_ints, List.map_cons, List.map_nil]))
        · have q5 : decide (30 < (x.length : Int)) = false := by simpa using c2
          have hfl := frameB_le p
          have hL2 := hnx (by omega) (by omega)
          (simp only [go_sem, Nat.reduceAdd, Nat.reduceMul, Int.reduceToNat, Nat.reduceLeDiff, Int.reduceLE, Int.reduceLT, ↓reduceIte, Int.reduceBEq, Int.reduceBNe, Int.reduceAdd, Int.reduceSub, Int.reduceMul, qFin_ret, qFin_normal, q3, gl, gb, bss_length, ints_length, Int.toNat_natCast, q4, q5, ints_append, ints_snoc]; (try ((refine okTr_and ?_ ?_); (· rfl))))
          (repeat ((with_reducible refine And.intro ?_ ?_); (· first | with_reducible assumption | omega | with_reducible rfl | (simp only [List.length_append, List.length_cons, List.length_nil, List.length_singleton]; omega) | (simp [ints_length, okEl_eq, AV.parts]; done) | (simp [ints_length, okEl_eq, AV.parts]; omega) | rfl)))
          refine CallK.n (ref08_Bytes p hpb (by omega)) ?_; (simp only [go_sem, Nat.reduceAdd, Nat.reduceMul, Int.reduceToNat, Nat.reduceLeDiff, Int.reduceLE, Int.reduceLT, ↓reduceIte, Int.reduceBEq, Int.reduceBNe, Int.reduceAdd, Int.reduceSub, Int.reduceMul, qFin_ret, qFin_normal, ints_append, ints_length, ei]; (try ((refine okTr_and ?_ ?_); (· rfl))))
          (repeat ((with_reducible refine And.intro ?_ ?_); (· first | with_reducible assumption | omega | with_reducible rfl | (simp only [List.length_append, List.length_cons, List.length_nil, List.length_singleton]; omega) | (simp [ints_length, okEl_eq, AV.parts]; done) | (simp [ints_length, okEl_eq, AV.parts]; omega) | rfl)))
          exact ⟨(i + 1, all ++ x ++ frameB p, pl ++ [((all ++ x).length : Int)]), ⟨hlt, hL2⟩, by simp only; omega, Wk.sel [0, 1] (by simp) rfl (by simp) rfl (by simp [ints_nil, ren_lit, ren_ref, ren_any, ren_agg, ren_tup, ren_sl, ren_fn, tren_none, tren_full, tren_row, oren_cells, oren_row, oren_dead, ixs_z, ixs_1, ixs_2, ixs_3, ren_ints, List.map_cons, List.map_nil, Nat.add_assoc]) (by simp [selT, ints_nil, ren_lit, ren_ref, ren_any, ren_agg, ren_tup, ren_sl, ren_fn, tren_none, tren_full, tren_row, oren_cells, oren_row, oren_dead, ixs_z, ixs_1, ixs_2, ixs_3, ren_ints, List.map_cons, List.map_nil, ixs])⟩
    · have q3 : decide ((i : Int) < (l.length : Int)) = false := by simp; omega
      obtain rfl : i = l.length := by omega
      have hle := hL.le
      have hll := hL.len
      have hab := hL.bys
      have hat := hL.at_
      (simp only [go_sem, Nat.reduceAdd, Nat.reduceMul, Int.reduceToNat, Nat.reduceLeDiff, Int.reduceLE, Int.reduceLT, ↓reduceIte, Int.reduceBEq, Int.reduceBNe, Int.reduceAdd, Int.reduceSub, Int.reduceMul, qFin_ret, qFin_normal, q3]; (try ((refine okTr_and ?_ ?_); (· rfl))))
      refine loop_of (α := Nat) (fun j => [slsA l, .any, .any, .any, .any, ownA 0 all, .sl (.row 1) 1 (ints .i64 pl), .any, iA (frAt l pl j), iA j, .any, .any, .any, .any, .any, .any, .any, .any, .any, .any, .any, .any, .any, .any, .any, .any, .any, .any, .any, .any, .any, .any, .any, .any, .any, .any, .any, .any, .any, .any, .any, .any, .any, .any, .any, .any, .any, .any, .any, .any, .any, .any, .any, .any, .any, .any, .any, .any, .any, .any, .any, .any, .any, .any, .any, .any, .any, .any, .any, .any, .any, .any, .any, .any, .any, .any, .any, .any, .any, .any, .any, .any, .any, .any, .any, .any, .any, .any, .any, .any, .any, .any, .any, .any, .any, .any, .any, .any, .any, .any, .any, .any, .any, .any, .any, .any, .any, .any, .any, .any, .any]) (fun _ => [.row 1 all.length, .row 1 pl.length]) (fun j => j ≤ l.length ∧ ∀ k, k < j → nextF all (frAt l pl k) 60 = pl.getD k 0) (fun j => l.length - j) 0 ⟨by simp, fun k hk => by omega⟩ (Wk.to (by simp) (by simp [leT, frAt])) ?_
      rintro j ⟨hj, hnx⟩
      (simp only [go_sem, Nat.reduceAdd, Nat.reduceMul, Int.reduceToNat, Nat.reduceLeDiff, Int.reduceLE, Int.reduceLT, ↓reduceIte, Int.reduceBEq, Int.reduceBNe, Int.reduceAdd, Int.reduceSub, Int.reduceMul, qFin_ret, qFin_normal, bss_length]; (try ((refine okTr_and ?_ ?_); (· rfl))))
      by_cases hjl : j < l.length
      · have q4 : decide ((j : Int) < (l.length : Int)) = true := by simp; omega
        have ej := i64_succ j (by omega)
        have gp := i64_get pl j (by omega)
        rw [Int.toNat_natCast] at gp
        have gl := bss_get l j hjl
        have hpb : Bys (l.getD j []) := hl _ (ls_mem l j hjl)
        obtain ⟨b1, b2, b3, b4⟩ := hat j hjl
        have emx : (max (frAt l pl j : Int) 0).toNat = frAt l pl j := by omega
        have hfr : frAt l pl (j + 1) = (pl.getD j 0).toNat + (frameB (l.getD j [])).length := by unfold frAt; rw [if_neg (by omega), Nat.add_sub_cancel]
        have hfl := frameB_le (l.getD j [])
        have hfb : frAt l pl j ≤ 2000 := by
          unfold frAt
          split
          · omega
          · have := (hat (j - 1) (by omega)).2.2.1; omega
        have es : IntKind.i64.wrap (pl.getD j 0 + ((frameB (l.getD j [])).length : Int)) = (frAt l pl (j + 1) : Int) := by rw [IntWalk.i64_in _ (by omega), hfr]; omega
        (simp only [go_sem, Nat.reduceAdd, Nat.reduceMul, Int.reduceToNat, Nat.reduceLeDiff, Int.reduceLE, Int.reduceLT, ↓reduceIte, Int.reduceBEq, Int.reduceBNe, Int.reduceAdd, Int.reduceSub, Int.reduceMul, qFin_ret, qFin_normal, q4]; (try ((refine okTr_and ?_ ?_); (· rfl))))
        refine CallK.p (ref08_Next all (frAt l pl j) 60 hab (by omega) (by omega) (by decide)) ?_
        by_cases hx : nextF all (frAt l pl j) 60 = pl.getD j 0
        · have q5 : (nextF all (frAt l pl j) 60 != pl.getD j 0) = false := by simpa using hx
          (simp only [go_sem, Nat.reduceAdd, Nat.reduceMul, Int.reduceToNat, Nat.reduceLeDiff, Int.reduceLE, Int.reduceLT, ↓reduceIte, Int.reduceBEq, Int.reduceBNe, Int.reduceAdd, Int.reduceSub, Int.reduceMul, qFin_ret, qFin_normal, emx, gp, ints_length, Int.toNat_natCast, q5, gl, bss_length]; (try ((refine okTr_and ?_ ?_); (· rfl))))
          (repeat ((with_reducible refine And.intro ?_ ?_); (· first | with_reducible assumption | omega | with_reducible rfl | (simp only [List.length_append, List.length_cons, List.length_nil, List.length_singleton]; omega) | (simp [ints_length, okEl_eq, AV.parts]; done) | (simp [ints_length, okEl_eq, AV.parts]; omega) | rfl)))
          refine CallK.n (ref08_Bytes (l.getD j []) hpb (by omega)) ?_; (simp only [go_sem, Nat.reduceAdd, Nat.reduceMul, Int.reduceToNat, Nat.reduceLeDiff, Int.reduceLE, Int.reduceLT, ↓reduceIte, Int.reduceBEq, Int.reduceBNe, Int.reduceAdd, Int.reduceSub, Int.reduceMul, qFin_ret, qFin_normal, gp, ints_length, Int.toNat_natCast, es, ej]; (try ((refine okTr_and ?_ ?_); (· rfl))))
          (repeat ((with_reducible refine And.intro ?_ ?_); (· first | with_reducible assumption | omega | with_reducible rfl | (simp only [List.length_append, List.length_cons, List.length_nil, List.length_singleton]; omega) | (simp [ints_length, okEl_eq, AV.parts]; done) | (simp [ints_length, okEl_eq, AV.parts]; omega) | rfl)))
          exact ⟨j + 1, ⟨hjl, fun k hk => by
            rcases Nat.lt_or_ge k j with h | h
            · exact hnx k h
            · obtain rfl : k = j := by omega
              exact hx⟩, by omega, Wk.sel [0, 1] (by simp) rfl (by simp) rfl (by simp [ints_nil, ren_lit, ren_ref, ren_any, ren_agg, ren_tup, ren_sl, ren_fn, tren_none, tren_full, tren_row, oren_cells, oren_row, oren_dead, ixs_z, ixs_1, ixs_2, ixs_3, ren_ints, List.map_cons, List.map_nil]) (by simp [selT, ints_nil, ren_lit, ren_ref, ren_any, ren_agg, ren_tup, ren_sl, ren_fn, tren_none, tren_full, tren_row, oren_cells, oren_row, oren_dead, ixs_z, ixs_1, ixs_2, ixs_3, ren_ints, List.map_cons, List.map_nil, ixs])⟩
        · have q5 : (nextF all (frAt l pl j) 60 != pl.getD j 0) = true := by simpa using hx
          (simp only [go_sem, Nat.reduceAdd, Nat.reduceMul, Int.reduceToNat, Nat.reduceLeDiff, Int.reduceLE, Int.reduceLT, ↓reduceIte, Int.reduceBEq, Int.reduceBNe, Int.reduceAdd, Int.reduceSub, Int.reduceMul, qFin_ret, qFin_normal, emx, gp, ints_length, Int.toNat_natCast, q5]; (try ((refine okTr_and ?_ ?_); (· rfl))))
          (repeat ((with_reducible refine And.intro ?_ ?_); (· first | with_reducible assumption | omega | with_reducible rfl | (simp only [List.length_append, List.length_cons, List.length_nil, List.length_singleton]; omega) | (simp [ints_length, okEl_eq, AV.parts]; done) | (simp [ints_length, okEl_eq, AV.parts]; omega) | rfl)))
          refine CallK.p (live08) ?_; (simp only [go_sem, Nat.reduceAdd, Nat.reduceMul, Int.reduceToNat, Nat.reduceLeDiff, Int.reduceLE, Int.reduceLT, ↓reduceIte, Int.reduceBEq, Int.reduceBNe, Int.reduceAdd, Int.reduceSub, Int.reduceMul, qFin_ret, qFin_normal]; (try ((refine okTr_and ?_ ?_); (· rfl))))
          ((refine FinK.fin r16 [] ?_ ?_ ?_ ?_ ?_ ?_); (· decide); (· rfl); (· simp); (· rfl); (· first | with_reducible rfl | (simp [ints_nil, ren_lit, ren_ref, ren_any, ren_agg, ren_tup, ren_sl, ren_fn, tren_none, tren_full, tren_row, oren_cells, oren_row, oren_dead, ixs_z, ixs_1, ixs_2, ixs_3, ren_ints, List.map_cons, List.map_nil]; done) | rfl); (· simp [resAL, resA1, loadA, oneOr, ints_nil, ren_lit, ren_ref, ren_any, ren_agg, ren_tup, ren_sl, ren_fn, tren_none, tren_full, tren_row, oren_cells, oren_row, oren_dead, ixs_z, ixs_1, ixs_2, ixs_3, ren_ints, List.map_cons, List.map_nil]))
      · have q4 : decide ((j : Int) < (l.length : Int)) = false := by simp; omega
        have hsc := scan_all hl hL hn (fun k hk => hnx k (by omega))
        have q5 : ((pl.length : Int) != (l.length : Int)) = false := by simp; omega
        (simp only [go_sem, Nat.reduceAdd, Nat.reduceMul, Int.reduceToNat, Nat.reduceLeDiff, Int.reduceLE, Int.reduceLT, ↓reduceIte, Int.reduceBEq, Int.reduceBNe, Int.reduceAdd, Int.reduceSub, Int.reduceMul, qFin_ret, qFin_normal, q4]; (try ((refine okTr_and ?_ ?_); (· rfl))))
        refine CallK.p (frame_Scan all 60 hab (by omega) (by decide)) ?_; (simp only [go_sem, Nat.reduceAdd, Nat.reduceMul, Int.reduceToNat, Nat.reduceLeDiff, Int.reduceLE, Int.reduceLT, ↓reduceIte, Int.reduceBEq, Int.reduceBNe, Int.reduceAdd, Int.reduceSub, Int.reduceMul, qFin_ret, qFin_normal, hsc, ints_length, bss_length, q5]; (try ((refine okTr_and ?_ ?_); (· rfl))))
        refine loop_of (α := Nat) (fun j => [slsA l, .any, .any, .any, .any, .any, .sl (.row 1) 1 (ints .i64 pl), .any, .any, .any, slA .i64 pl, iA j, .any, .any, .any, .any, .any, .any, .any, .any, .any, .any, .any, .any, .any, .any, .any, .any, .any, .any, .any, .any, .any, .any, .any, .any, .any, .any, .any, .any, .any, .any, .any, .any, .any, .any, .any, .any, .any, .any, .any, .any, .any, .any, .any, .any, .any, .any, .any, .any, .any, .any, .any, .any, .any, .any, .any, .any, .any, .any, .any, .any, .any, .any, .any, .any, .any, .any, .any, .any, .any, .any, .any, .any, .any, .any, .any, .any, .any, .any, .any, .any, .any, .any, .any, .any, .any, .any, .any, .any, .any, .any, .any, .any, .any, .any, .any, .any, .any, .any, .any]) (fun _ => [.row 1 all.length, .row 1 pl.length]) (fun j => j ≤ l.length) (fun j => l.length - j) 0 (by simp) (Wk.to (by simp) (by simp [leT])) ?_
        intro k hk
        (simp only [go_sem, Nat.reduceAdd, Nat.reduceMul, Int.reduceToNat, Nat.reduceLeDiff, Int.reduceLE, Int.reduceLT, ↓reduceIte, Int.reduceBEq, Int.reduceBNe, Int.reduceAdd, Int.reduceSub, Int.reduceMul, qFin_ret, qFin_normal, bss_length]; (try ((refine okTr_and ?_ ?_); (· rfl))))
        by_cases hkl : k < l.length
        · have q6 : decide ((k : Int) < (l.length : Int)) = true := by simp; omega
          have ek := i64_succ k (by omega)
          have gp := i64_get pl k (by omega)
          rw [Int.toNat_natCast] at gp
          (simp only [go_sem, Nat.reduceAdd, Nat.reduceMul, Int.reduceToNat, Nat.reduceLeDiff, Int.reduceLE, Int.reduceLT, ↓reduceIte, Int.reduceBEq, Int.reduceBNe, Int.reduceAdd, Int.reduceSub, Int.reduceMul, qFin_ret, qFin_normal, q6, gp, ints_length, Int.toNat_natCast, bne_self_eq_false, ek]; (try ((refine okTr_and ?_ ?_); (· rfl))))
          (repeat ((with_reducible refine And.intro ?_ ?_); (· first | with_reducible assumption | omega | with_reducible rfl | (simp only [List.length_append, List.length_cons, List.length_nil, List.length_singleton]; omega) | (simp [ints_length, okEl_eq, AV.parts]; done) | (simp [ints_length, okEl_eq, AV.parts]; omega) | rfl)))
          exact ⟨k + 1, hkl, by omega, Wk.to (by simp) (by simp [leT])⟩
        · have q6 : decide ((k : Int) < (l.length : Int)) = false := by simp; omega
          (simp only [go_sem, Nat.reduceAdd, Nat.reduceMul, Int.reduceToNat, Nat.reduceLeDiff, Int.reduceLE, Int.reduceLT, ↓reduceIte, Int.reduceBEq, Int.reduceBNe, Int.reduceAdd, Int.reduceSub, Int.reduceMul, qFin_ret, qFin_normal, q6]; (try ((refine okTr_and ?_ ?_); (· rfl))))
          refine CallK.p (live08) ?_; (simp only [go_sem, Nat.reduceAdd, Nat.reduceMul, Int.reduceToNat, Nat.reduceLeDiff, Int.reduceLE, Int.reduceLT, ↓reduceIte, Int.reduceBEq, Int.reduceBNe, Int.reduceAdd, Int.reduceSub, Int.reduceMul, qFin_ret, qFin_normal]; (try ((refine okTr_and ?_ ?_); (· rfl))))
          ((refine FinK.fin r16 [] ?_ ?_ ?_ ?_ ?_ ?_); (· decide); (· rfl); (· simp); (· rfl); (· first | with_reducible rfl | (simp [ints_nil, ren_lit, ren_ref, ren_any, ren_agg, ren_tup, ren_sl, ren_fn, tren_none, tren_full, tren_row, oren_cells, oren_row, oren_dead, ixs_z, ixs_1, ixs_2, ixs_3, ren_ints, List.map_cons, List.map_nil]; done) | rfl); (· simp [resAL, resA1, loadA, oneOr, ints_nil, ren_lit, ren_ref, ren_any, ren_agg, ren_tup, ren_sl, ren_fn, tren_none, tren_full, tren_row, oren_cells, oren_row, oren_dead, ixs_z, ixs_1, ixs_2, ixs_3, ren_ints, List.map_cons, List.map_nil]))
end Go.Proofs.Ytpjkmidjjodplaa
