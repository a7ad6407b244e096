/-
  Contracts of chapter 32: marks; which are well-formed; are they the same.
  Contracts of chapter 32: are marks the same; which are well-formed by the reference; marks written.
  Contracts of chapter 32: marks written and read.
-/
import Derived.Test.YtgphhganepjaiaaQ5
import Derived.Test.YtgphhganepjaiaaP4
set_option linter.all false
set_option linter.unusedSimpArgs false
set_option linter.unusedVariables false
set_option linter.unnecessarySimpa false
section
namespace Go.Proofs.Ytgphhganepjaiaa
open Go.RowKit

/-- A mark, marks. -/
abbrev mkA (m : Mk) : AV := .agg [uA m.pos, iA m.cnt, iA m.at_]
def mks (l : List Mk) : List AV := l.map mkA
abbrev slM (l : List Mk) : AV := .sl .none 3 (mks l)
@[simp] theorem ren_mks (ρ : Nat → Nat) (l : List Mk) : (mks l).map (fun x => x.ren ρ) = mks l := by simp [mks, ints_nil, ren_lit, ren_ref, ren_any, ren_agg, ren_tup, ren_sl, ren_fn, tren_none, tren_full, tren_row, oren_cells, oren_row, oren_dead, ixs_z, ixs_1, ixs_2, ixs_3, ren_ints, List.map_cons, List.map_nil]
@[simp] theorem ren_ints_s (ρ : Nat → Nat) (k : IntKind) (l : List Int) : (ints k l).map (fun x => x.ren ρ) = ints k l := ren_ints ρ k l
theorem mks_length (l : List Mk) : (mks l).length = l.length := by simp [mks]
theorem mks_nil : mks [] = [] := (rfl)
theorem mks_snoc (l : List Mk) (m : Mk) : mks l ++ [mkA m] = mks (l ++ [m]) := by simp [mks]
theorem mks_getD (l : List Mk) (k : Nat) (h : k < l.length) : (mks l).getD k .any = mkA (l.getD k mk0) := by simp [mks, h]
theorem mks_get (l : List Mk) (k : Nat) (h : k < l.length) : (mks l).getD (k : Int).toNat .any = mkA (l.getD k mk0) := by
  rw [Int.toNat_natCast]; exact mks_getD l k h
theorem mk_mem (l : List Mk) (k : Nat) (h : k < l.length) : l.getD k mk0 ∈ l := by simp [h]
theorem mk_take (l : List Mk) (k : Nat) (h : k < l.length) : l.take (k + 1) = l.take k ++ [l.getD k mk0] := by
  rw [List.take_succ_eq_append_getElem h]; simp [h]
/-- What marks in memory are. -/
def Mks (l : List Mk) : Prop := ∀ m ∈ l, m.ok
theorem index_end0 (m : Mk) (h0 : 0 ≤ m.pos) (h1 : 0 ≤ m.cnt) (h2 : m.pos + m.cnt < 18446744073709551616) : Does Try.prog 126 [mkA m] [] (uA m.fin) [] := by
  have e1 : IntKind.u64.wrap m.cnt = m.cnt := IntWalk.u64_in _ (by omega)
  have e2 : IntKind.u64.wrap (m.pos + m.cnt) = m.fin := IntWalk.u64_in _ (by omega)
  refine Does.run Try.func126 b126 n126 Try.ntmps126 (by simp only [List.cons_append, List.nil_append, List.length_cons, List.length_nil, Nat.zero_add, Nat.reduceAdd, Nat.reduceSub, List.replicate]; rfl) ?_; simp only [c126, go_sem, Nat.reduceAdd, Nat.reduceMul, Int.reduceToNat, Nat.reduceLeDiff, Int.reduceLE, Int.reduceLT, ↓reduceIte, Int.reduceBEq, Int.reduceBNe, Int.reduceAdd, Int.reduceSub, Int.reduceMul, qFin_ret, qFin_normal, e1, e2]; (try ((refine okTr_and ?_ ?_); (· rfl)))
  ((refine FinK.fin r126 [] ?_ ?_ ?_ ?_ ?_ ?_); (· decide); (· rfl); (· simp); (· rfl); (· first | with_reducible rfl | (simp [ints_nil, ren_lit, ren_ref, ren_any, ren_agg, ren_tup, ren_sl, ren_fn, tren_none, tren_full, tren_row, oren_cells, oren_row, oren_dead, ixs_z, ixs_1, ixs_2, ixs_3, ren_ints, List.map_cons, List.map_nil]; done) | rfl); (· simp [resAL, resA1, loadA, oneOr, ints_nil, ren_lit, ren_ref, ren_any, ren_agg, ren_tup, ren_sl, ren_fn, tren_none, tren_full, tren_row, oren_cells, oren_row, oren_dead, ixs_z, ixs_1, ixs_2, ixs_3, ren_ints, List.map_cons, List.map_nil]))
theorem index_end (m : Mk) (h0 : 0 ≤ m.pos) (h1 : 0 ≤ m.cnt) (h2 : m.pos + m.cnt < 18446744073709551616) : Ct Try.prog 126 [mkA m] [] (fun _ => uA m.fin) [] (fun _ => []) := (index_end0 m h0 h1 h2).toCt (by intros; simp [ints_nil, ren_lit, ren_ref, ren_any, ren_agg, ren_tup, ren_sl, ren_fn, tren_none, tren_full, tren_row, oren_cells, oren_row, oren_dead, ixs_z, ixs_1, ixs_2, ixs_3, ren_ints, List.map_cons, List.map_nil, ixs, List.range'_succ, ren_ints]) (by intros; simp [ints_nil, ren_lit, ren_ref, ren_any, ren_agg, ren_tup, ren_sl, ren_fn, tren_none, tren_full, tren_row, oren_cells, oren_row, oren_dead, ixs_z, ixs_1, ixs_2, ixs_3, ren_ints, List.map_cons, List.map_nil, ixs, List.range'_succ, ren_ints])
theorem index_fits0 (m : Mk) (pos at_ : Int) (hm : m.ok) : Does Try.prog 141 [mkA m, uA pos, iA at_] [] (bA (decide (m.fits pos at_))) [] := by
  obtain ⟨m1, m2, m3, m4, m5, m6⟩ := hm
  refine Does.run Try.func141 b141 n141 Try.ntmps141 (by simp only [List.cons_append, List.nil_append, List.length_cons, List.length_nil, Nat.zero_add, Nat.reduceAdd, Nat.reduceSub, List.replicate]; rfl) ?_; simp only [c141, go_sem, Nat.reduceAdd, Nat.reduceMul, Int.reduceToNat, Nat.reduceLeDiff, Int.reduceLE, Int.reduceLT, ↓reduceIte, Int.reduceBEq, Int.reduceBNe, Int.reduceAdd, Int.reduceSub, Int.reduceMul, qFin_ret, qFin_normal]; (try ((refine okTr_and ?_ ?_); (· rfl)))
  by_cases c0 : 1 ≤ m.cnt
  case neg =>
    have q0 : decide (1 ≤ m.cnt) = false := by simpa using c0
    have hno : decide (m.fits pos at_) = false := by (rw [decide_eq_false_iff_not]; rintro ⟨f1, f2, f3, f4, f5, f6⟩; first | (simp only [Mk.fin] at *; omega) | omega)
    (simp only [go_sem, Nat.reduceAdd, Nat.reduceMul, Int.reduceToNat, Nat.reduceLeDiff, Int.reduceLE, Int.reduceLT, ↓reduceIte, Int.reduceBEq, Int.reduceBNe, Int.reduceAdd, Int.reduceSub, Int.reduceMul, qFin_ret, qFin_normal, q0]; (try ((refine okTr_and ?_ ?_); (· rfl))))
    ((refine FinK.fin r141 [] ?_ ?_ ?_ ?_ ?_ ?_); (· decide); (· rfl); (· simp); (· rfl); (· first | with_reducible rfl | (simp [ints_nil, ren_lit, ren_ref, ren_any, ren_agg, ren_tup, ren_sl, ren_fn, tren_none, tren_full, tren_row, oren_cells, oren_row, oren_dead, ixs_z, ixs_1, ixs_2, ixs_3, ren_ints, List.map_cons, List.map_nil, hno]; done) | rfl); (· simp [resAL, resA1, loadA, oneOr, ints_nil, ren_lit, ren_ref, ren_any, ren_agg, ren_tup, ren_sl, ren_fn, tren_none, tren_full, tren_row, oren_cells, oren_row, oren_dead, ixs_z, ixs_1, ixs_2, ixs_3, ren_ints, List.map_cons, List.map_nil, hno]))
  have q0 : decide (1 ≤ m.cnt) = true := by simpa using c0
  by_cases c1 : m.cnt ≤ 16
  case neg =>
    have q1 : decide (m.cnt ≤ 16) = false := by simpa using c1
    have hno : decide (m.fits pos at_) = false := by (rw [decide_eq_false_iff_not]; rintro ⟨f1, f2, f3, f4, f5, f6⟩; first | (simp only [Mk.fin] at *; omega) | omega)
    (simp only [go_sem, Nat.reduceAdd, Nat.reduceMul, Int.reduceToNat, Nat.reduceLeDiff, Int.reduceLE, Int.reduceLT, ↓reduceIte, Int.reduceBEq, Int.reduceBNe, Int.reduceAdd, Int.reduceSub, Int.reduceMul, qFin_ret, qFin_normal, q0, q1]; (try ((refine okTr_and ?_ ?_); (· rfl))))
    ((refine FinK.fin r141 [] ?_ ?_ ?_ ?_ ?_ ?_); (· decide); (· rfl); (· simp); (· rfl); (· first | with_reducible rfl | (simp [ints_nil, ren_lit, ren_ref, ren_any, ren_agg, ren_tup, ren_sl, ren_fn, tren_none, tren_full, tren_row, oren_cells, oren_row, oren_dead, ixs_z, ixs_1, ixs_2, ixs_3, ren_ints, List.map_cons, List.map_nil, hno]; done) | rfl); (· simp [resAL, resA1, loadA, oneOr, ints_nil, ren_lit, ren_ref, ren_any, ren_agg, ren_tup, ren_sl, ren_fn, tren_none, tren_full, tren_row, oren_cells, oren_row, oren_dead, ixs_z, ixs_1, ixs_2, ixs_3, ren_ints, List.map_cons, List.map_nil, hno]))
  have q1 : decide (m.cnt ≤ 16) = true := by simpa using c1
  by_cases c2 : pos ≤ m.pos
  case neg =>
    have q2 : decide (pos ≤ m.pos) = false := by simpa using c2
    have hno : decide (m.fits pos at_) = false := by (rw [decide_eq_false_iff_not]; rintro ⟨f1, f2, f3, f4, f5, f6⟩; first | (simp only [Mk.fin] at *; omega) | omega)
    (simp only [go_sem, Nat.reduceAdd, Nat.reduceMul, Int.reduceToNat, Nat.reduceLeDiff, Int.reduceLE, Int.reduceLT, ↓reduceIte, Int.reduceBEq, Int.reduceBNe, Int.reduceAdd, Int.reduceSub, Int.reduceMul, qFin_ret, qFin_normal, q0, q1, q2]; (try ((refine okTr_and ?_ ?_); (· rfl))))
    ((refine FinK.fin r141 [] ?_ ?_ ?_ ?_ ?_ ?_); (· decide); (· rfl); (· simp); (· rfl); (· first | with_reducible rfl | (simp [ints_nil, ren_lit, ren_ref, ren_any, ren_agg, ren_tup, ren_sl, ren_fn, tren_none, tren_full, tren_row, oren_cells, oren_row, oren_dead, ixs_z, ixs_1, ixs_2, ixs_3, ren_ints, List.map_cons, List.map_nil, hno]; done) | rfl); (· simp [resAL, resA1, loadA, oneOr, ints_nil, ren_lit, ren_ref, ren_any, ren_agg, ren_tup, ren_sl, ren_fn, tren_none, tren_full, tren_row, oren_cells, oren_row, oren_dead, ixs_z, ixs_1, ixs_2, ixs_3, ren_ints, List.map_cons, List.map_nil, hno]))
  have q2 : decide (pos ≤ m.pos) = true := by simpa using c2
  by_cases c3 : m.pos < 4611686018427387904
  case neg =>
    have q3 : decide (m.pos < 4611686018427387904) = false := by simpa using c3
    have hno : decide (m.fits pos at_) = false := by (rw [decide_eq_false_iff_not]; rintro ⟨f1, f2, f3, f4, f5, f6⟩; first | (simp only [Mk.fin] at *; omega) | omega)
    (simp only [go_sem, Nat.reduceAdd, Nat.reduceMul, Int.reduceToNat, Nat.reduceLeDiff, Int.reduceLE, Int.reduceLT, ↓reduceIte, Int.reduceBEq, Int.reduceBNe, Int.reduceAdd, Int.reduceSub, Int.reduceMul, qFin_ret, qFin_normal, q0, q1, q2, q3]; (try ((refine okTr_and ?_ ?_); (· rfl))))
    ((refine FinK.fin r141 [] ?_ ?_ ?_ ?_ ?_ ?_); (· decide); (· rfl); (· simp); (· rfl); (· first | with_reducible rfl | (simp [ints_nil, ren_lit, ren_ref, ren_any, ren_agg, ren_tup, ren_sl, ren_fn, tren_none, tren_full, tren_row, oren_cells, oren_row, oren_dead, ixs_z, ixs_1, ixs_2, ixs_3, ren_ints, List.map_cons, List.map_nil, hno]; done) | rfl); (· simp [resAL, resA1, loadA, oneOr, ints_nil, ren_lit, ren_ref, ren_any, ren_agg, ren_tup, ren_sl, ren_fn, tren_none, tren_full, tren_row, oren_cells, oren_row, oren_dead, ixs_z, ixs_1, ixs_2, ixs_3, ren_ints, List.map_cons, List.map_nil, hno]))
  have q3 : decide (m.pos < 4611686018427387904) = true := by simpa using c3
  by_cases c4 : m.fin ≤ 4611686018427387904
  case neg =>
    have q4 : decide (m.fin ≤ 4611686018427387904) = false := by simpa using c4
    have hno : decide (m.fits pos at_) = false := by (rw [decide_eq_false_iff_not]; rintro ⟨f1, f2, f3, f4, f5, f6⟩; first | (simp only [Mk.fin] at *; omega) | omega)
    (simp only [go_sem, Nat.reduceAdd, Nat.reduceMul, Int.reduceToNat, Nat.reduceLeDiff, Int.reduceLE, Int.reduceLT, ↓reduceIte, Int.reduceBEq, Int.reduceBNe, Int.reduceAdd, Int.reduceSub, Int.reduceMul, qFin_ret, qFin_normal, q0, q1, q2, q3]; (try ((refine okTr_and ?_ ?_); (· rfl))))
    refine CallK.p (index_end m m1 (by omega) (by omega)) ?_; (simp only [go_sem, Nat.reduceAdd, Nat.reduceMul, Int.reduceToNat, Nat.reduceLeDiff, Int.reduceLE, Int.reduceLT, ↓reduceIte, Int.reduceBEq, Int.reduceBNe, Int.reduceAdd, Int.reduceSub, Int.reduceMul, qFin_ret, qFin_normal, q4]; (try ((refine okTr_and ?_ ?_); (· rfl))))
    ((refine FinK.fin r141 [] ?_ ?_ ?_ ?_ ?_ ?_); (· decide); (· rfl); (· simp); (· rfl); (· first | with_reducible rfl | (simp [ints_nil, ren_lit, ren_ref, ren_any, ren_agg, ren_tup, ren_sl, ren_fn, tren_none, tren_full, tren_row, oren_cells, oren_row, oren_dead, ixs_z, ixs_1, ixs_2, ixs_3, ren_ints, List.map_cons, List.map_nil, hno]; done) | rfl); (· simp [resAL, resA1, loadA, oneOr, ints_nil, ren_lit, ren_ref, ren_any, ren_agg, ren_tup, ren_sl, ren_fn, tren_none, tren_full, tren_row, oren_cells, oren_row, oren_dead, ixs_z, ixs_1, ixs_2, ixs_3, ren_ints, List.map_cons, List.map_nil, hno]))
  have q4 : decide (m.fin ≤ 4611686018427387904) = true := by simpa using c4
  by_cases c5 : at_ < m.at_
  case neg =>
    have q5 : decide (at_ < m.at_) = false := by simpa using c5
    have hno : decide (m.fits pos at_) = false := by (rw [decide_eq_false_iff_not]; rintro ⟨f1, f2, f3, f4, f5, f6⟩; first | (simp only [Mk.fin] at *; omega) | omega)
    (simp only [go_sem, Nat.reduceAdd, Nat.reduceMul, Int.reduceToNat, Nat.reduceLeDiff, Int.reduceLE, Int.reduceLT, ↓reduceIte, Int.reduceBEq, Int.reduceBNe, Int.reduceAdd, Int.reduceSub, Int.reduceMul, qFin_ret, qFin_normal, q0, q1, q2, q3]; (try ((refine okTr_and ?_ ?_); (· rfl))))
    refine CallK.p (index_end m m1 (by omega) (by omega)) ?_; (simp only [go_sem, Nat.reduceAdd, Nat.reduceMul, Int.reduceToNat, Nat.reduceLeDiff, Int.reduceLE, Int.reduceLT, ↓reduceIte, Int.reduceBEq, Int.reduceBNe, Int.reduceAdd, Int.reduceSub, Int.reduceMul, qFin_ret, qFin_normal, q4, q5]; (try ((refine okTr_and ?_ ?_); (· rfl))))
    ((refine FinK.fin r141 [] ?_ ?_ ?_ ?_ ?_ ?_); (· decide); (· rfl); (· simp); (· rfl); (· first | with_reducible rfl | (simp [ints_nil, ren_lit, ren_ref, ren_any, ren_agg, ren_tup, ren_sl, ren_fn, tren_none, tren_full, tren_row, oren_cells, oren_row, oren_dead, ixs_z, ixs_1, ixs_2, ixs_3, ren_ints, List.map_cons, List.map_nil, hno]; done) | rfl); (· simp [resAL, resA1, loadA, oneOr, ints_nil, ren_lit, ren_ref, ren_any, ren_agg, ren_tup, ren_sl, ren_fn, tren_none, tren_full, tren_row, oren_cells, oren_row, oren_dead, ixs_z, ixs_1, ixs_2, ixs_3, ren_ints, List.map_cons, List.map_nil, hno]))
  have q5 : decide (at_ < m.at_) = true := by simpa using c5
  by_cases c6 : m.at_ ≤ 1099511627775
  case neg =>
    have q6 : decide (m.at_ ≤ 1099511627775) = false := by simpa using c6
    have hno : decide (m.fits pos at_) = false := by (rw [decide_eq_false_iff_not]; rintro ⟨f1, f2, f3, f4, f5, f6⟩; first | (simp only [Mk.fin] at *; omega) | omega)
    (simp only [go_sem, Nat.reduceAdd, Nat.reduceMul, Int.reduceToNat, Nat.reduceLeDiff, Int.reduceLE, Int.reduceLT, ↓reduceIte, Int.reduceBEq, Int.reduceBNe, Int.reduceAdd, Int.reduceSub, Int.reduceMul, qFin_ret, qFin_normal, q0, q1, q2, q3]; (try ((refine okTr_and ?_ ?_); (· rfl))))
    refine CallK.p (index_end m m1 (by omega) (by omega)) ?_; (simp only [go_sem, Nat.reduceAdd, Nat.reduceMul, Int.reduceToNat, Nat.reduceLeDiff, Int.reduceLE, Int.reduceLT, ↓reduceIte, Int.reduceBEq, Int.reduceBNe, Int.reduceAdd, Int.reduceSub, Int.reduceMul, qFin_ret, qFin_normal, q4, q5, q6]; (try ((refine okTr_and ?_ ?_); (· rfl))))
    ((refine FinK.fin r141 [] ?_ ?_ ?_ ?_ ?_ ?_); (· decide); (· rfl); (· simp); (· rfl); (· first | with_reducible rfl | (simp [ints_nil, ren_lit, ren_ref, ren_any, ren_agg, ren_tup, ren_sl, ren_fn, tren_none, tren_full, tren_row, oren_cells, oren_row, oren_dead, ixs_z, ixs_1, ixs_2, ixs_3, ren_ints, List.map_cons, List.map_nil, hno]; done) | rfl); (· simp [resAL, resA1, loadA, oneOr, ints_nil, ren_lit, ren_ref, ren_any, ren_agg, ren_tup, ren_sl, ren_fn, tren_none, tren_full, tren_row, oren_cells, oren_row, oren_dead, ixs_z, ixs_1, ixs_2, ixs_3, ren_ints, List.map_cons, List.map_nil, hno]))
  have q6 : decide (m.at_ ≤ 1099511627775) = true := by simpa using c6
  have hyes : decide (m.fits pos at_) = true := by rw [decide_eq_true_eq]; simp only [Mk.fin] at *; exact ⟨by omega, by omega, by omega, by omega, by omega, by omega⟩
  (simp only [go_sem, Nat.reduceAdd, Nat.reduceMul, Int.reduceToNat, Nat.reduceLeDiff, Int.reduceLE, Int.reduceLT, ↓reduceIte, Int.reduceBEq, Int.reduceBNe, Int.reduceAdd, Int.reduceSub, Int.reduceMul, qFin_ret, qFin_normal, q0, q1, q2, q3]; (try ((refine okTr_and ?_ ?_); (· rfl))))
  refine CallK.p (index_end m m1 (by omega) (by omega)) ?_; (simp only [go_sem, Nat.reduceAdd, Nat.reduceMul, Int.reduceToNat, Nat.reduceLeDiff, Int.reduceLE, Int.reduceLT, ↓reduceIte, Int.reduceBEq, Int.reduceBNe, Int.reduceAdd, Int.reduceSub, Int.reduceMul, qFin_ret, qFin_normal, q4, q5, q6]; (try ((refine okTr_and ?_ ?_); (· rfl))))
  ((refine FinK.fin r141 [] ?_ ?_ ?_ ?_ ?_ ?_); (· decide); (· rfl); (· simp); (· rfl); (· first | with_reducible rfl | (simp [ints_nil, ren_lit, ren_ref, ren_any, ren_agg, ren_tup, ren_sl, ren_fn, tren_none, tren_full, tren_row, oren_cells, oren_row, oren_dead, ixs_z, ixs_1, ixs_2, ixs_3, ren_ints, List.map_cons, List.map_nil, hyes]; done) | rfl); (· simp [resAL, resA1, loadA, oneOr, ints_nil, ren_lit, ren_ref, ren_any, ren_agg, ren_tup, ren_sl, ren_fn, tren_none, tren_full, tren_row, oren_cells, oren_row, oren_dead, ixs_z, ixs_1, ixs_2, ixs_3, ren_ints, List.map_cons, List.map_nil, hyes]))
theorem index_fits (m : Mk) (pos at_ : Int) (hm : m.ok) : Ct Try.prog 141 [mkA m, uA pos, iA at_] [] (fun _ => bA (decide (m.fits pos at_))) [] (fun _ => []) := (index_fits0 m pos at_ hm).toCt (by intros; simp [ints_nil, ren_lit, ren_ref, ren_any, ren_agg, ren_tup, ren_sl, ren_fn, tren_none, tren_full, tren_row, oren_cells, oren_row, oren_dead, ixs_z, ixs_1, ixs_2, ixs_3, ren_ints, List.map_cons, List.map_nil, ixs, List.range'_succ, ren_ints]) (by intros; simp [ints_nil, ren_lit, ren_ref, ren_any, ren_agg, ren_tup, ren_sl, ren_fn, tren_none, tren_full, tren_row, oren_cells, oren_row, oren_dead, ixs_z, ixs_1, ixs_2, ixs_3, ren_ints, List.map_cons, List.map_nil, ixs, List.range'_succ, ren_ints])
theorem fits_ok {m : Mk} {pos at_ : Int} (h : m.fits pos at_) (h0 : 0 ≤ pos) : 0 ≤ m.pos ∧ 1 ≤ m.cnt ∧ m.cnt ≤ 16 ∧ m.pos + m.cnt ≤ 4611686018427387904 := by
  obtain ⟨a, b, c, d, e, f⟩ := h; omega
theorem index_Right0 (l : List Mk) (hl : Mks l) (hn : l.length ≤ 140737488355328) : Does Try.prog 120 [slM l] [] (bA (rightM l)) [] := by
  refine Does.run Try.func120 b120 n120 Try.ntmps120 (by simp only [List.cons_append, List.nil_append, List.length_cons, List.length_nil, Nat.zero_add, Nat.reduceAdd, Nat.reduceSub, List.replicate]; rfl) ?_; simp only [c120, go_sem, Nat.reduceAdd, Nat.reduceMul, Int.reduceToNat, Nat.reduceLeDiff, Int.reduceLE, Int.reduceLT, ↓reduceIte, Int.reduceBEq, Int.reduceBNe, Int.reduceAdd, Int.reduceSub, Int.reduceMul, qFin_ret, qFin_normal, mks_length]; (try ((refine okTr_and ?_ ?_); (· rfl)))
  refine loop_of (α := Nat) (fun k => [slM l, .any, .any, uA (lastM (l.take k)).fin, iA (lastM (l.take k)).at_, .any, .any, slM l, iA l.length, iA k, .any, .any, .any, .any, .any, .any, .any, .any, .any, .any, .any, .any, .any, .any, .any, .any]) (fun _ => []) (fun k => k ≤ l.length ∧ Wf markNx [] (l.take k)) (fun k => l.length - k) 0 ⟨by simp, trivial⟩ (Wk.to (by simp) (by simp [leT, lastM, mk0, Mk.fin])) ?_
  rintro k ⟨hk, hw⟩
  have hlast := mark_last hw
  (simp only [go_sem, Nat.reduceAdd, Nat.reduceMul, Int.reduceToNat, Nat.reduceLeDiff, Int.reduceLE, Int.reduceLT, ↓reduceIte, Int.reduceBEq, Int.reduceBNe, Int.reduceAdd, Int.reduceSub, Int.reduceMul, qFin_ret, qFin_normal]; (try ((refine okTr_and ?_ ?_); (· rfl))))
  refine cdK_split (fun h => ?_) (fun h => ?_)
  · have hlt : k < l.length := by simpa using h
    have g := mks_get l k hlt
    have hx := hl _ (mk_mem l k hlt)
    have ei := i64_succ k (by omega)
    obtain ⟨x, hxe⟩ : ∃ x, l.getD k mk0 = x := ⟨_, rfl⟩
    have ht := mk_take l k hlt
    rw [hxe] at g hx ht
    (simp only [go_sem, Nat.reduceAdd, Nat.reduceMul, Int.reduceToNat, Nat.reduceLeDiff, Int.reduceLE, Int.reduceLT, ↓reduceIte, Int.reduceBEq, Int.reduceBNe, Int.reduceAdd, Int.reduceSub, Int.reduceMul, qFin_ret, qFin_normal, g, mks_length]; (try ((refine okTr_and ?_ ?_); (· rfl))))
    (repeat ((with_reducible refine And.intro ?_ ?_); (· first | with_reducible assumption | omega | with_reducible rfl | (simp only [List.length_append, List.length_cons, List.length_nil, List.length_singleton]; omega) | (simp [ints_length, okEl_eq, AV.parts]; done) | (simp [ints_length, okEl_eq, AV.parts]; omega) | rfl)))
    refine CallK.p (index_fits x _ _ hx) ?_
    by_cases hf : x.fits (lastM (l.take k)).fin (lastM (l.take k)).at_
    · have q : decide (x.fits (lastM (l.take k)).fin (lastM (l.take k)).at_) = true := by simpa using hf
      obtain ⟨f1, f2, f3, f4⟩ := fits_ok hf hlast.1
      (simp only [go_sem, Nat.reduceAdd, Nat.reduceMul, Int.reduceToNat, Nat.reduceLeDiff, Int.reduceLE, Int.reduceLT, ↓reduceIte, Int.reduceBEq, Int.reduceBNe, Int.reduceAdd, Int.reduceSub, Int.reduceMul, qFin_ret, qFin_normal, q]; (try ((refine okTr_and ?_ ?_); (· rfl))))
      refine CallK.p (index_end x f1 (by omega) (by omega)) ?_; (simp only [go_sem, Nat.reduceAdd, Nat.reduceMul, Int.reduceToNat, Nat.reduceLeDiff, Int.reduceLE, Int.reduceLT, ↓reduceIte, Int.reduceBEq, Int.reduceBNe, Int.reduceAdd, Int.reduceSub, Int.reduceMul, qFin_ret, qFin_normal, ei]; (try ((refine okTr_and ?_ ?_); (· rfl))))
      refine ⟨k + 1, ⟨hlt, ?_⟩, by omega, Wk.sel [] (by simp) rfl (by simp) rfl (by simp) ?_⟩
      · rw [ht]; exact wf_snoc.2 ⟨hw, (show markNx ([] ++ List.take k l) x from hf)⟩
      · rw [ht]; simp [selT, ints_nil, ren_lit, ren_ref, ren_any, ren_agg, ren_tup, ren_sl, ren_fn, tren_none, tren_full, tren_row, oren_cells, oren_row, oren_dead, ixs_z, ixs_1, ixs_2, ixs_3, ren_ints, List.map_cons, List.map_nil, lastM_snoc]
    · have q : decide (x.fits (lastM (l.take k)).fin (lastM (l.take k)).at_) = false := by simpa using hf
      have hno : rightM l = false := right_not hlt (by rw [hxe]; exact hf)
      (simp only [go_sem, Nat.reduceAdd, Nat.reduceMul, Int.reduceToNat, Nat.reduceLeDiff, Int.reduceLE, Int.reduceLT, ↓reduceIte, Int.reduceBEq, Int.reduceBNe, Int.reduceAdd, Int.reduceSub, Int.reduceMul, qFin_ret, qFin_normal, q]; (try ((refine okTr_and ?_ ?_); (· rfl))))
      ((refine FinK.fin r120 [] ?_ ?_ ?_ ?_ ?_ ?_); (· decide); (· rfl); (· simp); (· rfl); (· first | with_reducible rfl | (simp [ints_nil, ren_lit, ren_ref, ren_any, ren_agg, ren_tup, ren_sl, ren_fn, tren_none, tren_full, tren_row, oren_cells, oren_row, oren_dead, ixs_z, ixs_1, ixs_2, ixs_3, ren_ints, List.map_cons, List.map_nil, hno]; done) | rfl); (· simp [resAL, resA1, loadA, oneOr, ints_nil, ren_lit, ren_ref, ren_any, ren_agg, ren_tup, ren_sl, ren_fn, tren_none, tren_full, tren_row, oren_cells, oren_row, oren_dead, ixs_z, ixs_1, ixs_2, ixs_3, ren_ints, List.map_cons, List.map_nil, hno]))
  · have ek : k = l.length := by simp at h; omega
    subst ek
    rw [List.take_length] at hw
    have hr : rightM l = decide ((l.length : Int) ≤ 16) := by
      rw [Bool.eq_iff_iff, rightM_wf, decide_eq_true_eq]
      exact ⟨fun h => by have := h.2; omega, fun h => ⟨hw, by omega⟩⟩
    (simp only [go_sem, Nat.reduceAdd, Nat.reduceMul, Int.reduceToNat, Nat.reduceLeDiff, Int.reduceLE, Int.reduceLT, ↓reduceIte, Int.reduceBEq, Int.reduceBNe, Int.reduceAdd, Int.reduceSub, Int.reduceMul, qFin_ret, qFin_normal, mks_length]; (try ((refine okTr_and ?_ ?_); (· rfl))))
    ((refine FinK.fin r120 [] ?_ ?_ ?_ ?_ ?_ ?_); (· decide); (· rfl); (· simp); (· rfl); (· first | with_reducible rfl | (simp [ints_nil, ren_lit, ren_ref, ren_any, ren_agg, ren_tup, ren_sl, ren_fn, tren_none, tren_full, tren_row, oren_cells, oren_row, oren_dead, ixs_z, ixs_1, ixs_2, ixs_3, ren_ints, List.map_cons, List.map_nil, hr]; done) | rfl); (· simp [resAL, resA1, loadA, oneOr, ints_nil, ren_lit, ren_ref, ren_any, ren_agg, ren_tup, ren_sl, ren_fn, tren_none, tren_full, tren_row, oren_cells, oren_row, oren_dead, ixs_z, ixs_1, ixs_2, ixs_3, ren_ints, List.map_cons, List.map_nil, hr]))
theorem index_Right (l : List Mk) (hl : Mks l) (hn : l.length ≤ 140737488355328) : Ct Try.prog 120 [slM l] [] (fun _ => bA (rightM l)) [] (fun _ => []) := (index_Right0 l hl hn).toCt (by intros; simp [ints_nil, ren_lit, ren_ref, ren_any, ren_agg, ren_tup, ren_sl, ren_fn, tren_none, tren_full, tren_row, oren_cells, oren_row, oren_dead, ixs_z, ixs_1, ixs_2, ixs_3, ren_ints, List.map_cons, List.map_nil, ixs, List.range'_succ, ren_ints]) (by intros; simp [ints_nil, ren_lit, ren_ref, ren_any, ren_agg, ren_tup, ren_sl, ren_fn, tren_none, tren_full, tren_row, oren_cells, oren_row, oren_dead, ixs_z, ixs_1, ixs_2, ixs_3, ren_ints, List.map_cons, List.map_nil, ixs, List.range'_succ, ren_ints])
/-- Are marks the same? -/
def sameM (l m : List Mk) : Bool := decide (l = m)
theorem sameM_self (l : List Mk) : sameM l l = true := by simp [sameM]
theorem mk_eq (x y : Mk) : ((x.pos == y.pos) && ((x.cnt == y.cnt) && (x.at_ == y.at_))) = decide (x = y) := by
  rw [Bool.eq_iff_iff]
  cases x; cases y
  simp
end Go.Proofs.Ytgphhganepjaiaa
end
section
namespace Go.Proofs.Ytgphhganepjaiaa
open Go.RowKit

theorem slices_EqualM0 (a b : List Mk) (ha : a.length ≤ 140737488355328) : Does Try.prog 142 [slM a, slM b] [] (bA (sameM a b)) [] := by
  refine Does.run Try.func142 b142 n142 Try.ntmps142 (by simp only [List.cons_append, List.nil_append, List.length_cons, List.length_nil, Nat.zero_add, Nat.reduceAdd, Nat.reduceSub, List.replicate]; rfl) ?_; simp only [c142, go_sem, Nat.reduceAdd, Nat.reduceMul, Int.reduceToNat, Nat.reduceLeDiff, Int.reduceLE, Int.reduceLT, ↓reduceIte, Int.reduceBEq, Int.reduceBNe, Int.reduceAdd, Int.reduceSub, Int.reduceMul, qFin_ret, qFin_normal, mks_length]; (try ((refine okTr_and ?_ ?_); (· rfl)))
  refine cdK_split (fun h => ?_) (fun h => ?_)
  · have hne : sameM a b = false := by unfold sameM; simp at h ⊢; intro e; subst e; exact h rfl
    (simp only [go_sem, Nat.reduceAdd, Nat.reduceMul, Int.reduceToNat, Nat.reduceLeDiff, Int.reduceLE, Int.reduceLT, ↓reduceIte, Int.reduceBEq, Int.reduceBNe, Int.reduceAdd, Int.reduceSub, Int.reduceMul, qFin_ret, qFin_normal]; (try ((refine okTr_and ?_ ?_); (· rfl))))
    ((refine FinK.fin r142 [] ?_ ?_ ?_ ?_ ?_ ?_); (· decide); (· rfl); (· simp); (· rfl); (· first | with_reducible rfl | (simp [ints_nil, ren_lit, ren_ref, ren_any, ren_agg, ren_tup, ren_sl, ren_fn, tren_none, tren_full, tren_row, oren_cells, oren_row, oren_dead, ixs_z, ixs_1, ixs_2, ixs_3, ren_ints, List.map_cons, List.map_nil, hne]; done) | rfl); (· simp [resAL, resA1, loadA, oneOr, ints_nil, ren_lit, ren_ref, ren_any, ren_agg, ren_tup, ren_sl, ren_fn, tren_none, tren_full, tren_row, oren_cells, oren_row, oren_dead, ixs_z, ixs_1, ixs_2, ixs_3, ren_ints, List.map_cons, List.map_nil, hne]))
  · have hlen : a.length = b.length := by have h' : (a.length : Int) = b.length := by simpa using h
                                          omega
    (simp only [go_sem, Nat.reduceAdd, Nat.reduceMul, Int.reduceToNat, Nat.reduceLeDiff, Int.reduceLE, Int.reduceLT, ↓reduceIte, Int.reduceBEq, Int.reduceBNe, Int.reduceAdd, Int.reduceSub, Int.reduceMul, qFin_ret, qFin_normal, mks_length]; (try ((refine okTr_and ?_ ?_); (· rfl))))
    refine loop_of (α := Nat) (fun k => [slM a, slM b, .any, .any, .any, .any, .any, .any, .any, .any, .any, .any, iA a.length, iA k, .any, .any, .any, .any, .any, .any, .any, .any, .any, .any, .any, .any]) (fun _ => []) (fun k => k ≤ a.length ∧ a.take k = b.take k) (fun k => a.length - k) 0 ⟨by simp, by simp⟩ (Wk.to (by simp) (by simp [leT])) ?_
    rintro k ⟨hk, ht⟩
    (simp only [go_sem, Nat.reduceAdd, Nat.reduceMul, Int.reduceToNat, Nat.reduceLeDiff, Int.reduceLE, Int.reduceLT, ↓reduceIte, Int.reduceBEq, Int.reduceBNe, Int.reduceAdd, Int.reduceSub, Int.reduceMul, qFin_ret, qFin_normal]; (try ((refine okTr_and ?_ ?_); (· rfl))))
    refine cdK_split (fun h => ?_) (fun h => ?_)
    · have hlt : k < a.length := by simpa using h
      have g1 := mks_get a k hlt
      have g2 := mks_get b k (by omega)
      have ei := i64_succ k (by omega)
      obtain ⟨x, hx⟩ : ∃ x, a.getD k mk0 = x := ⟨_, rfl⟩
      obtain ⟨y, hy⟩ : ∃ y, b.getD k mk0 = y := ⟨_, rfl⟩
      rw [hx] at g1; rw [hy] at g2
      (simp only [go_sem, Nat.reduceAdd, Nat.reduceMul, Int.reduceToNat, Nat.reduceLeDiff, Int.reduceLE, Int.reduceLT, ↓reduceIte, Int.reduceBEq, Int.reduceBNe, Int.reduceAdd, Int.reduceSub, Int.reduceMul, qFin_ret, qFin_normal, g1, g2, mks_length]; (try ((refine okTr_and ?_ ?_); (· rfl))))
      (repeat ((with_reducible refine And.intro ?_ ?_); (· first | with_reducible assumption | omega | with_reducible rfl | (simp only [List.length_append, List.length_cons, List.length_nil, List.length_singleton]; omega) | (simp [ints_length, okEl_eq, AV.parts]; done) | (simp [ints_length, okEl_eq, AV.parts]; omega) | rfl)))
      by_cases he : x = y
      · have q : decide (x = y) = true := by simpa using he
        (simp only [go_sem, Nat.reduceAdd, Nat.reduceMul, Int.reduceToNat, Nat.reduceLeDiff, Int.reduceLE, Int.reduceLT, ↓reduceIte, Int.reduceBEq, Int.reduceBNe, Int.reduceAdd, Int.reduceSub, Int.reduceMul, qFin_ret, qFin_normal, mk_eq, q, ei]; (try ((refine okTr_and ?_ ?_); (· rfl))))
        refine ⟨k + 1, ⟨hlt, ?_⟩, by omega, Wk.to (by simp) (by simp [leT])⟩
        rw [mk_take a k hlt, mk_take b k (by omega), ht, hx, hy, he]
      · have q : decide (x = y) = false := by simpa using he
        have hne : sameM a b = false := by unfold sameM; simp only [decide_eq_false_iff_not]; rintro rfl; exact he (hx.symm.trans hy)
        (simp only [go_sem, Nat.reduceAdd, Nat.reduceMul, Int.reduceToNat, Nat.reduceLeDiff, Int.reduceLE, Int.reduceLT, ↓reduceIte, Int.reduceBEq, Int.reduceBNe, Int.reduceAdd, Int.reduceSub, Int.reduceMul, qFin_ret, qFin_normal, mk_eq, q]; (try ((refine okTr_and ?_ ?_); (· rfl))))
        ((refine FinK.fin r142 [] ?_ ?_ ?_ ?_ ?_ ?_); (· decide); (· rfl); (· simp); (· rfl); (· first | with_reducible rfl | (simp [ints_nil, ren_lit, ren_ref, ren_any, ren_agg, ren_tup, ren_sl, ren_fn, tren_none, tren_full, tren_row, oren_cells, oren_row, oren_dead, ixs_z, ixs_1, ixs_2, ixs_3, ren_ints, List.map_cons, List.map_nil, hne]; done) | rfl); (· simp [resAL, resA1, loadA, oneOr, ints_nil, ren_lit, ren_ref, ren_any, ren_agg, ren_tup, ren_sl, ren_fn, tren_none, tren_full, tren_row, oren_cells, oren_row, oren_dead, ixs_z, ixs_1, ixs_2, ixs_3, ren_ints, List.map_cons, List.map_nil, hne]))
    · have hk' : k = a.length := by simp at h; omega
      have he : sameM a b = true := by
        unfold sameM
        rw [hk', List.take_length, List.take_of_length_le (by omega)] at ht
        simpa using ht
      (simp only [go_sem, Nat.reduceAdd, Nat.reduceMul, Int.reduceToNat, Nat.reduceLeDiff, Int.reduceLE, Int.reduceLT, ↓reduceIte, Int.reduceBEq, Int.reduceBNe, Int.reduceAdd, Int.reduceSub, Int.reduceMul, qFin_ret, qFin_normal]; (try ((refine okTr_and ?_ ?_); (· rfl))))
      ((refine FinK.fin r142 [] ?_ ?_ ?_ ?_ ?_ ?_); (· decide); (· rfl); (· simp); (· rfl); (· first | with_reducible rfl | (simp [ints_nil, ren_lit, ren_ref, ren_any, ren_agg, ren_tup, ren_sl, ren_fn, tren_none, tren_full, tren_row, oren_cells, oren_row, oren_dead, ixs_z, ixs_1, ixs_2, ixs_3, ren_ints, List.map_cons, List.map_nil, he]; done) | rfl); (· simp [resAL, resA1, loadA, oneOr, ints_nil, ren_lit, ren_ref, ren_any, ren_agg, ren_tup, ren_sl, ren_fn, tren_none, tren_full, tren_row, oren_cells, oren_row, oren_dead, ixs_z, ixs_1, ixs_2, ixs_3, ren_ints, List.map_cons, List.map_nil, he]))
theorem slices_EqualM (a b : List Mk) (ha : a.length ≤ 140737488355328) : Ct Try.prog 142 [slM a, slM b] [] (fun _ => bA (sameM a b)) [] (fun _ => []) := (slices_EqualM0 a b ha).toCt (by intros; simp [ints_nil, ren_lit, ren_ref, ren_any, ren_agg, ren_tup, ren_sl, ren_fn, tren_none, tren_full, tren_row, oren_cells, oren_row, oren_dead, ixs_z, ixs_1, ixs_2, ixs_3, ren_ints, List.map_cons, List.map_nil, ixs, List.range'_succ, ren_ints]) (by intros; simp [ints_nil, ren_lit, ren_ref, ren_any, ren_agg, ren_tup, ren_sl, ren_fn, tren_none, tren_full, tren_row, oren_cells, oren_row, oren_dead, ixs_z, ixs_1, ixs_2, ixs_3, ren_ints, List.map_cons, List.map_nil, ixs, List.range'_succ, ren_ints])
theorem index_Same0 (a b : List Mk) (ha : a.length ≤ 140737488355328) : Does Try.prog 121 [slM a, slM b] [] (bA (sameM a b)) [] := by
  refine Does.run Try.func121 b121 n121 Try.ntmps121 (by simp only [List.cons_append, List.nil_append, List.length_cons, List.length_nil, Nat.zero_add, Nat.reduceAdd, Nat.reduceSub, List.replicate]; rfl) ?_; simp only [c121, go_sem, Nat.reduceAdd, Nat.reduceMul, Int.reduceToNat, Nat.reduceLeDiff, Int.reduceLE, Int.reduceLT, ↓reduceIte, Int.reduceBEq, Int.reduceBNe, Int.reduceAdd, Int.reduceSub, Int.reduceMul, qFin_ret, qFin_normal]; (try ((refine okTr_and ?_ ?_); (· rfl)))
  refine CallK.p (slices_EqualM a b ha) ?_; (simp only [go_sem, Nat.reduceAdd, Nat.reduceMul, Int.reduceToNat, Nat.reduceLeDiff, Int.reduceLE, Int.reduceLT, ↓reduceIte, Int.reduceBEq, Int.reduceBNe, Int.reduceAdd, Int.reduceSub, Int.reduceMul, qFin_ret, qFin_normal]; (try ((refine okTr_and ?_ ?_); (· rfl))))
  ((refine FinK.fin r121 [] ?_ ?_ ?_ ?_ ?_ ?_); (· decide); (· rfl); (· simp); (· rfl); (· first | with_reducible rfl | (simp [ints_nil, ren_lit, ren_ref, ren_any, ren_agg, ren_tup, ren_sl, ren_fn, tren_none, tren_full, tren_row, oren_cells, oren_row, oren_dead, ixs_z, ixs_1, ixs_2, ixs_3, ren_ints, List.map_cons, List.map_nil]; done) | rfl); (· simp [resAL, resA1, loadA, oneOr, ints_nil, ren_lit, ren_ref, ren_any, ren_agg, ren_tup, ren_sl, ren_fn, tren_none, tren_full, tren_row, oren_cells, oren_row, oren_dead, ixs_z, ixs_1, ixs_2, ixs_3, ren_ints, List.map_cons, List.map_nil]))
theorem index_Same (a b : List Mk) (ha : a.length ≤ 140737488355328) : Ct Try.prog 121 [slM a, slM b] [] (fun _ => bA (sameM a b)) [] (fun _ => []) := (index_Same0 a b ha).toCt (by intros; simp [ints_nil, ren_lit, ren_ref, ren_any, ren_agg, ren_tup, ren_sl, ren_fn, tren_none, tren_full, tren_row, oren_cells, oren_row, oren_dead, ixs_z, ixs_1, ixs_2, ixs_3, ren_ints, List.map_cons, List.map_nil, ixs, List.range'_succ, ren_ints]) (by intros; simp [ints_nil, ren_lit, ren_ref, ren_any, ren_agg, ren_tup, ren_sl, ren_fn, tren_none, tren_full, tren_row, oren_cells, oren_row, oren_dead, ixs_z, ixs_1, ixs_2, ixs_3, ren_ints, List.map_cons, List.map_nil, ixs, List.range'_succ, ren_ints])
theorem ref32_Same0 (a b : List Mk) (ha : a.length ≤ 140737488355328) : Does Try.prog 116 [slM a, slM b] [] (bA (sameM a b)) [] := by
  refine Does.run Try.func116 b116 n116 Try.ntmps116 (by simp only [List.cons_append, List.nil_append, List.length_cons, List.length_nil, Nat.zero_add, Nat.reduceAdd, Nat.reduceSub, List.replicate]; rfl) ?_; simp only [c116, go_sem, Nat.reduceAdd, Nat.reduceMul, Int.reduceToNat, Nat.reduceLeDiff, Int.reduceLE, Int.reduceLT, ↓reduceIte, Int.reduceBEq, Int.reduceBNe, Int.reduceAdd, Int.reduceSub, Int.reduceMul, qFin_ret, qFin_normal, mks_length]; (try ((refine okTr_and ?_ ?_); (· rfl)))
  refine cdK_split (fun h => ?_) (fun h => ?_)
  · have hne : sameM a b = false := by unfold sameM; simp at h ⊢; intro e; subst e; exact h rfl
    (simp only [go_sem, Nat.reduceAdd, Nat.reduceMul, Int.reduceToNat, Nat.reduceLeDiff, Int.reduceLE, Int.reduceLT, ↓reduceIte, Int.reduceBEq, Int.reduceBNe, Int.reduceAdd, Int.reduceSub, Int.reduceMul, qFin_ret, qFin_normal]; (try ((refine okTr_and ?_ ?_); (· rfl))))
    ((refine FinK.fin r116 [] ?_ ?_ ?_ ?_ ?_ ?_); (· decide); (· rfl); (· simp); (· rfl); (· first | with_reducible rfl | (simp [ints_nil, ren_lit, ren_ref, ren_any, ren_agg, ren_tup, ren_sl, ren_fn, tren_none, tren_full, tren_row, oren_cells, oren_row, oren_dead, ixs_z, ixs_1, ixs_2, ixs_3, ren_ints, List.map_cons, List.map_nil, hne]; done) | rfl); (· simp [resAL, resA1, loadA, oneOr, ints_nil, ren_lit, ren_ref, ren_any, ren_agg, ren_tup, ren_sl, ren_fn, tren_none, tren_full, tren_row, oren_cells, oren_row, oren_dead, ixs_z, ixs_1, ixs_2, ixs_3, ren_ints, List.map_cons, List.map_nil, hne]))
  · have h' : (a.length : Int) = b.length := by simpa using h
    (simp only [go_sem, Nat.reduceAdd, Nat.reduceMul, Int.reduceToNat, Nat.reduceLeDiff, Int.reduceLE, Int.reduceLT, ↓reduceIte, Int.reduceBEq, Int.reduceBNe, Int.reduceAdd, Int.reduceSub, Int.reduceMul, qFin_ret, qFin_normal, mks_length]; (try ((refine okTr_and ?_ ?_); (· rfl))))
    refine loop_of (α := Nat) (fun k => [slM a, slM b, .any, .any, .any, iA k, .any, .any, .any, .any, .any, .any, .any, .any, .any, .any, .any, .any, .any, .any, .any, .any, .any, .any, .any, .any]) (fun _ => []) (fun k => k ≤ a.length ∧ a.take k = b.take k) (fun k => a.length - k) 0 ⟨by simp, by simp⟩ (Wk.to (by simp) (by simp [leT])) ?_
    rintro k ⟨hk, ht⟩
    (simp only [go_sem, Nat.reduceAdd, Nat.reduceMul, Int.reduceToNat, Nat.reduceLeDiff, Int.reduceLE, Int.reduceLT, ↓reduceIte, Int.reduceBEq, Int.reduceBNe, Int.reduceAdd, Int.reduceSub, Int.reduceMul, qFin_ret, qFin_normal, mks_length]; (try ((refine okTr_and ?_ ?_); (· rfl))))
    refine cdK_split (fun h => ?_) (fun h => ?_)
    · have hlt : k < a.length := by simpa using h
      have g1 := mks_get a k hlt
      have g2 := mks_get b k (by omega)
      have ei := i64_succ k (by omega)
      obtain ⟨x, hx⟩ : ∃ x, a.getD k mk0 = x := ⟨_, rfl⟩
      obtain ⟨y, hy⟩ : ∃ y, b.getD k mk0 = y := ⟨_, rfl⟩
      rw [hx] at g1; rw [hy] at g2
      (simp only [go_sem, Nat.reduceAdd, Nat.reduceMul, Int.reduceToNat, Nat.reduceLeDiff, Int.reduceLE, Int.reduceLT, ↓reduceIte, Int.reduceBEq, Int.reduceBNe, Int.reduceAdd, Int.reduceSub, Int.reduceMul, qFin_ret, qFin_normal, g1, g2, mks_length]; (try ((refine okTr_and ?_ ?_); (· rfl))))
      (repeat ((with_reducible refine And.intro ?_ ?_); (· first | with_reducible assumption | omega | with_reducible rfl | (simp only [List.length_append, List.length_cons, List.length_nil, List.length_singleton]; omega) | (simp [ints_length, okEl_eq, AV.parts]; done) | (simp [ints_length, okEl_eq, AV.parts]; omega) | rfl)))
      by_cases he : x = y
      · have q : decide (x = y) = true := by simpa using he
        (simp only [go_sem, Nat.reduceAdd, Nat.reduceMul, Int.reduceToNat, Nat.reduceLeDiff, Int.reduceLE, Int.reduceLT, ↓reduceIte, Int.reduceBEq, Int.reduceBNe, Int.reduceAdd, Int.reduceSub, Int.reduceMul, qFin_ret, qFin_normal, mk_eq, q, ei]; (try ((refine okTr_and ?_ ?_); (· rfl))))
        refine ⟨k + 1, ⟨hlt, ?_⟩, by omega, Wk.to (by simp) (by simp [leT])⟩
        rw [mk_take a k hlt, mk_take b k (by omega), ht, hx, hy, he]
      · have q : decide (x = y) = false := by simpa using he
        have hne : sameM a b = false := by unfold sameM; simp only [decide_eq_false_iff_not]; rintro rfl; exact he (hx.symm.trans hy)
        (simp only [go_sem, Nat.reduceAdd, Nat.reduceMul, Int.reduceToNat, Nat.reduceLeDiff, Int.reduceLE, Int.reduceLT, ↓reduceIte, Int.reduceBEq, Int.reduceBNe, Int.reduceAdd, Int.reduceSub, Int.reduceMul, qFin_ret, qFin_normal, mk_eq, q]; (try ((refine okTr_and ?_ ?_); (· rfl))))
        ((refine FinK.fin r116 [] ?_ ?_ ?_ ?_ ?_ ?_); (· decide); (· rfl); (· simp); (· rfl); (· first | with_reducible rfl | (simp [ints_nil, ren_lit, ren_ref, ren_any, ren_agg, ren_tup, ren_sl, ren_fn, tren_none, tren_full, tren_row, oren_cells, oren_row, oren_dead, ixs_z, ixs_1, ixs_2, ixs_3, ren_ints, List.map_cons, List.map_nil, hne]; done) | rfl); (· simp [resAL, resA1, loadA, oneOr, ints_nil, ren_lit, ren_ref, ren_any, ren_agg, ren_tup, ren_sl, ren_fn, tren_none, tren_full, tren_row, oren_cells, oren_row, oren_dead, ixs_z, ixs_1, ixs_2, ixs_3, ren_ints, List.map_cons, List.map_nil, hne]))
    · have hk' : k = a.length := by simp at h; omega
      have he : sameM a b = true := by
        unfold sameM
        rw [hk', List.take_length, List.take_of_length_le (by omega)] at ht
        simpa using ht
      (simp only [go_sem, Nat.reduceAdd, Nat.reduceMul, Int.reduceToNat, Nat.reduceLeDiff, Int.reduceLE, Int.reduceLT, ↓reduceIte, Int.reduceBEq, Int.reduceBNe, Int.reduceAdd, Int.reduceSub, Int.reduceMul, qFin_ret, qFin_normal]; (try ((refine okTr_and ?_ ?_); (· rfl))))
      ((refine FinK.fin r116 [] ?_ ?_ ?_ ?_ ?_ ?_); (· decide); (· rfl); (· simp); (· rfl); (· first | with_reducible rfl | (simp [ints_nil, ren_lit, ren_ref, ren_any, ren_agg, ren_tup, ren_sl, ren_fn, tren_none, tren_full, tren_row, oren_cells, oren_row, oren_dead, ixs_z, ixs_1, ixs_2, ixs_3, ren_ints, List.map_cons, List.map_nil, he]; done) | rfl); (· simp [resAL, resA1, loadA, oneOr, ints_nil, ren_lit, ren_ref, ren_any, ren_agg, ren_tup, ren_sl, ren_fn, tren_none, tren_full, tren_row, oren_cells, oren_row, oren_dead, ixs_z, ixs_1, ixs_2, ixs_3, ren_ints, List.map_cons, List.map_nil, he]))
theorem ref32_Same (a b : List Mk) (ha : a.length ≤ 140737488355328) : Ct Try.prog 116 [slM a, slM b] [] (fun _ => bA (sameM a b)) [] (fun _ => []) := (ref32_Same0 a b ha).toCt (by intros; simp [ints_nil, ren_lit, ren_ref, ren_any, ren_agg, ren_tup, ren_sl, ren_fn, tren_none, tren_full, tren_row, oren_cells, oren_row, oren_dead, ixs_z, ixs_1, ixs_2, ixs_3, ren_ints, List.map_cons, List.map_nil, ixs, List.range'_succ, ren_ints]) (by intros; simp [ints_nil, ren_lit, ren_ref, ren_any, ren_agg, ren_tup, ren_sl, ren_fn, tren_none, tren_full, tren_row, oren_cells, oren_row, oren_dead, ixs_z, ixs_1, ixs_2, ixs_3, ren_ints, List.map_cons, List.map_nil, ixs, List.range'_succ, ren_ints])
set_option maxRecDepth 100000 in
theorem ref32_Right0 (l : List Mk) (hl : Mks l) (hn : l.length ≤ 140737488355328) : Does Try.prog 69 [slM l] [] (bA (rightM l)) [] := by
  refine Does.run Try.func69 b69 n69 Try.ntmps69 (by simp only [List.cons_append, List.nil_append, List.length_cons, List.length_nil, Nat.zero_add, Nat.reduceAdd, Nat.reduceSub, List.replicate]; rfl) ?_; simp only [c69, go_sem, Nat.reduceAdd, Nat.reduceMul, Int.reduceToNat, Nat.reduceLeDiff, Int.reduceLE, Int.reduceLT, ↓reduceIte, Int.reduceBEq, Int.reduceBNe, Int.reduceAdd, Int.reduceSub, Int.reduceMul, qFin_ret, qFin_normal, mks_length]; (try ((refine okTr_and ?_ ?_); (· rfl)))
  by_cases h16 : 16 < (l.length : Int)
  · have q : decide (16 < (l.length : Int)) = true := by simpa using h16
    have hno : rightM l = false := by
      cases hr : rightM l with
      | false => rfl
      | true => have := (rightM_wf.1 hr).2; omega
    (simp only [go_sem, Nat.reduceAdd, Nat.reduceMul, Int.reduceToNat, Nat.reduceLeDiff, Int.reduceLE, Int.reduceLT, ↓reduceIte, Int.reduceBEq, Int.reduceBNe, Int.reduceAdd, Int.reduceSub, Int.reduceMul, qFin_ret, qFin_normal, q]; (try ((refine okTr_and ?_ ?_); (· rfl))))
    ((refine FinK.fin r69 [] ?_ ?_ ?_ ?_ ?_ ?_); (· decide); (· rfl); (· simp); (· rfl); (· first | with_reducible rfl | (simp [ints_nil, ren_lit, ren_ref, ren_any, ren_agg, ren_tup, ren_sl, ren_fn, tren_none, tren_full, tren_row, oren_cells, oren_row, oren_dead, ixs_z, ixs_1, ixs_2, ixs_3, ren_ints, List.map_cons, List.map_nil, hno]; done) | rfl); (· simp [resAL, resA1, loadA, oneOr, ints_nil, ren_lit, ren_ref, ren_any, ren_agg, ren_tup, ren_sl, ren_fn, tren_none, tren_full, tren_row, oren_cells, oren_row, oren_dead, ixs_z, ixs_1, ixs_2, ixs_3, ren_ints, List.map_cons, List.map_nil, hno]))
  have q : decide (16 < (l.length : Int)) = false := by simpa using h16
  (simp only [go_sem, Nat.reduceAdd, Nat.reduceMul, Int.reduceToNat, Nat.reduceLeDiff, Int.reduceLE, Int.reduceLT, ↓reduceIte, Int.reduceBEq, Int.reduceBNe, Int.reduceAdd, Int.reduceSub, Int.reduceMul, qFin_ret, qFin_normal, q]; (try ((refine okTr_and ?_ ?_); (· rfl))))
  refine loop_of (α := Nat) (fun k => [slM l, .any, .any, iA k, .any, .any, .any, .any, .any, .any, .any, .any, .any, .any, .any, .any, .any, .any, .any, .any, .any, .any, .any, .any, .any, .any, .any, .any, .any, .any, .any, .any, .any, .any, .any, .any, .any, .any, .any, .any, .any, .any, .any, .any, .any, .any, .any, .any, .any, .any, .any, .any, .any, .any, .any, .any, .any, .any, .any, .any, .any, .any, .any, .any, .any, .any, .any, .any, .any, .any, .any, .any, .any, .any, .any, .any, .any]) (fun _ => []) (fun k => k ≤ l.length ∧ Wf markNx [] (l.take k)) (fun k => l.length - k) 0 ⟨by simp, trivial⟩ (Wk.to (by simp) (by simp [leT])) ?_
  rintro k ⟨hk, hw⟩
  have hlast := mark_last hw
  have hlt0 := lastM_take l k hk
  (simp only [go_sem, Nat.reduceAdd, Nat.reduceMul, Int.reduceToNat, Nat.reduceLeDiff, Int.reduceLE, Int.reduceLT, ↓reduceIte, Int.reduceBEq, Int.reduceBNe, Int.reduceAdd, Int.reduceSub, Int.reduceMul, qFin_ret, qFin_normal, mks_length]; (try ((refine okTr_and ?_ ?_); (· rfl))))
  refine cdK_split (fun h => ?_) (fun h => ?_)
  · have hlt : k < l.length := by simpa using h
    have g := mks_get l k hlt
    have hx := hl _ (mk_mem l k hlt)
    have ei := i64_succ k (by omega)
    obtain ⟨x, hxe⟩ : ∃ x, l.getD k mk0 = x := ⟨_, rfl⟩
    have ht := mk_take l k hlt
    rw [hxe] at g hx ht
    obtain ⟨m1, m2, m3, m4, m5, m6⟩ := hx
    (simp only [go_sem, Nat.reduceAdd, Nat.reduceMul, Int.reduceToNat, Nat.reduceLeDiff, Int.reduceLE, Int.reduceLT, ↓reduceIte, Int.reduceBEq, Int.reduceBNe, Int.reduceAdd, Int.reduceSub, Int.reduceMul, qFin_ret, qFin_normal, g, mks_length]; (try ((refine okTr_and ?_ ?_); (· rfl))))
    (repeat ((with_reducible refine And.intro ?_ ?_); (· first | with_reducible assumption | omega | with_reducible rfl | (simp only [List.length_append, List.length_cons, List.length_nil, List.length_singleton]; omega) | (simp [ints_length, okEl_eq, AV.parts]; done) | (simp [ints_length, okEl_eq, AV.parts]; omega) | rfl)))
    by_cases c0 : 1 ≤ x.cnt
    case neg =>
      have q0 : decide (x.cnt < 1) = true := by simp only [decide_eq_true_eq]; omega
      have hno : rightM l = false := right_not hlt (by rw [hxe]; rintro ⟨f1, f2, f3, f4, f5, f6⟩; omega)
      (simp only [go_sem, Nat.reduceAdd, Nat.reduceMul, Int.reduceToNat, Nat.reduceLeDiff, Int.reduceLE, Int.reduceLT, ↓reduceIte, Int.reduceBEq, Int.reduceBNe, Int.reduceAdd, Int.reduceSub, Int.reduceMul, qFin_ret, qFin_normal, q0]; (try ((refine okTr_and ?_ ?_); (· rfl))))
      ((refine FinK.fin r69 [] ?_ ?_ ?_ ?_ ?_ ?_); (· decide); (· rfl); (· simp); (· rfl); (· first | with_reducible rfl | (simp [ints_nil, ren_lit, ren_ref, ren_any, ren_agg, ren_tup, ren_sl, ren_fn, tren_none, tren_full, tren_row, oren_cells, oren_row, oren_dead, ixs_z, ixs_1, ixs_2, ixs_3, ren_ints, List.map_cons, List.map_nil, hno]; done) | rfl); (· simp [resAL, resA1, loadA, oneOr, ints_nil, ren_lit, ren_ref, ren_any, ren_agg, ren_tup, ren_sl, ren_fn, tren_none, tren_full, tren_row, oren_cells, oren_row, oren_dead, ixs_z, ixs_1, ixs_2, ixs_3, ren_ints, List.map_cons, List.map_nil, hno]))
    have q0 : decide (x.cnt < 1) = false := by simp only [decide_eq_false_iff_not]; omega
    by_cases c1 : x.cnt ≤ 16
    case neg =>
      have q1 : decide (16 < x.cnt) = true := by simp only [decide_eq_true_eq]; omega
      have hno : rightM l = false := right_not hlt (by rw [hxe]; rintro ⟨f1, f2, f3, f4, f5, f6⟩; omega)
      (simp only [go_sem, Nat.reduceAdd, Nat.reduceMul, Int.reduceToNat, Nat.reduceLeDiff, Int.reduceLE, Int.reduceLT, ↓reduceIte, Int.reduceBEq, Int.reduceBNe, Int.reduceAdd, Int.reduceSub, Int.reduceMul, qFin_ret, qFin_normal, q0, q1]; (try ((refine okTr_and ?_ ?_); (· rfl))))
      ((refine FinK.fin r69 [] ?_ ?_ ?_ ?_ ?_ ?_); (· decide); (· rfl); (· simp); (· rfl); (· first | with_reducible rfl | (simp [ints_nil, ren_lit, ren_ref, ren_any, ren_agg, ren_tup, ren_sl, ren_fn, tren_none, tren_full, tren_row, oren_cells, oren_row, oren_dead, ixs_z, ixs_1, ixs_2, ixs_3, ren_ints, List.map_cons, List.map_nil, hno]; done) | rfl); (· simp [resAL, resA1, loadA, oneOr, ints_nil, ren_lit, ren_ref, ren_any, ren_agg, ren_tup, ren_sl, ren_fn, tren_none, tren_full, tren_row, oren_cells, oren_row, oren_dead, ixs_z, ixs_1, ixs_2, ixs_3, ren_ints, List.map_cons, List.map_nil, hno]))
    have q1 : decide (16 < x.cnt) = false := by simp only [decide_eq_false_iff_not]; omega
    have e1 : IntKind.u64.wrap x.cnt = x.cnt := IntWalk.u64_in _ (by omega)
    have e2 : IntKind.u64.wrap (4611686018427387904 - x.cnt) = 4611686018427387904 - x.cnt := IntWalk.u64_in _ (by omega)
    by_cases c2 : x.pos + x.cnt ≤ 4611686018427387904
    case neg =>
      have q2 : decide (4611686018427387904 - x.cnt < x.pos) = true := by simp only [decide_eq_true_eq]; omega
      have hno : rightM l = false := right_not hlt (by rw [hxe]; rintro ⟨f1, f2, f3, f4, f5, f6⟩; omega)
      (simp only [go_sem, Nat.reduceAdd, Nat.reduceMul, Int.reduceToNat, Nat.reduceLeDiff, Int.reduceLE, Int.reduceLT, ↓reduceIte, Int.reduceBEq, Int.reduceBNe, Int.reduceAdd, Int.reduceSub, Int.reduceMul, qFin_ret, qFin_normal, q0, q1, q2, e1, e2]; (try ((refine okTr_and ?_ ?_); (· rfl))))
      ((refine FinK.fin r69 [] ?_ ?_ ?_ ?_ ?_ ?_); (· decide); (· rfl); (· simp); (· rfl); (· first | with_reducible rfl | (simp [ints_nil, ren_lit, ren_ref, ren_any, ren_agg, ren_tup, ren_sl, ren_fn, tren_none, tren_full, tren_row, oren_cells, oren_row, oren_dead, ixs_z, ixs_1, ixs_2, ixs_3, ren_ints, List.map_cons, List.map_nil, hno]; done) | rfl); (· simp [resAL, resA1, loadA, oneOr, ints_nil, ren_lit, ren_ref, ren_any, ren_agg, ren_tup, ren_sl, ren_fn, tren_none, tren_full, tren_row, oren_cells, oren_row, oren_dead, ixs_z, ixs_1, ixs_2, ixs_3, ren_ints, List.map_cons, List.map_nil, hno]))
    have q2 : decide (4611686018427387904 - x.cnt < x.pos) = false := by simp only [decide_eq_false_iff_not]; omega
    by_cases c3 : 1 ≤ x.at_
    case neg =>
      have q3 : decide (x.at_ < 1) = true := by simp only [decide_eq_true_eq]; omega
      have hno : rightM l = false := right_not hlt (by rw [hxe]; rintro ⟨f1, f2, f3, f4, f5, f6⟩; omega)
      (simp only [go_sem, Nat.reduceAdd, Nat.reduceMul, Int.reduceToNat, Nat.reduceLeDiff, Int.reduceLE, Int.reduceLT, ↓reduceIte, Int.reduceBEq, Int.reduceBNe, Int.reduceAdd, Int.reduceSub, Int.reduceMul, qFin_ret, qFin_normal, q0, q1, q2, q3, e1, e2]; (try ((refine okTr_and ?_ ?_); (· rfl))))
      ((refine FinK.fin r69 [] ?_ ?_ ?_ ?_ ?_ ?_); (· decide); (· rfl); (· simp); (· rfl); (· first | with_reducible rfl | (simp [ints_nil, ren_lit, ren_ref, ren_any, ren_agg, ren_tup, ren_sl, ren_fn, tren_none, tren_full, tren_row, oren_cells, oren_row, oren_dead, ixs_z, ixs_1, ixs_2, ixs_3, ren_ints, List.map_cons, List.map_nil, hno]; done) | rfl); (· simp [resAL, resA1, loadA, oneOr, ints_nil, ren_lit, ren_ref, ren_any, ren_agg, ren_tup, ren_sl, ren_fn, tren_none, tren_full, tren_row, oren_cells, oren_row, oren_dead, ixs_z, ixs_1, ixs_2, ixs_3, ren_ints, List.map_cons, List.map_nil, hno]))
    have q3 : decide (x.at_ < 1) = false := by simp only [decide_eq_false_iff_not]; omega
    by_cases c4 : x.at_ ≤ 1099511627775
    case neg =>
      have q4 : decide (1099511627775 < x.at_) = true := by simp only [decide_eq_true_eq]; omega
      have hno : rightM l = false := right_not hlt (by rw [hxe]; rintro ⟨f1, f2, f3, f4, f5, f6⟩; omega)
      (simp only [go_sem, Nat.reduceAdd, Nat.reduceMul, Int.reduceToNat, Nat.reduceLeDiff, Int.reduceLE, Int.reduceLT, ↓reduceIte, Int.reduceBEq, Int.reduceBNe, Int.reduceAdd, Int.reduceSub, Int.reduceMul, qFin_ret, qFin_normal, q0, q1, q2, q3, q4, e1, e2]; (try ((refine okTr_and ?_ ?_); (· rfl))))
      ((refine FinK.fin r69 [] ?_ ?_ ?_ ?_ ?_ ?_); (· decide); (· rfl); (· simp); (· rfl); (· first | with_reducible rfl | (simp [ints_nil, ren_lit, ren_ref, ren_any, ren_agg, ren_tup, ren_sl, ren_fn, tren_none, tren_full, tren_row, oren_cells, oren_row, oren_dead, ixs_z, ixs_1, ixs_2, ixs_3, ren_ints, List.map_cons, List.map_nil, hno]; done) | rfl); (· simp [resAL, resA1, loadA, oneOr, ints_nil, ren_lit, ren_ref, ren_any, ren_agg, ren_tup, ren_sl, ren_fn, tren_none, tren_full, tren_row, oren_cells, oren_row, oren_dead, ixs_z, ixs_1, ixs_2, ixs_3, ren_ints, List.map_cons, List.map_nil, hno]))
    have q4 : decide (1099511627775 < x.at_) = false := by simp only [decide_eq_false_iff_not]; omega
    rcases Nat.eq_zero_or_pos k with hz | hz
    · have r1 : decide ((0 : Int) < k) = false := by simp; omega
      rw [if_pos hz] at hlt0
      have hf : x.fits (lastM (l.take k)).fin (lastM (l.take k)).at_ := by rw [hlt0]; exact ⟨c0, c1, m1, c2, by show (0 : Int) < x.at_; omega, c4⟩
      (simp only [go_sem, Nat.reduceAdd, Nat.reduceMul, Int.reduceToNat, Nat.reduceLeDiff, Int.reduceLE, Int.reduceLT, ↓reduceIte, Int.reduceBEq, Int.reduceBNe, Int.reduceAdd, Int.reduceSub, Int.reduceMul, qFin_ret, qFin_normal, q0, q1, q2, q3, q4, e1, e2, r1, ei]; (try ((refine okTr_and ?_ ?_); (· rfl))))
      refine ⟨k + 1, ⟨hlt, ?_⟩, by omega, Wk.sel [] (by simp) rfl (by simp) rfl (by simp) (by simp [selT, ints_nil, ren_lit, ren_ref, ren_any, ren_agg, ren_tup, ren_sl, ren_fn, tren_none, tren_full, tren_row, oren_cells, oren_row, oren_dead, ixs_z, ixs_1, ixs_2, ixs_3, ren_ints, List.map_cons, List.map_nil])⟩
      rw [ht]; exact wf_snoc.2 ⟨hw, (show markNx ([] ++ List.take k l) x from hf)⟩
    · have r1 : decide ((0 : Int) < k) = true := by simp; omega
      have ej : IntKind.i64.wrap ((k : Int) - 1) = ((k - 1 : Nat) : Int) := by rw [IntWalk.i64_in _ (by omega)]; omega
      have g2 := mks_get l (k - 1) (by omega)
      rw [if_neg (by omega)] at hlt0
      obtain ⟨y, hye⟩ : ∃ y, l.getD (k - 1) mk0 = y := ⟨_, rfl⟩
      rw [hye] at g2 hlt0
      rw [hlt0] at hlast
      obtain ⟨l1, l2, l3, l4, l5, l6⟩ := hlast
      unfold Mk.fin at l1 l2
      have e3 : IntKind.u64.wrap y.cnt = y.cnt := IntWalk.u64_in _ (by omega)
      have e4 : IntKind.u64.wrap (y.pos + y.cnt) = y.pos + y.cnt := IntWalk.u64_in _ (by omega)
      by_cases d0 : x.pos < y.pos + y.cnt
      · have r2 : decide (x.pos < y.pos + y.cnt) = true := by simpa using d0
        have hno : rightM l = false := right_not hlt (by rw [hxe, hlt0]; rintro ⟨f1, f2, f3, f4, f5, f6⟩; simp only [Mk.fin] at f3; omega)
        (simp only [go_sem, Nat.reduceAdd, Nat.reduceMul, Int.reduceToNat, Nat.reduceLeDiff, Int.reduceLE, Int.reduceLT, ↓reduceIte, Int.reduceBEq, Int.reduceBNe, Int.reduceAdd, Int.reduceSub, Int.reduceMul, qFin_ret, qFin_normal, q0, q1, q2, q3, q4, e1, e2, r1, ej, g2, e3, e4, r2, mks_length]; (try ((refine okTr_and ?_ ?_); (· rfl))))
        (repeat ((with_reducible refine And.intro ?_ ?_); (· first | with_reducible assumption | omega | with_reducible rfl | (simp only [List.length_append, List.length_cons, List.length_nil, List.length_singleton]; omega) | (simp [ints_length, okEl_eq, AV.parts]; done) | (simp [ints_length, okEl_eq, AV.parts]; omega) | rfl)))
        ((refine FinK.fin r69 [] ?_ ?_ ?_ ?_ ?_ ?_); (· decide); (· rfl); (· simp); (· rfl); (· first | with_reducible rfl | (simp [ints_nil, ren_lit, ren_ref, ren_any, ren_agg, ren_tup, ren_sl, ren_fn, tren_none, tren_full, tren_row, oren_cells, oren_row, oren_dead, ixs_z, ixs_1, ixs_2, ixs_3, ren_ints, List.map_cons, List.map_nil, hno]; done) | rfl); (· simp [resAL, resA1, loadA, oneOr, ints_nil, ren_lit, ren_ref, ren_any, ren_agg, ren_tup, ren_sl, ren_fn, tren_none, tren_full, tren_row, oren_cells, oren_row, oren_dead, ixs_z, ixs_1, ixs_2, ixs_3, ren_ints, List.map_cons, List.map_nil, hno]))
      · have r2 : decide (x.pos < y.pos + y.cnt) = false := by simpa using d0
        by_cases d1 : x.at_ ≤ y.at_
        · have r3 : decide (x.at_ ≤ y.at_) = true := by simpa using d1
          have hno : rightM l = false := right_not hlt (by rw [hxe, hlt0]; rintro ⟨f1, f2, f3, f4, f5, f6⟩; omega)
          (simp only [go_sem, Nat.reduceAdd, Nat.reduceMul, Int.reduceToNat, Nat.reduceLeDiff, Int.reduceLE, Int.reduceLT, ↓reduceIte, Int.reduceBEq, Int.reduceBNe, Int.reduceAdd, Int.reduceSub, Int.reduceMul, qFin_ret, qFin_normal, q0, q1, q2, q3, q4, e1, e2, r1, ej, g2, e3, e4, r2, r3, mks_length]; (try ((refine okTr_and ?_ ?_); (· rfl))))
          (repeat ((with_reducible refine And.intro ?_ ?_); (· first | with_reducible assumption | omega | with_reducible rfl | (simp only [List.length_append, List.length_cons, List.length_nil, List.length_singleton]; omega) | (simp [ints_length, okEl_eq, AV.parts]; done) | (simp [ints_length, okEl_eq, AV.parts]; omega) | rfl)))
          ((refine FinK.fin r69 [] ?_ ?_ ?_ ?_ ?_ ?_); (· decide); (· rfl); (· simp); (· rfl); (· first | with_reducible rfl | (simp [ints_nil, ren_lit, ren_ref, ren_any, ren_agg, ren_tup, ren_sl, ren_fn, tren_none, tren_full, tren_row, oren_cells, oren_row, oren_dead, ixs_z, ixs_1, ixs_2, ixs_3, ren_ints, List.map_cons, List.map_nil, hno]; done) | rfl); (· simp [resAL, resA1, loadA, oneOr, ints_nil, ren_lit, ren_ref, ren_any, ren_agg, ren_tup, ren_sl, ren_fn, tren_none, tren_full, tren_row, oren_cells, oren_row, oren_dead, ixs_z, ixs_1, ixs_2, ixs_3, ren_ints, List.map_cons, List.map_nil, hno]))
        · have r3 : decide (x.at_ ≤ y.at_) = false := by simpa using d1
          have hf : x.fits (lastM (l.take k)).fin (lastM (l.take k)).at_ := by rw [hlt0]; exact ⟨c0, c1, by show y.pos + y.cnt ≤ x.pos; omega, c2, by omega, c4⟩
          (simp only [go_sem, Nat.reduceAdd, Nat.reduceMul, Int.reduceToNat, Nat.reduceLeDiff, Int.reduceLE, Int.reduceLT, ↓reduceIte, Int.reduceBEq, Int.reduceBNe, Int.reduceAdd, Int.reduceSub, Int.reduceMul, qFin_ret, qFin_normal, q0, q1, q2, q3, q4, e1, e2, r1, ej, g2, e3, e4, r2, r3, mks_length, ei]; (try ((refine okTr_and ?_ ?_); (· rfl))))
          (repeat ((with_reducible refine And.intro ?_ ?_); (· first | with_reducible assumption | omega | with_reducible rfl | (simp only [List.length_append, List.length_cons, List.length_nil, List.length_singleton]; omega) | (simp [ints_length, okEl_eq, AV.parts]; done) | (simp [ints_length, okEl_eq, AV.parts]; omega) | rfl)))
          refine ⟨k + 1, ⟨hlt, ?_⟩, by omega, Wk.sel [] (by simp) rfl (by simp) rfl (by simp) (by simp [selT, ints_nil, ren_lit, ren_ref, ren_any, ren_agg, ren_tup, ren_sl, ren_fn, tren_none, tren_full, tren_row, oren_cells, oren_row, oren_dead, ixs_z, ixs_1, ixs_2, ixs_3, ren_ints, List.map_cons, List.map_nil])⟩
          rw [ht]; exact wf_snoc.2 ⟨hw, (show markNx ([] ++ List.take k l) x from hf)⟩
  · have ek : k = l.length := by simp at h; omega
    subst ek
    rw [List.take_length] at hw
    have hr : rightM l = true := rightM_wf.2 ⟨hw, by omega⟩
    (simp only [go_sem, Nat.reduceAdd, Nat.reduceMul, Int.reduceToNat, Nat.reduceLeDiff, Int.reduceLE, Int.reduceLT, ↓reduceIte, Int.reduceBEq, Int.reduceBNe, Int.reduceAdd, Int.reduceSub, Int.reduceMul, qFin_ret, qFin_normal]; (try ((refine okTr_and ?_ ?_); (· rfl))))
    ((refine FinK.fin r69 [] ?_ ?_ ?_ ?_ ?_ ?_); (· decide); (· rfl); (· simp); (· rfl); (· first | with_reducible rfl | (simp [ints_nil, ren_lit, ren_ref, ren_any, ren_agg, ren_tup, ren_sl, ren_fn, tren_none, tren_full, tren_row, oren_cells, oren_row, oren_dead, ixs_z, ixs_1, ixs_2, ixs_3, ren_ints, List.map_cons, List.map_nil, hr]; done) | rfl); (· simp [resAL, resA1, loadA, oneOr, ints_nil, ren_lit, ren_ref, ren_any, ren_agg, ren_tup, ren_sl, ren_fn, tren_none, tren_full, tren_row, oren_cells, oren_row, oren_dead, ixs_z, ixs_1, ixs_2, ixs_3, ren_ints, List.map_cons, List.map_nil, hr]))
theorem ref32_Right (l : List Mk) (hl : Mks l) (hn : l.length ≤ 140737488355328) : Ct Try.prog 69 [slM l] [] (fun _ => bA (rightM l)) [] (fun _ => []) := (ref32_Right0 l hl hn).toCt (by intros; simp [ints_nil, ren_lit, ren_ref, ren_any, ren_agg, ren_tup, ren_sl, ren_fn, tren_none, tren_full, tren_row, oren_cells, oren_row, oren_dead, ixs_z, ixs_1, ixs_2, ixs_3, ren_ints, List.map_cons, List.map_nil, ixs, List.range'_succ, ren_ints]) (by intros; simp [ints_nil, ren_lit, ren_ref, ren_any, ren_agg, ren_tup, ren_sl, ren_fn, tren_none, tren_full, tren_row, oren_cells, oren_row, oren_dead, ixs_z, ixs_1, ixs_2, ixs_3, ren_ints, List.map_cons, List.map_nil, ixs, List.range'_succ, ren_ints])
end Go.Proofs.Ytgphhganepjaiaa
end
section
namespace Go.Proofs.Ytgphhganepjaiaa
open Go.RowKit

def WS.marks (s : WS) (l : List Mk) : WS := if rightM l = true then (s.put (vb l.length)).puts (encs markN [] l) else s.fail 3
theorem marks_step (s : WS) (l : List Mk) (k : Nat) (x : Mk) (ht : l.take (k + 1) = l.take k ++ [x]) : ((((s.puts (encs markN [] (l.take k))).put (vb (x.pos - (lastM (l.take k)).fin))).put (vb x.cnt)).put (vb (x.at_ - (lastM (l.take k)).at_ - 1))) = s.puts (encs markN [] (l.take (k + 1))) := by
  rw [ht, encs_snoc, puts_append]
  simp [markN, WS.puts]
set_option maxRecDepth 100000 in
theorem index_Put0 (s : WS) (l : List Mk) (hs : s.fine) (hl : Mks l) (hn : l.length ≤ 140737488355328) : Does Try.prog 119 [.ref 0 0, slM l] [wob 1 s, wrow s] (.tup []) [wob 1 (s.marks l), wrow (s.marks l)] := by
  have e := len_u64 l (by omega)
  refine Does.run Try.func119 b119 n119 Try.ntmps119 (by simp only [List.cons_append, List.nil_append, List.length_cons, List.length_nil, Nat.zero_add, Nat.reduceAdd, Nat.reduceSub, List.replicate]; rfl) ?_; simp only [c119, go_sem, Nat.reduceAdd, Nat.reduceMul, Int.reduceToNat, Nat.reduceLeDiff, Int.reduceLE, Int.reduceLT, ↓reduceIte, Int.reduceBEq, Int.reduceBNe, Int.reduceAdd, Int.reduceSub, Int.reduceMul, qFin_ret, qFin_normal]; (try ((refine okTr_and ?_ ?_); (· rfl)))
  refine CallK.p (index_Right l hl hn) ?_
  cases hf : rightM l
  · (simp only [go_sem, Nat.reduceAdd, Nat.reduceMul, Int.reduceToNat, Nat.reduceLeDiff, Int.reduceLE, Int.reduceLT, ↓reduceIte, Int.reduceBEq, Int.reduceBNe, Int.reduceAdd, Int.reduceSub, Int.reduceMul, qFin_ret, qFin_normal, hf]; (try ((refine okTr_and ?_ ?_); (· rfl))))
    refine CallK.u2 (Writer_Fail s 3 0 1 (by decide)) rfl rfl ?_; (simp only [go_sem, Nat.reduceAdd, Nat.reduceMul, Int.reduceToNat, Nat.reduceLeDiff, Int.reduceLE, Int.reduceLT, ↓reduceIte, Int.reduceBEq, Int.reduceBNe, Int.reduceAdd, Int.reduceSub, Int.reduceMul, qFin_ret, qFin_normal]; (try ((refine okTr_and ?_ ?_); (· rfl))))
    ((refine FinK.fin r119 [0, 1] ?_ ?_ ?_ ?_ ?_ ?_); (· decide); (· rfl); (· simp); (· rfl); (· first | with_reducible rfl | (simp [ints_nil, ren_lit, ren_ref, ren_any, ren_agg, ren_tup, ren_sl, ren_fn, tren_none, tren_full, tren_row, oren_cells, oren_row, oren_dead, ixs_z, ixs_1, ixs_2, ixs_3, ren_ints, List.map_cons, List.map_nil, WS.marks, hf, wob_ren, wrow_ren]; done) | rfl); (· simp [resAL, resA1, loadA, oneOr, ints_nil, ren_lit, ren_ref, ren_any, ren_agg, ren_tup, ren_sl, ren_fn, tren_none, tren_full, tren_row, oren_cells, oren_row, oren_dead, ixs_z, ixs_1, ixs_2, ixs_3, ren_ints, List.map_cons, List.map_nil, WS.marks, hf, wob_ren, wrow_ren]))
  · obtain ⟨hwf, h16⟩ := rightM_wf.1 hf
    (simp only [go_sem, Nat.reduceAdd, Nat.reduceMul, Int.reduceToNat, Nat.reduceLeDiff, Int.reduceLE, Int.reduceLT, ↓reduceIte, Int.reduceBEq, Int.reduceBNe, Int.reduceAdd, Int.reduceSub, Int.reduceMul, qFin_ret, qFin_normal, hf, mks_length, e]; (try ((refine okTr_and ?_ ?_); (· rfl))))
    refine CallK.u2 (varint_Put s l.length 0 1 (by decide) (by omega) (by omega) hs.ok (hs.room _)) rfl rfl ?_; (simp only [go_sem, Nat.reduceAdd, Nat.reduceMul, Int.reduceToNat, Nat.reduceLeDiff, Int.reduceLE, Int.reduceLT, ↓reduceIte, Int.reduceBEq, Int.reduceBNe, Int.reduceAdd, Int.reduceSub, Int.reduceMul, qFin_ret, qFin_normal, mks_length]; (try ((refine okTr_and ?_ ?_); (· rfl))))
    refine loop_of (α := Nat) (fun k => [.ref 0 0, .any, .any, .any, uA (lastM (l.take k)).fin, iA (lastM (l.take k)).at_, .any, .any, .any, .any, .any, .any, .any, .any, .any, .any, .any, .any, slM l, iA l.length, iA k, .any, .any, .any, .any, .any, .any, .any, .any, .any, .any, .any, .any, .any, .any, .any, .any, .any, .any, .any, .any, .any, .any, .any, .any, .any, .any, .any]) (fun k => [wob 1 ((s.put (vb l.length)).puts (encs markN [] (l.take k))), wrow ((s.put (vb l.length)).puts (encs markN [] (l.take k)))]) (fun k => k ≤ l.length) (fun k => l.length - k) 0 (by simp) (Wk.to (by simp [WS.puts, encs]) (by simp [leT, lastM, mk0, Mk.fin])) ?_
    intro k hk
    (simp only [go_sem, Nat.reduceAdd, Nat.reduceMul, Int.reduceToNat, Nat.reduceLeDiff, Int.reduceLE, Int.reduceLT, ↓reduceIte, Int.reduceBEq, Int.reduceBNe, Int.reduceAdd, Int.reduceSub, Int.reduceMul, qFin_ret, qFin_normal]; (try ((refine okTr_and ?_ ?_); (· rfl))))
    refine cdK_split (fun h => ?_) (fun h => ?_)
    · have hlt : k < l.length := by simpa using h
      have g := mks_get l k hlt
      have ei := i64_succ k (by omega)
      obtain ⟨x, hxe⟩ : ∃ x, l.getD k mk0 = x := ⟨_, rfl⟩
      have ht := mk_take l k hlt
      have hlast := mark_last (wf_take k hwf)
      have hnx := wf_get k hlt hwf
      have h3 : l[k] = x := by rw [← hxe]; simp [hlt]
      rw [h3, List.nil_append] at hnx
      rw [hxe] at g ht
      have hnx' : x.fits (lastM (l.take k)).fin (lastM (l.take k)).at_ := hnx
      obtain ⟨f1, f2, f3, f4, f5, f6⟩ := hnx'
      have st := marks_step (s.put (vb l.length)) l k x ht
      have hlx : lastM (l.take (k + 1)) = x := by rw [ht, lastM_snoc]
      have e1 : IntKind.u64.wrap (x.pos - (lastM (l.take k)).fin) = x.pos - (lastM (l.take k)).fin := IntWalk.u64_in _ (by omega)
      have e2 : IntKind.u64.wrap x.cnt = x.cnt := IntWalk.u64_in _ (by omega)
      have e3 : IntKind.i64.wrap (x.at_ - (lastM (l.take k)).at_) = x.at_ - (lastM (l.take k)).at_ := IntWalk.i64_in _ (by omega)
      have e4 : IntKind.i64.wrap (x.at_ - (lastM (l.take k)).at_ - 1) = x.at_ - (lastM (l.take k)).at_ - 1 := IntWalk.i64_in _ (by omega)
      have e5 : IntKind.u64.wrap (x.at_ - (lastM (l.take k)).at_ - 1) = x.at_ - (lastM (l.take k)).at_ - 1 := IntWalk.u64_in _ (by omega)
      have hp := (hs.put (vb l.length)).puts (encs markN [] (l.take k))
      (simp only [go_sem, Nat.reduceAdd, Nat.reduceMul, Int.reduceToNat, Nat.reduceLeDiff, Int.reduceLE, Int.reduceLT, ↓reduceIte, Int.reduceBEq, Int.reduceBNe, Int.reduceAdd, Int.reduceSub, Int.reduceMul, qFin_ret, qFin_normal, g, mks_length, e1]; (try ((refine okTr_and ?_ ?_); (· rfl))))
      (repeat ((with_reducible refine And.intro ?_ ?_); (· first | with_reducible assumption | omega | with_reducible rfl | (simp only [List.length_append, List.length_cons, List.length_nil, List.length_singleton]; omega) | (simp [ints_length, okEl_eq, AV.parts]; done) | (simp [ints_length, okEl_eq, AV.parts]; omega) | rfl)))
      refine CallK.u2 (varint_Put _ (x.pos - (lastM (l.take k)).fin) 0 1 (by decide) (by omega) (by omega) hp.ok (hp.room _)) rfl rfl ?_; (simp only [go_sem, Nat.reduceAdd, Nat.reduceMul, Int.reduceToNat, Nat.reduceLeDiff, Int.reduceLE, Int.reduceLT, ↓reduceIte, Int.reduceBEq, Int.reduceBNe, Int.reduceAdd, Int.reduceSub, Int.reduceMul, qFin_ret, qFin_normal, e2]; (try ((refine okTr_and ?_ ?_); (· rfl))))
      refine CallK.u2 (varint_Put _ x.cnt 0 1 (by decide) (by omega) (by omega) (hp.put _).ok ((hp.put _).room _)) rfl rfl ?_; (simp only [go_sem, Nat.reduceAdd, Nat.reduceMul, Int.reduceToNat, Nat.reduceLeDiff, Int.reduceLE, Int.reduceLT, ↓reduceIte, Int.reduceBEq, Int.reduceBNe, Int.reduceAdd, Int.reduceSub, Int.reduceMul, qFin_ret, qFin_normal, e3, e4, e5]; (try ((refine okTr_and ?_ ?_); (· rfl))))
      refine CallK.u2 (varint_Put _ (x.at_ - (lastM (l.take k)).at_ - 1) 0 1 (by decide) (by omega) (by omega) ((hp.put _).put _).ok (((hp.put _).put _).room _)) rfl rfl ?_; (simp only [go_sem, Nat.reduceAdd, Nat.reduceMul, Int.reduceToNat, Nat.reduceLeDiff, Int.reduceLE, Int.reduceLT, ↓reduceIte, Int.reduceBEq, Int.reduceBNe, Int.reduceAdd, Int.reduceSub, Int.reduceMul, qFin_ret, qFin_normal, st]; (try ((refine okTr_and ?_ ?_); (· rfl))))
      refine CallK.p (index_end x (by omega) (by omega) (by omega)) ?_; (simp only [go_sem, Nat.reduceAdd, Nat.reduceMul, Int.reduceToNat, Nat.reduceLeDiff, Int.reduceLE, Int.reduceLT, ↓reduceIte, Int.reduceBEq, Int.reduceBNe, Int.reduceAdd, Int.reduceSub, Int.reduceMul, qFin_ret, qFin_normal, ei]; (try ((refine okTr_and ?_ ?_); (· rfl))))
      exact ⟨k + 1, hlt, by omega, Wk.sel [0, 1] (by simp) rfl (by simp) rfl (by simp [wob_ren, wrow_ren, ixs]) (by simp only [hlx]; simp [selT, ints_nil, ren_lit, ren_ref, ren_any, ren_agg, ren_tup, ren_sl, ren_fn, tren_none, tren_full, tren_row, oren_cells, oren_row, oren_dead, ixs_z, ixs_1, ixs_2, ixs_3, ren_ints, List.map_cons, List.map_nil])⟩
    · have ek : k = l.length := by simp at h; omega
      (simp only [go_sem, Nat.reduceAdd, Nat.reduceMul, Int.reduceToNat, Nat.reduceLeDiff, Int.reduceLE, Int.reduceLT, ↓reduceIte, Int.reduceBEq, Int.reduceBNe, Int.reduceAdd, Int.reduceSub, Int.reduceMul, qFin_ret, qFin_normal]; (try ((refine okTr_and ?_ ?_); (· rfl))))
      ((refine FinK.fin r119 [0, 1] ?_ ?_ ?_ ?_ ?_ ?_); (· decide); (· rfl); (· simp); (· rfl); (· first | with_reducible rfl | (simp [ints_nil, ren_lit, ren_ref, ren_any, ren_agg, ren_tup, ren_sl, ren_fn, tren_none, tren_full, tren_row, oren_cells, oren_row, oren_dead, ixs_z, ixs_1, ixs_2, ixs_3, ren_ints, List.map_cons, List.map_nil, WS.marks, hf, ek, wob_ren, wrow_ren]; done) | rfl); (· simp [resAL, resA1, loadA, oneOr, ints_nil, ren_lit, ren_ref, ren_any, ren_agg, ren_tup, ren_sl, ren_fn, tren_none, tren_full, tren_row, oren_cells, oren_row, oren_dead, ixs_z, ixs_1, ixs_2, ixs_3, ren_ints, List.map_cons, List.map_nil, WS.marks, hf, ek, wob_ren, wrow_ren]))
theorem index_Put (s : WS) (l : List Mk) (i j : Nat) (h : i ≠ j) (hs : s.fine) (hl : Mks l) (hn : l.length ≤ 140737488355328) : Ct Try.prog 119 [.ref i 0, slM l] [(i, wob j s), (j, wrow s)] (fun _ => .tup []) [(i, wob j (s.marks l)), (j, wrow (s.marks l))] (fun _ => []) := Ct.u2 (index_Put0 s l hs hl hn) i j h (by intros; simp [ints_nil, ren_lit, ren_ref, ren_any, ren_agg, ren_tup, ren_sl, ren_fn, tren_none, tren_full, tren_row, oren_cells, oren_row, oren_dead, ixs_z, ixs_1, ixs_2, ixs_3, ren_ints, List.map_cons, List.map_nil, ixs, List.range'_succ, ren_ints]) (by intros; simp [ints_nil, ren_lit, ren_ref, ren_any, ren_agg, ren_tup, ren_sl, ren_fn, tren_none, tren_full, tren_row, oren_cells, oren_row, oren_dead, ixs_z, ixs_1, ixs_2, ixs_3, ren_ints, List.map_cons, List.map_nil, ixs, List.range'_succ, wob_ren]) (by intros; simp [ints_nil, ren_lit, ren_ref, ren_any, ren_agg, ren_tup, ren_sl, ren_fn, tren_none, tren_full, tren_row, oren_cells, oren_row, oren_dead, ixs_z, ixs_1, ixs_2, ixs_3, ren_ints, List.map_cons, List.map_nil, ixs, List.range'_succ, wrow_ren]) (by intros; simp [ints_nil, ren_lit, ren_ref, ren_any, ren_agg, ren_tup, ren_sl, ren_fn, tren_none, tren_full, tren_row, oren_cells, oren_row, oren_dead, ixs_z, ixs_1, ixs_2, ixs_3, ren_ints, List.map_cons, List.map_nil, ixs, List.range'_succ, wob_ren]) (by intros; simp [ints_nil, ren_lit, ren_ref, ren_any, ren_agg, ren_tup, ren_sl, ren_fn, tren_none, tren_full, tren_row, oren_cells, oren_row, oren_dead, ixs_z, ixs_1, ixs_2, ixs_3, ren_ints, List.map_cons, List.map_nil, ixs, List.range'_succ, wrow_ren]) (wob_dead _ _) (wrow_dead _) (by intros; simp [ints_nil, ren_lit, ren_ref, ren_any, ren_agg, ren_tup, ren_sl, ren_fn, tren_none, tren_full, tren_row, oren_cells, oren_row, oren_dead, ixs_z, ixs_1, ixs_2, ixs_3, ren_ints, List.map_cons, List.map_nil, flt])
theorem put_marks {s : WS} {l : List Mk} (h : s.code = 0) (hf : rightM l = true) (hm : (s.l.length : Int) + (marksB l).length ≤ s.most) : s.marks l = ⟨s.most, s.l ++ marksB l, 0⟩ := by
  unfold marksB at hm ⊢
  rw [List.length_append, ← vbs_markN] at hm
  unfold WS.marks
  have e1 : s.put (vb (l.length : Int)) = ⟨s.most, s.l ++ vb l.length, 0⟩ := by
    rw [WS.put_ok h (by omega)]; cases s; simp at h; simp [h]
  rw [if_pos hf, e1, puts_fit rfl _ (by simp only [List.length_append]; omega), ← vbs_markN]
  simp
theorem marks_room {l : List Mk} (hf : rightM l = true) : (marksB l).length ≤ 490 := by
  have := marksB_len l
  have := (rightM_wf.1 hf).2
  omega
def markR (l : List Mk) : List Int := if rightM l = true then marksB l else []
theorem index_Bytes0 (l : List Mk) (hl : Mks l) (hn : l.length ≤ 140737488355328) : Does Try.prog 118 [slM l] [] (.tup [slA .u8 (markR l), iA (if rightM l = true then 0 else 3)]) [] := by
  have f1 : (WS.new 1024).fine := WS.fine.new (by decide)
  refine Does.run Try.func118 b118 n118 Try.ntmps118 (by simp only [List.cons_append, List.nil_append, List.length_cons, List.length_nil, Nat.zero_add, Nat.reduceAdd, Nat.reduceSub, List.replicate]; rfl) ?_; simp only [c118, go_sem, Nat.reduceAdd, Nat.reduceMul, Int.reduceToNat, Nat.reduceLeDiff, Int.reduceLE, Int.reduceLT, ↓reduceIte, Int.reduceBEq, Int.reduceBNe, Int.reduceAdd, Int.reduceSub, Int.reduceMul, qFin_ret, qFin_normal]; (try ((refine okTr_and ?_ ?_); (· rfl)))
  refine CallK.n (pen_New 1024) ?_; (simp only [go_sem, Nat.reduceAdd, Nat.reduceMul, Int.reduceToNat, Nat.reduceLeDiff, Int.reduceLE, Int.reduceLT, ↓reduceIte, Int.reduceBEq, Int.reduceBNe, Int.reduceAdd, Int.reduceSub, Int.reduceMul, qFin_ret, qFin_normal]; (try ((refine okTr_and ?_ ?_); (· rfl))))
  refine CallK.u2 (index_Put (WS.new 1024) l _ _ (by decide) f1 hl hn) rfl rfl ?_
  cases hf : rightM l
  · have hw : (WS.new 1024).marks l = ⟨1024, [], 3⟩ := by unfold WS.marks; rw [hf]; rfl
    (simp only [go_sem, Nat.reduceAdd, Nat.reduceMul, Int.reduceToNat, Nat.reduceLeDiff, Int.reduceLE, Int.reduceLT, ↓reduceIte, Int.reduceBEq, Int.reduceBNe, Int.reduceAdd, Int.reduceSub, Int.reduceMul, qFin_ret, qFin_normal, hw]; (try ((refine okTr_and ?_ ?_); (· rfl))))
    refine CallK.r2 (Writer_Bytes _ _ _ (by decide) (by decide)) rfl rfl ?_; (simp only [go_sem, Nat.reduceAdd, Nat.reduceMul, Int.reduceToNat, Nat.reduceLeDiff, Int.reduceLE, Int.reduceLT, ↓reduceIte, Int.reduceBEq, Int.reduceBNe, Int.reduceAdd, Int.reduceSub, Int.reduceMul, qFin_ret, qFin_normal]; (try ((refine okTr_and ?_ ?_); (· rfl))))
    ((refine FinK.fin r118 [] ?_ ?_ ?_ ?_ ?_ ?_); (· decide); (· rfl); (· simp); (· rfl); (· first | with_reducible rfl | (simp [ints_nil, ren_lit, ren_ref, ren_any, ren_agg, ren_tup, ren_sl, ren_fn, tren_none, tren_full, tren_row, oren_cells, oren_row, oren_dead, ixs_z, ixs_1, ixs_2, ixs_3, ren_ints, List.map_cons, List.map_nil, hf, markR, WS.bytes]; done) | rfl); (· simp [resAL, resA1, loadA, oneOr, ints_nil, ren_lit, ren_ref, ren_any, ren_agg, ren_tup, ren_sl, ren_fn, tren_none, tren_full, tren_row, oren_cells, oren_row, oren_dead, ixs_z, ixs_1, ixs_2, ixs_3, ren_ints, List.map_cons, List.map_nil, hf, markR, WS.bytes]))
  · have hr := marks_room hf
    have hw : (WS.new 1024).marks l = ⟨1024, marksB l, 0⟩ := by rw [WS.new_is (by omega), put_marks rfl hf (by simp only [List.length_nil]; omega)]; simp only [List.nil_append]
    (simp only [go_sem, Nat.reduceAdd, Nat.reduceMul, Int.reduceToNat, Nat.reduceLeDiff, Int.reduceLE, Int.reduceLT, ↓reduceIte, Int.reduceBEq, Int.reduceBNe, Int.reduceAdd, Int.reduceSub, Int.reduceMul, qFin_ret, qFin_normal, hw]; (try ((refine okTr_and ?_ ?_); (· rfl))))
    refine CallK.r2 (Writer_Bytes _ _ _ (by decide) (by simp only; omega)) rfl rfl ?_; (simp only [go_sem, Nat.reduceAdd, Nat.reduceMul, Int.reduceToNat, Nat.reduceLeDiff, Int.reduceLE, Int.reduceLT, ↓reduceIte, Int.reduceBEq, Int.reduceBNe, Int.reduceAdd, Int.reduceSub, Int.reduceMul, qFin_ret, qFin_normal]; (try ((refine okTr_and ?_ ?_); (· rfl))))
    ((refine FinK.fin r118 [] ?_ ?_ ?_ ?_ ?_ ?_); (· decide); (· rfl); (· simp); (· rfl); (· first | with_reducible rfl | (simp [ints_nil, ren_lit, ren_ref, ren_any, ren_agg, ren_tup, ren_sl, ren_fn, tren_none, tren_full, tren_row, oren_cells, oren_row, oren_dead, ixs_z, ixs_1, ixs_2, ixs_3, ren_ints, List.map_cons, List.map_nil, hf, markR, WS.bytes]; done) | rfl); (· simp [resAL, resA1, loadA, oneOr, ints_nil, ren_lit, ren_ref, ren_any, ren_agg, ren_tup, ren_sl, ren_fn, tren_none, tren_full, tren_row, oren_cells, oren_row, oren_dead, ixs_z, ixs_1, ixs_2, ixs_3, ren_ints, List.map_cons, List.map_nil, hf, markR, WS.bytes]))
theorem index_Bytes (l : List Mk) (hl : Mks l) (hn : l.length ≤ 140737488355328) : Ct Try.prog 118 [slM l] [] (fun _ => .tup [slA .u8 (markR l), iA (if rightM l = true then 0 else 3)]) [] (fun _ => []) := (index_Bytes0 l hl hn).toCt (by intros; simp [ints_nil, ren_lit, ren_ref, ren_any, ren_agg, ren_tup, ren_sl, ren_fn, tren_none, tren_full, tren_row, oren_cells, oren_row, oren_dead, ixs_z, ixs_1, ixs_2, ixs_3, ren_ints, List.map_cons, List.map_nil, ixs, List.range'_succ, ren_ints]) (by intros; simp [ints_nil, ren_lit, ren_ref, ren_any, ren_agg, ren_tup, ren_sl, ren_fn, tren_none, tren_full, tren_row, oren_cells, oren_row, oren_dead, ixs_z, ixs_1, ixs_2, ixs_3, ren_ints, List.map_cons, List.map_nil, ixs, List.range'_succ, ren_ints])
set_option maxRecDepth 100000 in
theorem ref32_Bytes0 (l : List Mk) (hr : rightM l = true) : Does Try.prog 117 [slM l] [] (ownA 0 (marksB l)) [.row 1 (marksB l).length] := by
  obtain ⟨hwf, h16⟩ := rightM_wf.1 hr
  have e : IntKind.u8.wrap (l.length : Int) = l.length := IntWalk.u8_in _ (by omega)
  have ev : vb (l.length : Int) = [(l.length : Int)] := vb_lt (by omega)
  have e1 : [u8A (l.length : Int)] = ints .u8 (vb (l.length : Int)) := by rw [ev]; rfl
  refine Does.run Try.func117 b117 n117 Try.ntmps117 (by simp only [List.cons_append, List.nil_append, List.length_cons, List.length_nil, Nat.zero_add, Nat.reduceAdd, Nat.reduceSub, List.replicate]; rfl) ?_; simp only [c117, go_sem, Nat.reduceAdd, Nat.reduceMul, Int.reduceToNat, Nat.reduceLeDiff, Int.reduceLE, Int.reduceLT, ↓reduceIte, Int.reduceBEq, Int.reduceBNe, Int.reduceAdd, Int.reduceSub, Int.reduceMul, qFin_ret, qFin_normal, mks_length, e, e1]; (try ((refine okTr_and ?_ ?_); (· rfl)))
  (repeat ((with_reducible refine And.intro ?_ ?_); (· first | with_reducible assumption | omega | with_reducible rfl | (simp only [List.length_append, List.length_cons, List.length_nil, List.length_singleton]; omega) | (simp [ints_length, okEl_eq, AV.parts]; done) | (simp [ints_length, okEl_eq, AV.parts]; omega) | rfl)))
  refine loop_of (α := Nat) (fun k => [slM l, .any, .any, ownA 0 (vb l.length ++ encs markEnc [] (l.take k)), iA k, .any, .any, .any, .any, .any, .any, .any, .any, .any, .any, .any, .any, .any, .any, .any, .any, .any, .any, .any, .any, .any, .any, .any, .any, .any, .any, .any, .any, .any, .any, .any, .any, .any, .any, .any, .any, .any, .any, .any, .any, .any, .any, .any, .any, .any, .any, .any, .any, .any, .any, .any, .any, .any, .any, .any, .any, .any, .any, .any, .any, .any, .any, .any, .any, .any, .any, .any, .any]) (fun k => [.row 1 (vb l.length ++ encs markEnc [] (l.take k)).length]) (fun k => k ≤ l.length) (fun k => l.length - k) 0 (by simp) ((Wk.row 3 1 rfl (.inl rfl) (Nat.le_refl _)).trans (Wk.to (by simp [encs, ints_length]) (by simp [leT, encs]))) ?_
  intro k hk
  (simp only [go_sem, Nat.reduceAdd, Nat.reduceMul, Int.reduceToNat, Nat.reduceLeDiff, Int.reduceLE, Int.reduceLT, ↓reduceIte, Int.reduceBEq, Int.reduceBNe, Int.reduceAdd, Int.reduceSub, Int.reduceMul, qFin_ret, qFin_normal, mks_length]; (try ((refine okTr_and ?_ ?_); (· rfl))))
  refine cdK_split (fun h => ?_) (fun h => ?_)
  · have hlt : k < l.length := by simpa using h
    have g := mks_get l k hlt
    have ei := i64_succ k (by omega)
    obtain ⟨x, hxe⟩ : ∃ x, l.getD k mk0 = x := ⟨_, rfl⟩
    have ht := mk_take l k hlt
    have hlast := mark_last (wf_take k hwf)
    have hlt0 := lastM_take l k hk
    have hnx := wf_get k hlt hwf
    have h3 : l[k] = x := by rw [← hxe]; simp [hlt]
    rw [h3, List.nil_append] at hnx
    rw [hxe] at g ht
    have hnx' : x.fits (lastM (l.take k)).fin (lastM (l.take k)).at_ := hnx
    obtain ⟨f1, f2, f3, f4, f5, f6⟩ := hnx'
    obtain ⟨p, hp⟩ : ∃ p, lastM (l.take k) = p := ⟨_, rfl⟩
    have hstep : encs markEnc [] (l.take k) ++ (vb (x.pos - p.fin) ++ (x.cnt :: vb (x.at_ - p.at_ - 1))) = encs markEnc [] (l.take (k + 1)) := by
      rw [ht, encs_snoc, List.nil_append]
      show _ = _ ++ (vb (x.pos - (lastM (l.take k)).fin) ++ (vb x.cnt ++ vb (x.at_ - (lastM (l.take k)).at_ - 1)))
      rw [hp, vb_lt (show x.cnt < 128 by omega)]; rfl
    rw [hp] at f3 f5 hlast hlt0
    have hlb := marksB_len (l.take k)
    have htl : (l.take k).length = k := by simp; omega
    unfold marksB at hlb
    rw [List.length_append, htl] at hlb
    have hv1 := (vb_len (x.pos - p.fin)).2
    have hv2 := (vb_len (x.at_ - p.at_ - 1)).2
    have hv3 := (vb_len (l.length : Int)).2
    have hsl := congrArg List.length hstep
    simp only [List.length_append, List.length_cons, List.length_nil] at hsl
    have w1 : IntKind.u8.wrap x.cnt = x.cnt := IntWalk.u8_in _ (by omega)
    have w2 : IntKind.u64.wrap (x.at_ - p.at_ - 1) = x.at_ - p.at_ - 1 := IntWalk.u64_in _ (by omega)
    have w3 : IntKind.i64.wrap (x.at_ - p.at_ - 1) = x.at_ - p.at_ - 1 := IntWalk.i64_in _ (by omega)
    have w4 : IntKind.i64.wrap (x.at_ - p.at_) = x.at_ - p.at_ := IntWalk.i64_in _ (by omega)
    have w5 : [u8A x.cnt] = ints .u8 [x.cnt] := rfl
    rcases Nat.eq_zero_or_pos k with hz | hz
    · have r1 : decide ((0 : Int) < k) = false := by simp; omega
      rw [if_pos hz] at hlt0
      have p0 : x.pos - p.fin = x.pos := by rw [hlt0]; show x.pos - (0 + 0) = x.pos; omega
      have p1 : x.at_ - p.at_ - 1 = x.at_ - 1 := by rw [hlt0]; show x.at_ - 0 - 1 = x.at_ - 1; omega
      rw [p0] at hstep hsl hv1
      rw [p1] at hstep hsl hv2 w2 w3
      (simp only [go_sem, Nat.reduceAdd, Nat.reduceMul, Int.reduceToNat, Nat.reduceLeDiff, Int.reduceLE, Int.reduceLT, ↓reduceIte, Int.reduceBEq, Int.reduceBNe, Int.reduceAdd, Int.reduceSub, Int.reduceMul, qFin_ret, qFin_normal, g, mks_length, r1]; (try ((refine okTr_and ?_ ?_); (· rfl))))
      (repeat ((with_reducible refine And.intro ?_ ?_); (· first | with_reducible assumption | omega | with_reducible rfl | (simp only [List.length_append, List.length_cons, List.length_nil, List.length_singleton]; omega) | (simp [ints_length, okEl_eq, AV.parts]; done) | (simp [ints_length, okEl_eq, AV.parts]; omega) | rfl)))
      refine CallK.p (ref04_Bytes x.pos (by omega) (by omega)) ?_
      (simp only [go_sem, Nat.reduceAdd, Nat.reduceMul, Int.reduceToNat, Nat.reduceLeDiff, Int.reduceLE, Int.reduceLT, ↓reduceIte, Int.reduceBEq, Int.reduceBNe, Int.reduceAdd, Int.reduceSub, Int.reduceMul, qFin_ret, qFin_normal, g, mks_length, w1, w3, w2, w5, ints_append, ints_length, List.append_assoc]; (try ((refine okTr_and ?_ ?_); (· rfl))))
      (repeat ((with_reducible refine And.intro ?_ ?_); (· first | with_reducible assumption | omega | with_reducible rfl | (simp only [List.length_append, List.length_cons, List.length_nil, List.length_singleton]; omega) | (simp [ints_length, okEl_eq, AV.parts]; done) | (simp [ints_length, okEl_eq, AV.parts]; omega) | rfl)))
      refine CallK.p (ref04_Bytes (x.at_ - 1) (by omega) (by omega)) ?_
      (simp only [go_sem, Nat.reduceAdd, Nat.reduceMul, Int.reduceToNat, Nat.reduceLeDiff, Int.reduceLE, Int.reduceLT, ↓reduceIte, Int.reduceBEq, Int.reduceBNe, Int.reduceAdd, Int.reduceSub, Int.reduceMul, qFin_ret, qFin_normal, ints_append, ints_length, List.append_assoc, hstep, ei]; (try ((refine okTr_and ?_ ?_); (· rfl))))
      (repeat ((with_reducible refine And.intro ?_ ?_); (· first | with_reducible assumption | omega | with_reducible rfl | (simp only [List.length_append, List.length_cons, List.length_nil, List.length_singleton]; omega) | (simp [ints_length, okEl_eq, AV.parts]; done) | (simp [ints_length, okEl_eq, AV.parts]; omega) | rfl)))
      exact ⟨k + 1, hlt, by omega, Wk.to (by simp only [List.length_append, List.length_cons, List.length_nil]; simp; omega) (by simp [leT])⟩
    · have r1 : decide ((0 : Int) < k) = true := by simp; omega
      have ej : IntKind.i64.wrap ((k : Int) - 1) = ((k - 1 : Nat) : Int) := by rw [IntWalk.i64_in _ (by omega)]; omega
      have g2 := mks_get l (k - 1) (by omega)
      rw [if_neg (by omega)] at hlt0
      rw [← hlt0] at g2
      obtain ⟨l1, l2, l3, l4, l5, l6⟩ := hlast
      have p0 : x.pos - p.fin = x.pos - p.pos - p.cnt := by unfold Mk.fin; omega
      unfold Mk.fin at l1 l2 f3
      have w6 : IntKind.u64.wrap (x.pos - p.pos) = x.pos - p.pos := IntWalk.u64_in _ (by omega)
      have w7 : IntKind.u64.wrap p.cnt = p.cnt := IntWalk.u64_in _ (by omega)
      have w8 : IntKind.u64.wrap (x.pos - p.pos - p.cnt) = x.pos - p.pos - p.cnt := IntWalk.u64_in _ (by omega)
      rw [p0] at hstep hsl hv1
      (simp only [go_sem, Nat.reduceAdd, Nat.reduceMul, Int.reduceToNat, Nat.reduceLeDiff, Int.reduceLE, Int.reduceLT, ↓reduceIte, Int.reduceBEq, Int.reduceBNe, Int.reduceAdd, Int.reduceSub, Int.reduceMul, qFin_ret, qFin_normal, g, mks_length, r1, ej, g2, w4, w6, w7, w8]; (try ((refine okTr_and ?_ ?_); (· rfl))))
      (repeat ((with_reducible refine And.intro ?_ ?_); (· first | with_reducible assumption | omega | with_reducible rfl | (simp only [List.length_append, List.length_cons, List.length_nil, List.length_singleton]; omega) | (simp [ints_length, okEl_eq, AV.parts]; done) | (simp [ints_length, okEl_eq, AV.parts]; omega) | rfl)))
      refine CallK.p (ref04_Bytes (x.pos - p.pos - p.cnt) (by omega) (by omega)) ?_
      (simp only [go_sem, Nat.reduceAdd, Nat.reduceMul, Int.reduceToNat, Nat.reduceLeDiff, Int.reduceLE, Int.reduceLT, ↓reduceIte, Int.reduceBEq, Int.reduceBNe, Int.reduceAdd, Int.reduceSub, Int.reduceMul, qFin_ret, qFin_normal, g, mks_length, w1, w3, w2, w5, ints_append, ints_length, List.append_assoc]; (try ((refine okTr_and ?_ ?_); (· rfl))))
      (repeat ((with_reducible refine And.intro ?_ ?_); (· first | with_reducible assumption | omega | with_reducible rfl | (simp only [List.length_append, List.length_cons, List.length_nil, List.length_singleton]; omega) | (simp [ints_length, okEl_eq, AV.parts]; done) | (simp [ints_length, okEl_eq, AV.parts]; omega) | rfl)))
      refine CallK.p (ref04_Bytes (x.at_ - p.at_ - 1) (by omega) (by omega)) ?_
      (simp only [go_sem, Nat.reduceAdd, Nat.reduceMul, Int.reduceToNat, Nat.reduceLeDiff, Int.reduceLE, Int.reduceLT, ↓reduceIte, Int.reduceBEq, Int.reduceBNe, Int.reduceAdd, Int.reduceSub, Int.reduceMul, qFin_ret, qFin_normal, ints_append, ints_length, List.append_assoc, hstep, ei]; (try ((refine okTr_and ?_ ?_); (· rfl))))
      (repeat ((with_reducible refine And.intro ?_ ?_); (· first | with_reducible assumption | omega | with_reducible rfl | (simp only [List.length_append, List.length_cons, List.length_nil, List.length_singleton]; omega) | (simp [ints_length, okEl_eq, AV.parts]; done) | (simp [ints_length, okEl_eq, AV.parts]; omega) | rfl)))
      exact ⟨k + 1, hlt, by omega, Wk.to (by simp only [List.length_append, List.length_cons, List.length_nil]; simp; omega) (by simp [leT])⟩
  · have ek : k = l.length := by simp at h; omega
    (simp only [go_sem, Nat.reduceAdd, Nat.reduceMul, Int.reduceToNat, Nat.reduceLeDiff, Int.reduceLE, Int.reduceLT, ↓reduceIte, Int.reduceBEq, Int.reduceBNe, Int.reduceAdd, Int.reduceSub, Int.reduceMul, qFin_ret, qFin_normal]; (try ((refine okTr_and ?_ ?_); (· rfl))))
    ((refine FinK.fin r117 [0] ?_ ?_ ?_ ?_ ?_ ?_); (· decide); (· rfl); (· simp); (· rfl); (· first | with_reducible rfl | (simp [ints_nil, ren_lit, ren_ref, ren_any, ren_agg, ren_tup, ren_sl, ren_fn, tren_none, tren_full, tren_row, oren_cells, oren_row, oren_dead, ixs_z, ixs_1, ixs_2, ixs_3, ren_ints, List.map_cons, List.map_nil, ek, marksB]; done) | rfl); (· simp [resAL, resA1, loadA, oneOr, ints_nil, ren_lit, ren_ref, ren_any, ren_agg, ren_tup, ren_sl, ren_fn, tren_none, tren_full, tren_row, oren_cells, oren_row, oren_dead, ixs_z, ixs_1, ixs_2, ixs_3, ren_ints, List.map_cons, List.map_nil, ek, marksB]))
theorem ref32_Bytes (l : List Mk) (hr : rightM l = true) : Ct Try.prog 117 [slM l] [] (fun n => ownA n (marksB l)) [] (fun _ => [.row 1 (marksB l).length]) := Ct.n (ref32_Bytes0 l hr) (by intros; simp [ints_nil, ren_lit, ren_ref, ren_any, ren_agg, ren_tup, ren_sl, ren_fn, tren_none, tren_full, tren_row, oren_cells, oren_row, oren_dead, ixs_z, ixs_1, ixs_2, ixs_3, ren_ints, List.map_cons, List.map_nil, ixs, List.range'_succ, ren_ints]) (by intros; simp [ints_nil, ren_lit, ren_ref, ren_any, ren_agg, ren_tup, ren_sl, ren_fn, tren_none, tren_full, tren_row, oren_cells, oren_row, oren_dead, ixs_z, ixs_1, ixs_2, ixs_3, ren_ints, List.map_cons, List.map_nil, ixs, List.range'_succ, ren_ints]) (by intros; simp [ints_nil, ren_lit, ren_ref, ren_any, ren_agg, ren_tup, ren_sl, ren_fn, tren_none, tren_full, tren_row, oren_cells, oren_row, oren_dead, ixs_z, ixs_1, ixs_2, ixs_3, ren_ints, List.map_cons, List.map_nil, flt])
end Go.Proofs.Ytgphhganepjaiaa
end
