/-
  Contracts of chapter 12: written tokens expanded by the reference; how many bytes they make.
-/
import Derived.Test.YtpjkmidjjodplaaK31
import Derived.Test.YtpjkmidjjodplaaP11
set_option linter.all false
set_option linter.unusedSimpArgs false
set_option linter.unusedVariables false
set_option linter.unnecessarySimpa false
namespace Go.Proofs.Ytpjkmidjjodplaa
open Go.RowKit

/-- How many bytes a token makes, by its first number. -/
def headN (x : Int) : Int := if x % 2 = 0 ∧ x / 2 < 1048576 then x / 2 + 1 else if x % 2 = 1 ∧ x / 2 ≤ 1048572 then x / 2 + 4 else 0
theorem headN_range {x : Int} (h0 : 0 ≤ x) : 0 ≤ headN x ∧ headN x ≤ 1048576 := by
  unfold headN; split
  · omega
  · split <;> omega
theorem ref12_head0 (x : Int) (h0 : 0 ≤ x) (h1 : x < 18446744073709551616) : Does Try.prog 96 [uA x] [] (iA (headN x)) [] := by
  have em : x.tmod 2 = x % 2 := Int.tmod_eq_emod_of_nonneg h0
  have ed : IntKind.u64.wrap (x.tdiv 2) = x / 2 := by rw [Int.tdiv_eq_ediv_of_nonneg h0, IntWalk.u64_in _ (by omega)]
  have e1 : IntKind.i64.wrap (x / 2) = x / 2 := IntWalk.i64_in _ (by omega)
  refine Does.run Try.func96 b96 n96 Try.ntmps96 (by simp only [List.cons_append, List.nil_append, List.length_cons, List.length_nil, Nat.zero_add, Nat.reduceAdd, Nat.reduceSub, List.replicate]; rfl) ?_; simp only [c96, go_sem, Nat.reduceAdd, Nat.reduceMul, Int.reduceToNat, Nat.reduceLeDiff, Int.reduceLE, Int.reduceLT, ↓reduceIte, Int.reduceBEq, Int.reduceBNe, Int.reduceAdd, Int.reduceSub, Int.reduceMul, qFin_ret, qFin_normal, em]; (try ((refine okTr_and ?_ ?_); (· rfl)))
  by_cases c1 : x % 2 = 0
  · have q1 : (x % 2 == 0) = true := by simpa using c1
    have q1' : (x % 2 == 1) = false := by simp only [beq_eq_false_iff_ne, ne_eq]; omega
    by_cases c2 : x / 2 < 1048576
    · have q2 : decide (x / 2 < 1048576) = true := by simpa using c2
      have e2 : IntKind.i64.wrap (x / 2 + 1) = x / 2 + 1 := IntWalk.i64_in _ (by omega)
      have he : headN x = x / 2 + 1 := by unfold headN; rw [if_pos ⟨c1, c2⟩]
      (simp only [go_sem, Nat.reduceAdd, Nat.reduceMul, Int.reduceToNat, Nat.reduceLeDiff, Int.reduceLE, Int.reduceLT, ↓reduceIte, Int.reduceBEq, Int.reduceBNe, Int.reduceAdd, Int.reduceSub, Int.reduceMul, qFin_ret, qFin_normal, q1, ed, q2, e1, e2]; (try ((refine okTr_and ?_ ?_); (· rfl))))
      (repeat ((with_reducible refine And.intro ?_ ?_); (· first | with_reducible assumption | omega | with_reducible rfl | (simp only [List.length_append, List.length_cons, List.length_nil, List.length_singleton]; omega) | (simp [ints_length, okEl_eq, AV.parts]; done) | (simp [ints_length, okEl_eq, AV.parts]; omega) | rfl)))
      ((refine FinK.fin r96 [] ?_ ?_ ?_ ?_ ?_ ?_); (· decide); (· rfl); (· simp); (· rfl); (· first | with_reducible rfl | (simp [ints_nil, ren_lit, ren_ref, ren_any, ren_agg, ren_tup, ren_sl, ren_fn, tren_none, tren_full, tren_row, oren_cells, oren_row, oren_dead, ixs_z, ixs_1, ixs_2, ixs_3, ren_ints, List.map_cons, List.map_nil, he]; done) | rfl); (· simp [resAL, resA1, loadA, oneOr, ints_nil, ren_lit, ren_ref, ren_any, ren_agg, ren_tup, ren_sl, ren_fn, tren_none, tren_full, tren_row, oren_cells, oren_row, oren_dead, ixs_z, ixs_1, ixs_2, ixs_3, ren_ints, List.map_cons, List.map_nil, he]))
    · have q2 : decide (x / 2 < 1048576) = false := by simpa using c2
      have he : headN x = 0 := by unfold headN; rw [if_neg (by omega), if_neg (by omega)]
      (simp only [go_sem, Nat.reduceAdd, Nat.reduceMul, Int.reduceToNat, Nat.reduceLeDiff, Int.reduceLE, Int.reduceLT, ↓reduceIte, Int.reduceBEq, Int.reduceBNe, Int.reduceAdd, Int.reduceSub, Int.reduceMul, qFin_ret, qFin_normal, q1, ed, q2, em, q1']; (try ((refine okTr_and ?_ ?_); (· rfl))))
      (repeat ((with_reducible refine And.intro ?_ ?_); (· first | with_reducible assumption | omega | with_reducible rfl | (simp only [List.length_append, List.length_cons, List.length_nil, List.length_singleton]; omega) | (simp [ints_length, okEl_eq, AV.parts]; done) | (simp [ints_length, okEl_eq, AV.parts]; omega) | rfl)))
      ((refine FinK.fin r96 [] ?_ ?_ ?_ ?_ ?_ ?_); (· decide); (· rfl); (· simp); (· rfl); (· first | with_reducible rfl | (simp [ints_nil, ren_lit, ren_ref, ren_any, ren_agg, ren_tup, ren_sl, ren_fn, tren_none, tren_full, tren_row, oren_cells, oren_row, oren_dead, ixs_z, ixs_1, ixs_2, ixs_3, ren_ints, List.map_cons, List.map_nil, he]; done) | rfl); (· simp [resAL, resA1, loadA, oneOr, ints_nil, ren_lit, ren_ref, ren_any, ren_agg, ren_tup, ren_sl, ren_fn, tren_none, tren_full, tren_row, oren_cells, oren_row, oren_dead, ixs_z, ixs_1, ixs_2, ixs_3, ren_ints, List.map_cons, List.map_nil, he]))
  · have q1 : (x % 2 == 0) = false := by simpa using c1
    have q1' : (x % 2 == 1) = true := by simp only [beq_iff_eq]; omega
    by_cases c2 : x / 2 ≤ 1048572
    · have q2 : decide (x / 2 ≤ 1048572) = true := by simpa using c2
      have e2 : IntKind.i64.wrap (x / 2 + 4) = x / 2 + 4 := IntWalk.i64_in _ (by omega)
      have he : headN x = x / 2 + 4 := by unfold headN; rw [if_neg (by omega), if_pos ⟨by omega, c2⟩]
      (simp only [go_sem, Nat.reduceAdd, Nat.reduceMul, Int.reduceToNat, Nat.reduceLeDiff, Int.reduceLE, Int.reduceLT, ↓reduceIte, Int.reduceBEq, Int.reduceBNe, Int.reduceAdd, Int.reduceSub, Int.reduceMul, qFin_ret, qFin_normal, q1, em, q1', ed, q2, e1, e2]; (try ((refine okTr_and ?_ ?_); (· rfl))))
      (repeat ((with_reducible refine And.intro ?_ ?_); (· first | with_reducible assumption | omega | with_reducible rfl | (simp only [List.length_append, List.length_cons, List.length_nil, List.length_singleton]; omega) | (simp [ints_length, okEl_eq, AV.parts]; done) | (simp [ints_length, okEl_eq, AV.parts]; omega) | rfl)))
      ((refine FinK.fin r96 [] ?_ ?_ ?_ ?_ ?_ ?_); (· decide); (· rfl); (· simp); (· rfl); (· first | with_reducible rfl | (simp [ints_nil, ren_lit, ren_ref, ren_any, ren_agg, ren_tup, ren_sl, ren_fn, tren_none, tren_full, tren_row, oren_cells, oren_row, oren_dead, ixs_z, ixs_1, ixs_2, ixs_3, ren_ints, List.map_cons, List.map_nil, he]; done) | rfl); (· simp [resAL, resA1, loadA, oneOr, ints_nil, ren_lit, ren_ref, ren_any, ren_agg, ren_tup, ren_sl, ren_fn, tren_none, tren_full, tren_row, oren_cells, oren_row, oren_dead, ixs_z, ixs_1, ixs_2, ixs_3, ren_ints, List.map_cons, List.map_nil, he]))
    · have q2 : decide (x / 2 ≤ 1048572) = false := by simpa using c2
      have he : headN x = 0 := by unfold headN; rw [if_neg (by omega), if_neg (by omega)]
      (simp only [go_sem, Nat.reduceAdd, Nat.reduceMul, Int.reduceToNat, Nat.reduceLeDiff, Int.reduceLE, Int.reduceLT, ↓reduceIte, Int.reduceBEq, Int.reduceBNe, Int.reduceAdd, Int.reduceSub, Int.reduceMul, qFin_ret, qFin_normal, q1, em, q1', ed, q2]; (try ((refine okTr_and ?_ ?_); (· rfl))))
      (repeat ((with_reducible refine And.intro ?_ ?_); (· first | with_reducible assumption | omega | with_reducible rfl | (simp only [List.length_append, List.length_cons, List.length_nil, List.length_singleton]; omega) | (simp [ints_length, okEl_eq, AV.parts]; done) | (simp [ints_length, okEl_eq, AV.parts]; omega) | rfl)))
      ((refine FinK.fin r96 [] ?_ ?_ ?_ ?_ ?_ ?_); (· decide); (· rfl); (· simp); (· rfl); (· first | with_reducible rfl | (simp [ints_nil, ren_lit, ren_ref, ren_any, ren_agg, ren_tup, ren_sl, ren_fn, tren_none, tren_full, tren_row, oren_cells, oren_row, oren_dead, ixs_z, ixs_1, ixs_2, ixs_3, ren_ints, List.map_cons, List.map_nil, he]; done) | rfl); (· simp [resAL, resA1, loadA, oneOr, ints_nil, ren_lit, ren_ref, ren_any, ren_agg, ren_tup, ren_sl, ren_fn, tren_none, tren_full, tren_row, oren_cells, oren_row, oren_dead, ixs_z, ixs_1, ixs_2, ixs_3, ren_ints, List.map_cons, List.map_nil, he]))
theorem ref12_head (x : Int) (h0 : 0 ≤ x) (h1 : x < 18446744073709551616) : Ct Try.prog 96 [uA x] [] (fun _ => iA (headN x)) [] (fun _ => []) := (ref12_head0 x h0 h1).toCt (by intros; simp [ints_nil, ren_lit, ren_ref, ren_any, ren_agg, ren_tup, ren_sl, ren_fn, tren_none, tren_full, tren_row, oren_cells, oren_row, oren_dead, ixs_z, ixs_1, ixs_2, ixs_3, ren_ints, List.map_cons, List.map_nil, ixs, List.range'_succ, ren_ints]) (by intros; simp [ints_nil, ren_lit, ren_ref, ren_any, ren_agg, ren_tup, ren_sl, ren_fn, tren_none, tren_full, tren_row, oren_cells, oren_row, oren_dead, ixs_z, ixs_1, ixs_2, ixs_3, ren_ints, List.map_cons, List.map_nil, ixs, List.range'_succ, ren_ints])
theorem thead_head {s : RS} (h : ROk s) (hc : s.vint.1.code = 0) : (0 < headN s.vint.2 → s.thead.1 = s.vint.1 ∧ s.thead.2.2 = headN s.vint.2) ∧ (¬ 0 < headN s.vint.2 → ¬ s.thead.1.code = 0) := by
  have hv := vint_range (s := s) h.bys
  unfold RS.thead headN
  rw [if_pos hc]
  by_cases h1 : s.vint.2 % 2 = 1
  · rw [if_pos h1, if_neg (show ¬ (s.vint.2 % 2 = 0 ∧ s.vint.2 / 2 < 1048576) by omega)]
    by_cases h2 : 1048572 < s.vint.2 / 2
    · rw [if_pos h2, if_neg (by omega)]
      exact ⟨fun h => by omega, fun _ => fail_no hc (by decide)⟩
    · rw [if_neg h2, if_pos ⟨h1, by omega⟩]
      exact ⟨fun _ => ⟨rfl, rfl⟩, fun h => by omega⟩
  · rw [if_neg h1]
    by_cases h2 : 1048575 < s.vint.2 / 2
    · rw [if_pos h2, if_neg (by omega), if_neg (by omega)]
      exact ⟨fun h => by omega, fun _ => fail_no hc (by decide)⟩
    · rw [if_neg h2, if_pos ⟨by omega, by omega⟩]
      exact ⟨fun _ => ⟨rfl, rfl⟩, fun h => by omega⟩
theorem thead_novint {s : RS} (hc : ¬ s.vint.1.code = 0) : ¬ s.thead.1.code = 0 := by
  unfold RS.thead; rw [if_neg hc]; exact hc
theorem token_nohead {s : RS} (hc : ¬ s.thead.1.code = 0) : s.token = (s.thead.1, tk0) := by
  unfold RS.token; rw [if_neg hc]
set_option maxRecDepth 100000 in
theorem ref12_Bytes0 (b : List Int) (bound : Int) (b0 : -9223372036854775808 ≤ bound) (b1 : bound ≤ 100000000) (hb : Bys b) (hn : b.length ≤ 1000000) : Does Try.prog 48 [slA .u8 b, iA bound] [] (expA (expB bound (RS.new b) [])) [] := by
  obtain ⟨E, hE⟩ : ∃ E, expB bound (RS.new b) [] = E := ⟨_, rfl⟩
  rw [hE]
  refine Does.run Try.func48 b48 n48 Try.ntmps48 (by simp only [List.cons_append, List.nil_append, List.length_cons, List.length_nil, Nat.zero_add, Nat.reduceAdd, Nat.reduceSub, List.replicate]; rfl) ?_; simp only [c48, go_sem, Nat.reduceAdd, Nat.reduceMul, Int.reduceToNat, Nat.reduceLeDiff, Int.reduceLE, Int.reduceLT, ↓reduceIte, Int.reduceBEq, Int.reduceBNe, Int.reduceAdd, Int.reduceSub, Int.reduceMul, qFin_ret, qFin_normal]; (try ((refine okTr_and ?_ ?_); (· rfl)))
  refine loop_of (α := RS × List Int) (fun a => [slA .u8 b, iA bound, .any, .any, .any, .ref 0 0, .ref 1 0, slA .u8 a.2, .any, .any, .any, .any, .any, .any, .any, .any, .any, .any, .any, .any, .any, .any, .any, .any, .any, .any, .any, .any, .any, .any, .any, .any, .any, .any, .any, .any, .any, .any, .any, .any, .any, .any, .any, .any, .any, .any, .any, .any, .any, .any, .any, .any, .any, .any, .any, .any, .any, .any, .any, .any, .any, .any, .any, .any, .any, .any, .any, .any, .any, .any]) (fun a => [.cells [iA 0, iA 0], .cells [slA .u8 a.1.l, iA a.1.at_, iA a.1.code, iA a.1.fat]]) (fun a => ROk a.1 ∧ a.1.l = b ∧ a.1.code = 0 ∧ (a.2.length : Int) ≤ max bound 0 ∧ expB bound a.1 a.2 = E) (fun a => a.1.left.toNat) (RS.new b, []) ⟨ROk.new hb (by omega), rfl, rfl, by simp; omega, hE⟩ ((Wk.nilk 7 1 rfl).trans (Wk.to (by simp [RS.new]) (by simp [leT, ints]))) ?_
  rintro ⟨s, out⟩ ⟨h1, h2, h3, h4, h5⟩
  simp only at h1 h2 h3 h4 h5
  have hlb : (s.l.length : Int) = b.length := by rw [h2]
  (simp only [go_sem, Nat.reduceAdd, Nat.reduceMul, Int.reduceToNat, Nat.reduceLeDiff, Int.reduceLE, Int.reduceLT, ↓reduceIte, Int.reduceBEq, Int.reduceBNe, Int.reduceAdd, Int.reduceSub, Int.reduceMul, qFin_ret, qFin_normal, ints_length]; (try ((refine okTr_and ?_ ?_); (· rfl))))
  by_cases hl : 0 < s.left
  · have q : decide (s.at_ < (b.length : Int)) = true := by unfold RS.left at hl; simp only [decide_eq_true_eq]; omega
    have hv := vint_range (s := s) h1.bys
    have hnr := headN_range (x := s.vint.2) hv.1
    have hk := token_keep h1
    (simp only [go_sem, Nat.reduceAdd, Nat.reduceMul, Int.reduceToNat, Nat.reduceLeDiff, Int.reduceLE, Int.reduceLT, ↓reduceIte, Int.reduceBEq, Int.reduceBNe, Int.reduceAdd, Int.reduceSub, Int.reduceMul, qFin_ret, qFin_normal, q]; (try ((refine okTr_and ?_ ?_); (· rfl))))
    refine CallK.p (ref04_Read s h1) ?_
    -- the token is bad
    by_cases hc : s.vint.1.code = 0
    · have q1 : (s.vint.1.code == 0) = true := by simpa using hc
      obtain ⟨t1, t2⟩ := thead_head h1 hc
      (simp only [go_sem, Nat.reduceAdd, Nat.reduceMul, Int.reduceToNat, Nat.reduceLeDiff, Int.reduceLE, Int.reduceLT, ↓reduceIte, Int.reduceBEq, Int.reduceBNe, Int.reduceAdd, Int.reduceSub, Int.reduceMul, qFin_ret, qFin_normal, q1]; (try ((refine okTr_and ?_ ?_); (· rfl))))
      refine CallK.p (ref12_head s.vint.2 hv.1 hv.2) ?_
      by_cases hn0 : 0 < headN s.vint.2
      · have q2 : decide (0 < headN s.vint.2) = true := by simpa using hn0
        obtain ⟨u1, u2⟩ := t1 hn0
        have hh : s.thead.1.code = 0 := by rw [u1]; exact hc
        have ew : IntKind.i64.wrap ((out.length : Int) + headN s.vint.2) = out.length + headN s.vint.2 := IntWalk.i64_in _ (by omega)
        (simp only [go_sem, Nat.reduceAdd, Nat.reduceMul, Int.reduceToNat, Nat.reduceLeDiff, Int.reduceLE, Int.reduceLT, ↓reduceIte, Int.reduceBEq, Int.reduceBNe, Int.reduceAdd, Int.reduceSub, Int.reduceMul, qFin_ret, qFin_normal, q2, ints_length]; (try ((refine okTr_and ?_ ?_); (· rfl))))
        refine CallK.p (ref12_head s.vint.2 hv.1 hv.2) ?_
        by_cases hb2 : bound < (out.length : Int) + headN s.vint.2
        · have q3 : decide (bound < (out.length : Int) + headN s.vint.2) = true := by simpa using hb2
          have he : E = ([], (11, s.at_)) := by rw [← h5]; exact expB_over hl hh (by rw [u2]; exact hb2)
          (simp only [go_sem, Nat.reduceAdd, Nat.reduceMul, Int.reduceToNat, Nat.reduceLeDiff, Int.reduceLE, Int.reduceLT, ↓reduceIte, Int.reduceBEq, Int.reduceBNe, Int.reduceAdd, Int.reduceSub, Int.reduceMul, qFin_ret, qFin_normal, ew, q3]; (try ((refine okTr_and ?_ ?_); (· rfl))))
          refine CallK.p (ref01_At 11 s.at_) ?_; (simp only [go_sem, Nat.reduceAdd, Nat.reduceMul, Int.reduceToNat, Nat.reduceLeDiff, Int.reduceLE, Int.reduceLT, ↓reduceIte, Int.reduceBEq, Int.reduceBNe, Int.reduceAdd, Int.reduceSub, Int.reduceMul, qFin_ret, qFin_normal]; (try ((refine okTr_and ?_ ?_); (· rfl))))
          (refine FinK.untag 4 rfl ?_; simp only [untag1_sl, List.set_cons_zero, List.set_cons_succ])
          ((refine FinK.fin r48 [] ?_ ?_ ?_ ?_ ?_ ?_); (· decide); (· rfl); (· simp); (· rfl); (· first | with_reducible rfl | (simp [ints_nil, ren_lit, ren_ref, ren_any, ren_agg, ren_tup, ren_sl, ren_fn, tren_none, tren_full, tren_row, oren_cells, oren_row, oren_dead, ixs_z, ixs_1, ixs_2, ixs_3, ren_ints, List.map_cons, List.map_nil, he, flt]; done) | rfl); (· simp [resAL, resA1, loadA, oneOr, ints_nil, ren_lit, ren_ref, ren_any, ren_agg, ren_tup, ren_sl, ren_fn, tren_none, tren_full, tren_row, oren_cells, oren_row, oren_dead, ixs_z, ixs_1, ixs_2, ixs_3, ren_ints, List.map_cons, List.map_nil, he, flt]))
        · have q3 : decide (bound < (out.length : Int) + headN s.vint.2) = false := by simpa using hb2
          (simp only [go_sem, Nat.reduceAdd, Nat.reduceMul, Int.reduceToNat, Nat.reduceLeDiff, Int.reduceLE, Int.reduceLT, ↓reduceIte, Int.reduceBEq, Int.reduceBNe, Int.reduceAdd, Int.reduceSub, Int.reduceMul, qFin_ret, qFin_normal, ew, q3]; (try ((refine okTr_and ?_ ?_); (· rfl))))
          refine CallK.p (ref11_Read s h1) ?_
          by_cases ht : s.token.1.code = 0
          · have q4 : (s.token.1.code != 0) = false := by simpa using ht
            by_cases ho : (out.length : Int) < s.token.2.off
            · have q5 : decide ((out.length : Int) < s.token.2.off) = true := by simpa using ho
              have he : E = ([], (10, s.vint.1.at_)) := by rw [← h5, expB_far hl hh (by rw [u2]; exact hb2) ht ho, u1]
              (simp only [go_sem, Nat.reduceAdd, Nat.reduceMul, Int.reduceToNat, Nat.reduceLeDiff, Int.reduceLE, Int.reduceLT, ↓reduceIte, Int.reduceBEq, Int.reduceBNe, Int.reduceAdd, Int.reduceSub, Int.reduceMul, qFin_ret, qFin_normal, q4, ints_length, q5]; (try ((refine okTr_and ?_ ?_); (· rfl))))
              refine CallK.p (ref01_At 10 s.vint.1.at_) ?_; (simp only [go_sem, Nat.reduceAdd, Nat.reduceMul, Int.reduceToNat, Nat.reduceLeDiff, Int.reduceLE, Int.reduceLT, ↓reduceIte, Int.reduceBEq, Int.reduceBNe, Int.reduceAdd, Int.reduceSub, Int.reduceMul, qFin_ret, qFin_normal]; (try ((refine okTr_and ?_ ?_); (· rfl))))
              (refine FinK.untag 4 rfl ?_; simp only [untag1_sl, List.set_cons_zero, List.set_cons_succ])
              ((refine FinK.fin r48 [] ?_ ?_ ?_ ?_ ?_ ?_); (· decide); (· rfl); (· simp); (· rfl); (· first | with_reducible rfl | (simp [ints_nil, ren_lit, ren_ref, ren_any, ren_agg, ren_tup, ren_sl, ren_fn, tren_none, tren_full, tren_row, oren_cells, oren_row, oren_dead, ixs_z, ixs_1, ixs_2, ixs_3, ren_ints, List.map_cons, List.map_nil, he, flt]; done) | rfl); (· simp [resAL, resA1, loadA, oneOr, ints_nil, ren_lit, ren_ref, ren_any, ren_agg, ren_tup, ren_sl, ren_fn, tren_none, tren_full, tren_row, oren_cells, oren_row, oren_dead, ixs_z, ixs_1, ixs_2, ixs_3, ren_ints, List.map_cons, List.map_nil, he, flt]))
            · have q5 : decide ((out.length : Int) < s.token.2.off) = false := by simpa using ho
              obtain ⟨i1, i2, i3, i4, i5⟩ := token_is h1 ht
              have hm := (token_made h1 ht).1
              have hst := expB_step (bound := bound) (out := out) h1 hl hh (by rw [u2]; exact hb2) ht ho
              rw [h5] at hst
              have hle := expW_len out i2
              have hlt := token_left h1 ht
              (simp only [go_sem, Nat.reduceAdd, Nat.reduceMul, Int.reduceToNat, Nat.reduceLeDiff, Int.reduceLE, Int.reduceLT, ↓reduceIte, Int.reduceBEq, Int.reduceBNe, Int.reduceAdd, Int.reduceSub, Int.reduceMul, qFin_ret, qFin_normal, q4, ints_length, q5]; (try ((refine okTr_and ?_ ?_); (· rfl))))
              refine CallK.n (ref12_With out s.token.2 i2 (by omega) (by omega)) ?_; (simp only [go_sem, Nat.reduceAdd, Nat.reduceMul, Int.reduceToNat, Nat.reduceLeDiff, Int.reduceLE, Int.reduceLT, ↓reduceIte, Int.reduceBEq, Int.reduceBNe, Int.reduceAdd, Int.reduceSub, Int.reduceMul, qFin_ret, qFin_normal]; (try ((refine okTr_and ?_ ?_); (· rfl))))
              exact ⟨(s.token.1, expW out s.token.2), ⟨hk.1, hk.2.trans h2, ht, by simp only; omega, hst.symm⟩, by simp only; omega, (Wk.untag 7 rfl).trans (Wk.sel [0, 1] (by simp) rfl (by simp) rfl (by simp [ints_nil, ren_lit, ren_ref, ren_any, ren_agg, ren_tup, ren_sl, ren_fn, tren_none, tren_full, tren_row, oren_cells, oren_row, oren_dead, ixs_z, ixs_1, ixs_2, ixs_3, ren_ints, List.map_cons, List.map_nil]) (by simp [selT, ints_nil, ren_lit, ren_ref, ren_any, ren_agg, ren_tup, ren_sl, ren_fn, tren_none, tren_full, tren_row, oren_cells, oren_row, oren_dead, ixs_z, ixs_1, ixs_2, ixs_3, ren_ints, List.map_cons, List.map_nil, untag1_sl]))⟩
          · have q4 : (s.token.1.code != 0) = true := by simpa using ht
            have he : E = ([], (s.token.1.code, s.token.1.fat)) := by rw [← h5]; exact expB_short hl hh (by rw [u2]; exact hb2) ht
            (simp only [go_sem, Nat.reduceAdd, Nat.reduceMul, Int.reduceToNat, Nat.reduceLeDiff, Int.reduceLE, Int.reduceLT, ↓reduceIte, Int.reduceBEq, Int.reduceBNe, Int.reduceAdd, Int.reduceSub, Int.reduceMul, qFin_ret, qFin_normal, q4]; (try ((refine okTr_and ?_ ?_); (· rfl))))
            (refine FinK.untag 4 rfl ?_; simp only [untag1_sl, List.set_cons_zero, List.set_cons_succ])
            ((refine FinK.fin r48 [] ?_ ?_ ?_ ?_ ?_ ?_); (· decide); (· rfl); (· simp); (· rfl); (· first | with_reducible rfl | (simp [ints_nil, ren_lit, ren_ref, ren_any, ren_agg, ren_tup, ren_sl, ren_fn, tren_none, tren_full, tren_row, oren_cells, oren_row, oren_dead, ixs_z, ixs_1, ixs_2, ixs_3, ren_ints, List.map_cons, List.map_nil, he]; done) | rfl); (· simp [resAL, resA1, loadA, oneOr, ints_nil, ren_lit, ren_ref, ren_any, ren_agg, ren_tup, ren_sl, ren_fn, tren_none, tren_full, tren_row, oren_cells, oren_row, oren_dead, ixs_z, ixs_1, ixs_2, ixs_3, ren_ints, List.map_cons, List.map_nil, he]))
      · have q2 : decide (0 < headN s.vint.2) = false := by simpa using hn0
        have hh := t2 hn0
        have htk := token_nohead hh
        have q4 : (s.token.1.code != 0) = true := by rw [htk]; simpa using hh
        have he : E = ([], (s.token.1.code, s.token.1.fat)) := by rw [← h5, expB_head hl hh, htk]
        (simp only [go_sem, Nat.reduceAdd, Nat.reduceMul, Int.reduceToNat, Nat.reduceLeDiff, Int.reduceLE, Int.reduceLT, ↓reduceIte, Int.reduceBEq, Int.reduceBNe, Int.reduceAdd, Int.reduceSub, Int.reduceMul, qFin_ret, qFin_normal, q2]; (try ((refine okTr_and ?_ ?_); (· rfl))))
        refine CallK.p (ref11_Read s h1) ?_
        (simp only [go_sem, Nat.reduceAdd, Nat.reduceMul, Int.reduceToNat, Nat.reduceLeDiff, Int.reduceLE, Int.reduceLT, ↓reduceIte, Int.reduceBEq, Int.reduceBNe, Int.reduceAdd, Int.reduceSub, Int.reduceMul, qFin_ret, qFin_normal, q4]; (try ((refine okTr_and ?_ ?_); (· rfl))))
        (refine FinK.untag 4 rfl ?_; simp only [untag1_sl, List.set_cons_zero, List.set_cons_succ])
        ((refine FinK.fin r48 [] ?_ ?_ ?_ ?_ ?_ ?_); (· decide); (· rfl); (· simp); (· rfl); (· first | with_reducible rfl | (simp [ints_nil, ren_lit, ren_ref, ren_any, ren_agg, ren_tup, ren_sl, ren_fn, tren_none, tren_full, tren_row, oren_cells, oren_row, oren_dead, ixs_z, ixs_1, ixs_2, ixs_3, ren_ints, List.map_cons, List.map_nil, he]; done) | rfl); (· simp [resAL, resA1, loadA, oneOr, ints_nil, ren_lit, ren_ref, ren_any, ren_agg, ren_tup, ren_sl, ren_fn, tren_none, tren_full, tren_row, oren_cells, oren_row, oren_dead, ixs_z, ixs_1, ixs_2, ixs_3, ren_ints, List.map_cons, List.map_nil, he]))
    · have q1 : (s.vint.1.code == 0) = false := by simpa using hc
      have hh := thead_novint hc
      have htk := token_nohead hh
      have q4 : (s.token.1.code != 0) = true := by rw [htk]; simpa using hh
      have he : E = ([], (s.token.1.code, s.token.1.fat)) := by rw [← h5, expB_head hl hh, htk]
      (simp only [go_sem, Nat.reduceAdd, Nat.reduceMul, Int.reduceToNat, Nat.reduceLeDiff, Int.reduceLE, Int.reduceLT, ↓reduceIte, Int.reduceBEq, Int.reduceBNe, Int.reduceAdd, Int.reduceSub, Int.reduceMul, qFin_ret, qFin_normal, q1]; (try ((refine okTr_and ?_ ?_); (· rfl))))
      refine CallK.p (ref11_Read s h1) ?_
      (simp only [go_sem, Nat.reduceAdd, Nat.reduceMul, Int.reduceToNat, Nat.reduceLeDiff, Int.reduceLE, Int.reduceLT, ↓reduceIte, Int.reduceBEq, Int.reduceBNe, Int.reduceAdd, Int.reduceSub, Int.reduceMul, qFin_ret, qFin_normal, q4]; (try ((refine okTr_and ?_ ?_); (· rfl))))
      (refine FinK.untag 4 rfl ?_; simp only [untag1_sl, List.set_cons_zero, List.set_cons_succ])
      ((refine FinK.fin r48 [] ?_ ?_ ?_ ?_ ?_ ?_); (· decide); (· rfl); (· simp); (· rfl); (· first | with_reducible rfl | (simp [ints_nil, ren_lit, ren_ref, ren_any, ren_agg, ren_tup, ren_sl, ren_fn, tren_none, tren_full, tren_row, oren_cells, oren_row, oren_dead, ixs_z, ixs_1, ixs_2, ixs_3, ren_ints, List.map_cons, List.map_nil, he]; done) | rfl); (· simp [resAL, resA1, loadA, oneOr, ints_nil, ren_lit, ren_ref, ren_any, ren_agg, ren_tup, ren_sl, ren_fn, tren_none, tren_full, tren_row, oren_cells, oren_row, oren_dead, ixs_z, ixs_1, ixs_2, ixs_3, ren_ints, List.map_cons, List.map_nil, he]))
  · have q : decide (s.at_ < (b.length : Int)) = false := by unfold RS.left at hl; simp only [decide_eq_false_iff_not]; omega
    have he : E = (out, (0, 0)) := by rw [← h5]; exact expB_end hl
    (simp only [go_sem, Nat.reduceAdd, Nat.reduceMul, Int.reduceToNat, Nat.reduceLeDiff, Int.reduceLE, Int.reduceLT, ↓reduceIte, Int.reduceBEq, Int.reduceBNe, Int.reduceAdd, Int.reduceSub, Int.reduceMul, qFin_ret, qFin_normal, q]; (try ((refine okTr_and ?_ ?_); (· rfl))))
    ((refine FinK.fin r48 [] ?_ ?_ ?_ ?_ ?_ ?_); (· decide); (· rfl); (· simp); (· rfl); (· first | with_reducible rfl | (simp [ints_nil, ren_lit, ren_ref, ren_any, ren_agg, ren_tup, ren_sl, ren_fn, tren_none, tren_full, tren_row, oren_cells, oren_row, oren_dead, ixs_z, ixs_1, ixs_2, ixs_3, ren_ints, List.map_cons, List.map_nil, he]; done) | rfl); (· simp [resAL, resA1, loadA, oneOr, ints_nil, ren_lit, ren_ref, ren_any, ren_agg, ren_tup, ren_sl, ren_fn, tren_none, tren_full, tren_row, oren_cells, oren_row, oren_dead, ixs_z, ixs_1, ixs_2, ixs_3, ren_ints, List.map_cons, List.map_nil, he]))
theorem ref12_Bytes (b : List Int) (bound : Int) (b0 : -9223372036854775808 ≤ bound) (b1 : bound ≤ 100000000) (hb : Bys b) (hn : b.length ≤ 1000000) : Ct Try.prog 48 [slA .u8 b, iA bound] [] (fun _ => expA (expB bound (RS.new b) [])) [] (fun _ => []) := (ref12_Bytes0 b bound b0 b1 hb hn).toCt (by intros; simp [ints_nil, ren_lit, ren_ref, ren_any, ren_agg, ren_tup, ren_sl, ren_fn, tren_none, tren_full, tren_row, oren_cells, oren_row, oren_dead, ixs_z, ixs_1, ixs_2, ixs_3, ren_ints, List.map_cons, List.map_nil, ixs, List.range'_succ, ren_ints]) (by intros; simp [ints_nil, ren_lit, ren_ref, ren_any, ren_agg, ren_tup, ren_sl, ren_fn, tren_none, tren_full, tren_row, oren_cells, oren_row, oren_dead, ixs_z, ixs_1, ixs_2, ixs_3, ren_ints, List.map_cons, List.map_nil, ixs, List.range'_succ, ren_ints])

/-- How many bytes written tokens make, and the fault. -/
def lenT (b : List Int) : Int × (Int × Int) := (tsum (getT b).1, (getT b).2)
abbrev lenA (q : Int × (Int × Int)) : AV := .tup [iA q.1, fltA q.2]
theorem tsum_tk0 (l : List Tk) (t : Tk) (h : t = tk0) : tsum (l ++ [t]) = tsum l := by
  subst h; rw [tsum_snoc]; simp [Tk.made, Tk.run, Tk.copy, tk0]
set_option maxRecDepth 100000 in
theorem expand_Length0 (b : List Int) (hb : Bys b) (hn : b.length ≤ 1000000) : Does Try.prog 49 [slA .u8 b] [] (lenA (lenT b)) [] := by
  have hok : ROk (RS.new b) := ROk.new hb (by omega)
  have hbl : (RS.new b).l.length = b.length := rfl
  refine Does.run Try.func49 b49 n49 Try.ntmps49 (by simp only [List.cons_append, List.nil_append, List.length_cons, List.length_nil, Nat.zero_add, Nat.reduceAdd, Nat.reduceSub, List.replicate]; rfl) ?_; simp only [c49, go_sem, Nat.reduceAdd, Nat.reduceMul, Int.reduceToNat, Nat.reduceLeDiff, Int.reduceLE, Int.reduceLT, ↓reduceIte, Int.reduceBEq, Int.reduceBNe, Int.reduceAdd, Int.reduceSub, Int.reduceMul, qFin_ret, qFin_normal]; (try ((refine okTr_and ?_ ?_); (· rfl)))
  refine CallK.n (cursor_New b) ?_; (simp only [go_sem, Nat.reduceAdd, Nat.reduceMul, Int.reduceToNat, Nat.reduceLeDiff, Int.reduceLE, Int.reduceLT, ↓reduceIte, Int.reduceBEq, Int.reduceBNe, Int.reduceAdd, Int.reduceSub, Int.reduceMul, qFin_ret, qFin_normal]; (try ((refine okTr_and ?_ ?_); (· rfl))))
  refine loop_of (α := RS × List Tk) (fun a => [.any, .any, .any, .ref 0 0, .ref 1 0, iA (tsum a.2), .any, .any, .any, .any, .any, .any, .any, .any, .any, .any, .any, .any, .any, .any, .any, .any, .any, .any, .any, .any, .any, .any, .any, .any, .any, .any, .any, .any, .any, .any, .any]) (fun a => [.cells [iA 0, iA 0], rdr a.1]) (AlT (RS.new b)) muT (RS.new b, []) ⟨hok, by simp, fun _ => Fmt.Al.start hok rfl, fun h => absurd rfl h⟩ (Wk.to (by simp) (by simp [leT, tsum])) ?_
  rintro ⟨t, acc⟩ ⟨h1, h2, h3, h4⟩
  simp only at h1 h2 h3 h4
  (simp only [go_sem, Nat.reduceAdd, Nat.reduceMul, Int.reduceToNat, Nat.reduceLeDiff, Int.reduceLE, Int.reduceLT, ↓reduceIte, Int.reduceBEq, Int.reduceBNe, Int.reduceAdd, Int.reduceSub, Int.reduceMul, qFin_ret, qFin_normal]; (try ((refine okTr_and ?_ ?_); (· rfl))))
  refine CallK.r1 (Reader_Good t 1) rfl ?_
  by_cases hc : t.code = 0
  · have ha := h3 hc
    have hla := ha.len
    have hr := ha.res
    simp only at hr
    (simp only [go_sem, Nat.reduceAdd, Nat.reduceMul, Int.reduceToNat, Nat.reduceLeDiff, Int.reduceLE, Int.reduceLT, ↓reduceIte, Int.reduceBEq, Int.reduceBNe, Int.reduceAdd, Int.reduceSub, Int.reduceMul, qFin_ret, qFin_normal, good_true hc]; (try ((refine okTr_and ?_ ?_); (· rfl))))
    refine CallK.r1 (Reader_Left t 1 h1.ok) rfl ?_
    by_cases hl : 0 < t.left
    · have q : decide (0 < t.left) = true := by simpa using hl
      have hk := token_keep h1
      have hm : muT (t, acc) = t.left.toNat + 1 := by unfold muT; rw [if_pos hc]
      have b1 := tsum_bound (acc ++ [t.token.2])
      have b2 := tsum_ge (acc ++ [t.token.2])
      rw [List.length_append, List.length_singleton] at b1
      have bs := tsum_snoc acc t.token.2
      have es : IntKind.i64.wrap (tsum acc + t.token.2.made) = tsum (acc ++ [t.token.2]) := by rw [IntWalk.i64_in _ (by omega), bs]
      have q2 : decide ((1099511627776 : Int) < tsum (acc ++ [t.token.2])) = false := by simp only [decide_eq_false_iff_not]; omega
      (simp only [go_sem, Nat.reduceAdd, Nat.reduceMul, Int.reduceToNat, Nat.reduceLeDiff, Int.reduceLE, Int.reduceLT, ↓reduceIte, Int.reduceBEq, Int.reduceBNe, Int.reduceAdd, Int.reduceSub, Int.reduceMul, qFin_ret, qFin_normal, q]; (try ((refine okTr_and ?_ ?_); (· rfl))))
      refine CallK.r1 (Reader_At t 1) rfl ?_; (simp only [go_sem, Nat.reduceAdd, Nat.reduceMul, Int.reduceToNat, Nat.reduceLeDiff, Int.reduceLE, Int.reduceLT, ↓reduceIte, Int.reduceBEq, Int.reduceBNe, Int.reduceAdd, Int.reduceSub, Int.reduceMul, qFin_ret, qFin_normal]; (try ((refine okTr_and ?_ ?_); (· rfl))))
      refine CallK.u1 (token_Read t 1 h1) rfl ?_; (simp only [go_sem, Nat.reduceAdd, Nat.reduceMul, Int.reduceToNat, Nat.reduceLeDiff, Int.reduceLE, Int.reduceLT, ↓reduceIte, Int.reduceBEq, Int.reduceBNe, Int.reduceAdd, Int.reduceSub, Int.reduceMul, qFin_ret, qFin_normal]; (try ((refine okTr_and ?_ ?_); (· rfl))))
      refine CallK.p (token_Len t.token.2) ?_; (simp only [go_sem, Nat.reduceAdd, Nat.reduceMul, Int.reduceToNat, Nat.reduceLeDiff, Int.reduceLE, Int.reduceLT, ↓reduceIte, Int.reduceBEq, Int.reduceBNe, Int.reduceAdd, Int.reduceSub, Int.reduceMul, qFin_ret, qFin_normal, es, q2]; (try ((refine okTr_and ?_ ?_); (· rfl))))
      refine ⟨(t.token.1, acc ++ [t.token.2]), ⟨hk.1, by simp; omega, fun h5 => (ha.next tokF_ok hl h5).1, fun h5 => ?_⟩, ?_, Wk.to (by simp) (by simp [leT])⟩
      · have := rest_bad (F := tokF) (s := t) (acc := acc) hc hl h5
        rw [hr] at this; exact this
      · rw [hm]
        unfold muT
        split
        · rename_i h5
          have := (ha.next tokF_ok hl h5).2
          have h6 := left_ge hk.1
          have h7 : (tokF.f t acc).1.left = t.token.1.left := rfl
          rw [h7] at this
          simp only
          omega
        · omega
    · have q : decide (0 < t.left) = false := by simpa using hl
      have he := rest_end (F := tokF) (s := t) (acc := acc) (by omega)
      rw [hr] at he
      have hg : lenT b = (tsum acc, (0, 0)) := by unfold lenT getT; rw [he]; simp only; rw [if_pos hc]
      (simp only [go_sem, Nat.reduceAdd, Nat.reduceMul, Int.reduceToNat, Nat.reduceLeDiff, Int.reduceLE, Int.reduceLT, ↓reduceIte, Int.reduceBEq, Int.reduceBNe, Int.reduceAdd, Int.reduceSub, Int.reduceMul, qFin_ret, qFin_normal, q]; (try ((refine okTr_and ?_ ?_); (· rfl))))
      refine CallK.r1 (Reader_Fault t 1) rfl ?_; (simp only [go_sem, Nat.reduceAdd, Nat.reduceMul, Int.reduceToNat, Nat.reduceLeDiff, Int.reduceLE, Int.reduceLT, ↓reduceIte, Int.reduceBEq, Int.reduceBNe, Int.reduceAdd, Int.reduceSub, Int.reduceMul, qFin_ret, qFin_normal]; (try ((refine okTr_and ?_ ?_); (· rfl))))
      refine CallK.p (fault_Good t.code t.fat) ?_; (simp only [go_sem, Nat.reduceAdd, Nat.reduceMul, Int.reduceToNat, Nat.reduceLeDiff, Int.reduceLE, Int.reduceLT, ↓reduceIte, Int.reduceBEq, Int.reduceBNe, Int.reduceAdd, Int.reduceSub, Int.reduceMul, qFin_ret, qFin_normal, show (t.code == 0) = true from by simpa using hc]; (try ((refine okTr_and ?_ ?_); (· rfl))))
      ((refine FinK.fin r49 [] ?_ ?_ ?_ ?_ ?_ ?_); (· decide); (· rfl); (· simp); (· rfl); (· first | with_reducible rfl | (simp [ints_nil, ren_lit, ren_ref, ren_any, ren_agg, ren_tup, ren_sl, ren_fn, tren_none, tren_full, tren_row, oren_cells, oren_row, oren_dead, ixs_z, ixs_1, ixs_2, ixs_3, ren_ints, List.map_cons, List.map_nil, hg]; done) | rfl); (· simp [resAL, resA1, loadA, oneOr, ints_nil, ren_lit, ren_ref, ren_any, ren_agg, ren_tup, ren_sl, ren_fn, tren_none, tren_full, tren_row, oren_cells, oren_row, oren_dead, ixs_z, ixs_1, ixs_2, ixs_3, ren_ints, List.map_cons, List.map_nil, hg]))
  · have hrs := h4 hc
    have hg : lenT b = (0, (t.code, t.fat)) := by unfold lenT getT; rw [hrs]; simp only; rw [if_neg hc]; rfl
    (simp only [go_sem, Nat.reduceAdd, Nat.reduceMul, Int.reduceToNat, Nat.reduceLeDiff, Int.reduceLE, Int.reduceLT, ↓reduceIte, Int.reduceBEq, Int.reduceBNe, Int.reduceAdd, Int.reduceSub, Int.reduceMul, qFin_ret, qFin_normal, good_false hc]; (try ((refine okTr_and ?_ ?_); (· rfl))))
    refine CallK.r1 (Reader_Fault t 1) rfl ?_; (simp only [go_sem, Nat.reduceAdd, Nat.reduceMul, Int.reduceToNat, Nat.reduceLeDiff, Int.reduceLE, Int.reduceLT, ↓reduceIte, Int.reduceBEq, Int.reduceBNe, Int.reduceAdd, Int.reduceSub, Int.reduceMul, qFin_ret, qFin_normal]; (try ((refine okTr_and ?_ ?_); (· rfl))))
    refine CallK.p (fault_Good t.code t.fat) ?_; (simp only [go_sem, Nat.reduceAdd, Nat.reduceMul, Int.reduceToNat, Nat.reduceLeDiff, Int.reduceLE, Int.reduceLT, ↓reduceIte, Int.reduceBEq, Int.reduceBNe, Int.reduceAdd, Int.reduceSub, Int.reduceMul, qFin_ret, qFin_normal, show (t.code == 0) = false from by simpa using hc]; (try ((refine okTr_and ?_ ?_); (· rfl))))
    ((refine FinK.fin r49 [] ?_ ?_ ?_ ?_ ?_ ?_); (· decide); (· rfl); (· simp); (· rfl); (· first | with_reducible rfl | (simp [ints_nil, ren_lit, ren_ref, ren_any, ren_agg, ren_tup, ren_sl, ren_fn, tren_none, tren_full, tren_row, oren_cells, oren_row, oren_dead, ixs_z, ixs_1, ixs_2, ixs_3, ren_ints, List.map_cons, List.map_nil, hg]; done) | rfl); (· simp [resAL, resA1, loadA, oneOr, ints_nil, ren_lit, ren_ref, ren_any, ren_agg, ren_tup, ren_sl, ren_fn, tren_none, tren_full, tren_row, oren_cells, oren_row, oren_dead, ixs_z, ixs_1, ixs_2, ixs_3, ren_ints, List.map_cons, List.map_nil, hg]))
theorem expand_Length (b : List Int) (hb : Bys b) (hn : b.length ≤ 1000000) : Ct Try.prog 49 [slA .u8 b] [] (fun _ => lenA (lenT b)) [] (fun _ => []) := (expand_Length0 b hb hn).toCt (by intros; simp [ints_nil, ren_lit, ren_ref, ren_any, ren_agg, ren_tup, ren_sl, ren_fn, tren_none, tren_full, tren_row, oren_cells, oren_row, oren_dead, ixs_z, ixs_1, ixs_2, ixs_3, ren_ints, List.map_cons, List.map_nil, ixs, List.range'_succ, ren_ints]) (by intros; simp [ints_nil, ren_lit, ren_ref, ren_any, ren_agg, ren_tup, ren_sl, ren_fn, tren_none, tren_full, tren_row, oren_cells, oren_row, oren_dead, ixs_z, ixs_1, ixs_2, ixs_3, ren_ints, List.map_cons, List.map_nil, ixs, List.range'_succ, ren_ints])
set_option maxRecDepth 100000 in
theorem ref12_Length0 (b : List Int) (hb : Bys b) (hn : b.length ≤ 1000000) : Does Try.prog 50 [slA .u8 b] [] (lenA (lenT b)) [] := by
  have hok : ROk (RS.new b) := ROk.new hb (by omega)
  have hbl : (RS.new b).l.length = b.length := rfl
  refine Does.run Try.func50 b50 n50 Try.ntmps50 (by simp only [List.cons_append, List.nil_append, List.length_cons, List.length_nil, Nat.zero_add, Nat.reduceAdd, Nat.reduceSub, List.replicate]; rfl) ?_; simp only [c50, go_sem, Nat.reduceAdd, Nat.reduceMul, Int.reduceToNat, Nat.reduceLeDiff, Int.reduceLE, Int.reduceLT, ↓reduceIte, Int.reduceBEq, Int.reduceBNe, Int.reduceAdd, Int.reduceSub, Int.reduceMul, qFin_ret, qFin_normal]; (try ((refine okTr_and ?_ ?_); (· rfl)))
  refine loop_of (α := RS × List Tk) (fun a => [slA .u8 b, .any, .any, .ref 0 0, .ref 1 0, iA (tsum a.2), .any, .any, .any, .any, .any, .any, .any, .any, .any, .any, .any, .any, .any, .any, .any, .any, .any, .any, .any, .any, .any, .any, .any, .any, .any, .any, .any, .any, .any, .any, .any, .any]) (fun a => [.cells [iA 0, iA 0], .cells [slA .u8 a.1.l, iA a.1.at_, iA a.1.code, iA a.1.fat]]) (fun a => tokF.Al (RS.new b) a) (fun a => a.1.left.toNat) (RS.new b, []) (Fmt.Al.start hok rfl) (Wk.to (by simp [RS.new]) (by simp [leT, tsum])) ?_
  rintro ⟨t, acc⟩ ha
  have h1 := ha.ok
  have hla := ha.len
  have hr := ha.res
  have hc := ha.code
  have hl' := ha.l
  simp only at h1 hr hc hl'
  have hbl2 : (t.l.length : Int) = b.length := by rw [hl']; rfl
  (simp only [go_sem, Nat.reduceAdd, Nat.reduceMul, Int.reduceToNat, Nat.reduceLeDiff, Int.reduceLE, Int.reduceLT, ↓reduceIte, Int.reduceBEq, Int.reduceBNe, Int.reduceAdd, Int.reduceSub, Int.reduceMul, qFin_ret, qFin_normal, ints_length]; (try ((refine okTr_and ?_ ?_); (· rfl))))
  by_cases hl : 0 < t.left
  · have q : decide (t.at_ < (b.length : Int)) = true := by unfold RS.left at hl; simp only [decide_eq_true_eq]; omega
    have hk := token_keep h1
    (simp only [go_sem, Nat.reduceAdd, Nat.reduceMul, Int.reduceToNat, Nat.reduceLeDiff, Int.reduceLE, Int.reduceLT, ↓reduceIte, Int.reduceBEq, Int.reduceBNe, Int.reduceAdd, Int.reduceSub, Int.reduceMul, qFin_ret, qFin_normal, q]; (try ((refine okTr_and ?_ ?_); (· rfl))))
    refine CallK.p (ref11_Read t h1) ?_
    by_cases hc2 : t.token.1.code = 0
    · have q2 : (t.token.1.code != 0) = false := by simpa using hc2
      have hnx := ha.next tokF_ok hl hc2
      have hl3 := hnx.1.len
      rw [List.length_append, List.length_singleton] at hl3
      have b1 := tsum_bound (acc ++ [t.token.2])
      have b2 := tsum_ge (acc ++ [t.token.2])
      rw [List.length_append, List.length_singleton] at b1
      have bs := tsum_snoc acc t.token.2
      have es : IntKind.i64.wrap (tsum acc + t.token.2.made) = tsum (acc ++ [t.token.2]) := by rw [IntWalk.i64_in _ (by omega), bs]
      have q3 : decide ((1099511627776 : Int) < tsum (acc ++ [t.token.2])) = false := by simp only [decide_eq_false_iff_not]; omega
      (simp only [go_sem, Nat.reduceAdd, Nat.reduceMul, Int.reduceToNat, Nat.reduceLeDiff, Int.reduceLE, Int.reduceLT, ↓reduceIte, Int.reduceBEq, Int.reduceBNe, Int.reduceAdd, Int.reduceSub, Int.reduceMul, qFin_ret, qFin_normal, q2]; (try ((refine okTr_and ?_ ?_); (· rfl))))
      refine CallK.p (ref11_Len t.token.2) ?_; (simp only [go_sem, Nat.reduceAdd, Nat.reduceMul, Int.reduceToNat, Nat.reduceLeDiff, Int.reduceLE, Int.reduceLT, ↓reduceIte, Int.reduceBEq, Int.reduceBNe, Int.reduceAdd, Int.reduceSub, Int.reduceMul, qFin_ret, qFin_normal, es, q3]; (try ((refine okTr_and ?_ ?_); (· rfl))))
      have hlg := left_ge hk.1
      exact ⟨(t.token.1, acc ++ [t.token.2]), hnx.1, by have := hnx.2; have h7 : (tokF.f t acc).1.left = t.token.1.left := rfl; rw [h7] at this; simp only; omega, Wk.sel [0, 1] (by simp) rfl (by simp) rfl (by simp [ints_nil, ren_lit, ren_ref, ren_any, ren_agg, ren_tup, ren_sl, ren_fn, tren_none, tren_full, tren_row, oren_cells, oren_row, oren_dead, ixs_z, ixs_1, ixs_2, ixs_3, ren_ints, List.map_cons, List.map_nil]) (by simp [selT, ints_nil, ren_lit, ren_ref, ren_any, ren_agg, ren_tup, ren_sl, ren_fn, tren_none, tren_full, tren_row, oren_cells, oren_row, oren_dead, ixs_z, ixs_1, ixs_2, ixs_3, ren_ints, List.map_cons, List.map_nil])⟩
    · have q2 : (t.token.1.code != 0) = true := by simpa using hc2
      have he := rest_bad (F := tokF) (s := t) (acc := acc) hc hl hc2
      rw [hr] at he
      have he' : tokF.rest (RS.new b) [] = (t.token.1, []) := he
      have hg : lenT b = (0, (t.token.1.code, t.token.1.fat)) := by unfold lenT getT; rw [he']; simp only; rw [if_neg hc2]; rfl
      (simp only [go_sem, Nat.reduceAdd, Nat.reduceMul, Int.reduceToNat, Nat.reduceLeDiff, Int.reduceLE, Int.reduceLT, ↓reduceIte, Int.reduceBEq, Int.reduceBNe, Int.reduceAdd, Int.reduceSub, Int.reduceMul, qFin_ret, qFin_normal, q2]; (try ((refine okTr_and ?_ ?_); (· rfl))))
      ((refine FinK.fin r50 [] ?_ ?_ ?_ ?_ ?_ ?_); (· decide); (· rfl); (· simp); (· rfl); (· first | with_reducible rfl | (simp [ints_nil, ren_lit, ren_ref, ren_any, ren_agg, ren_tup, ren_sl, ren_fn, tren_none, tren_full, tren_row, oren_cells, oren_row, oren_dead, ixs_z, ixs_1, ixs_2, ixs_3, ren_ints, List.map_cons, List.map_nil, hg]; done) | rfl); (· simp [resAL, resA1, loadA, oneOr, ints_nil, ren_lit, ren_ref, ren_any, ren_agg, ren_tup, ren_sl, ren_fn, tren_none, tren_full, tren_row, oren_cells, oren_row, oren_dead, ixs_z, ixs_1, ixs_2, ixs_3, ren_ints, List.map_cons, List.map_nil, hg]))
  · have q : decide (t.at_ < (b.length : Int)) = false := by unfold RS.left at hl; simp only [decide_eq_false_iff_not]; omega
    have he := rest_end (F := tokF) (s := t) (acc := acc) (by omega)
    rw [hr] at he
    have hg : lenT b = (tsum acc, (0, 0)) := by unfold lenT getT; rw [he]; simp only; rw [if_pos hc]
    (simp only [go_sem, Nat.reduceAdd, Nat.reduceMul, Int.reduceToNat, Nat.reduceLeDiff, Int.reduceLE, Int.reduceLT, ↓reduceIte, Int.reduceBEq, Int.reduceBNe, Int.reduceAdd, Int.reduceSub, Int.reduceMul, qFin_ret, qFin_normal, q]; (try ((refine okTr_and ?_ ?_); (· rfl))))
    ((refine FinK.fin r50 [] ?_ ?_ ?_ ?_ ?_ ?_); (· decide); (· rfl); (· simp); (· rfl); (· first | with_reducible rfl | (simp [ints_nil, ren_lit, ren_ref, ren_any, ren_agg, ren_tup, ren_sl, ren_fn, tren_none, tren_full, tren_row, oren_cells, oren_row, oren_dead, ixs_z, ixs_1, ixs_2, ixs_3, ren_ints, List.map_cons, List.map_nil, hg]; done) | rfl); (· simp [resAL, resA1, loadA, oneOr, ints_nil, ren_lit, ren_ref, ren_any, ren_agg, ren_tup, ren_sl, ren_fn, tren_none, tren_full, tren_row, oren_cells, oren_row, oren_dead, ixs_z, ixs_1, ixs_2, ixs_3, ren_ints, List.map_cons, List.map_nil, hg]))
theorem ref12_Length (b : List Int) (hb : Bys b) (hn : b.length ≤ 1000000) : Ct Try.prog 50 [slA .u8 b] [] (fun _ => lenA (lenT b)) [] (fun _ => []) := (ref12_Length0 b hb hn).toCt (by intros; simp [ints_nil, ren_lit, ren_ref, ren_any, ren_agg, ren_tup, ren_sl, ren_fn, tren_none, tren_full, tren_row, oren_cells, oren_row, oren_dead, ixs_z, ixs_1, ixs_2, ixs_3, ren_ints, List.map_cons, List.map_nil, ixs, List.range'_succ, ren_ints]) (by intros; simp [ints_nil, ren_lit, ren_ref, ren_any, ren_agg, ren_tup, ren_sl, ren_fn, tren_none, tren_full, tren_row, oren_cells, oren_row, oren_dead, ixs_z, ixs_1, ixs_2, ixs_3, ren_ints, List.map_cons, List.map_nil, ixs, List.range'_succ, ren_ints])
end Go.Proofs.Ytpjkmidjjodplaa
