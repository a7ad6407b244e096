/-
  Chapter 5: ZigzagSigns, ZigzagReads, ZigzagRises.
-/
import Derived.Test.YtgphhganepjaiaaQ3
import Derived.Test.YtgphhganepjaiaaP1
import Derived.Test.YtgphhganepjaiaaTop
set_option linter.all false
set_option linter.unusedSimpArgs false
set_option linter.unusedVariables false
set_option linter.unnecessarySimpa false
namespace Go.Proofs.Ytgphhganepjaiaa
open Go.RowKit

theorem put_20 (v : List Int) (h : v.length ≤ 20) : ((WS.new 20).put v).bytes = v ∧ ((WS.new 20).put v).l.length ≤ 20 := by
  rw [WS.put_ok (by rfl) (by simp [WS.new]; omega)]
  refine ⟨by simp [WS.bytes, WS.new], ?_⟩
  simp [WS.new]; omega
theorem law_ZigzagSigns (n x : Int) (l : List Int) (n0 : -9223372036854775808 ≤ n) (n1 : n < 9223372036854775808) (x0 : 0 ≤ x) (x1 : x < 18446744073709551616) (hl : Bys l) : Does Try.prog 18 [lA n, uA x, slA .u8 l] [] (bA true) [] := by
  have hz := zig_range n0 n1
  have hg := zag_range x0 x1
  have z1 := zag_zig n
  have z2 := zig_zag x0
  have hv := (vb_len (zig n)).2
  have hvb := vb_by hz.1 hz.2
  obtain ⟨p1, p2⟩ := put_20 (vb (zig n)) (by omega)
  refine Does.run Try.func18 b18 n18 Try.ntmps18 (by simp only [List.cons_append, List.nil_append, List.length_cons, List.length_nil, Nat.zero_add, Nat.reduceAdd, Nat.reduceSub, List.replicate]; rfl) ?_; simp only [c18, go_sem, Nat.reduceAdd, Nat.reduceMul, Int.reduceToNat, Nat.reduceLeDiff, Int.reduceLE, Int.reduceLT, ↓reduceIte, Int.reduceBEq, Int.reduceBNe, Int.reduceAdd, Int.reduceSub, Int.reduceMul, qFin_ret, qFin_normal, ints_length]; (try ((refine okTr_and ?_ ?_); (· rfl)))
  refine cdK_split (fun h => ?_) (fun h => ?_)
  · (simp only [go_sem, Nat.reduceAdd, Nat.reduceMul, Int.reduceToNat, Nat.reduceLeDiff, Int.reduceLE, Int.reduceLT, ↓reduceIte, Int.reduceBEq, Int.reduceBNe, Int.reduceAdd, Int.reduceSub, Int.reduceMul, qFin_ret, qFin_normal]; (try ((refine okTr_and ?_ ?_); (· rfl))))
    refine CallK.p (live05) ?_
    (simp only [go_sem, Nat.reduceAdd, Nat.reduceMul, Int.reduceToNat, Nat.reduceLeDiff, Int.reduceLE, Int.reduceLT, ↓reduceIte, Int.reduceBEq, Int.reduceBNe, Int.reduceAdd, Int.reduceSub, Int.reduceMul, qFin_ret, qFin_normal]; (try ((refine okTr_and ?_ ?_); (· rfl))))
    ((refine FinK.fin r18 [] ?_ ?_ ?_ ?_ ?_ ?_); (· decide); (· rfl); (· simp); (· rfl); (· first | with_reducible rfl | (simp [ints_nil, ren_lit, ren_ref, ren_any, ren_agg, ren_tup, ren_sl, ren_fn, tren_none, tren_full, tren_row, oren_cells, oren_row, oren_dead, ixs_z, ixs_1, ixs_2, ixs_3, ren_ints, List.map_cons, List.map_nil]; done) | rfl); (· simp [resAL, resA1, loadA, oneOr, ints_nil, ren_lit, ren_ref, ren_any, ren_agg, ren_tup, ren_sl, ren_fn, tren_none, tren_full, tren_row, oren_cells, oren_row, oren_dead, ixs_z, ixs_1, ixs_2, ixs_3, ren_ints, List.map_cons, List.map_nil]))
  · have hn : l.length ≤ 140737488355328 := by simp at h; omega
    have hok : ROk (RS.new l) := ROk.new hl hn
    have hvr := vint_range (s := RS.new l) hl
    (simp only [go_sem, Nat.reduceAdd, Nat.reduceMul, Int.reduceToNat, Nat.reduceLeDiff, Int.reduceLE, Int.reduceLT, ↓reduceIte, Int.reduceBEq, Int.reduceBNe, Int.reduceAdd, Int.reduceSub, Int.reduceMul, qFin_ret, qFin_normal]; (try ((refine okTr_and ?_ ?_); (· rfl))))
    refine CallK.p (zigzag_Zig n n0 n1) ?_
    (simp only [go_sem, Nat.reduceAdd, Nat.reduceMul, Int.reduceToNat, Nat.reduceLeDiff, Int.reduceLE, Int.reduceLT, ↓reduceIte, Int.reduceBEq, Int.reduceBNe, Int.reduceAdd, Int.reduceSub, Int.reduceMul, qFin_ret, qFin_normal]; (try ((refine okTr_and ?_ ?_); (· rfl))))
    refine CallK.p (ref05_Zig n n0 n1) ?_
    (simp only [go_sem, Nat.reduceAdd, Nat.reduceMul, Int.reduceToNat, Nat.reduceLeDiff, Int.reduceLE, Int.reduceLT, ↓reduceIte, Int.reduceBEq, Int.reduceBNe, Int.reduceAdd, Int.reduceSub, Int.reduceMul, qFin_ret, qFin_normal]; (try ((refine okTr_and ?_ ?_); (· rfl))))
    refine CallK.p (zigzag_Zag x x0 x1) ?_
    (simp only [go_sem, Nat.reduceAdd, Nat.reduceMul, Int.reduceToNat, Nat.reduceLeDiff, Int.reduceLE, Int.reduceLT, ↓reduceIte, Int.reduceBEq, Int.reduceBNe, Int.reduceAdd, Int.reduceSub, Int.reduceMul, qFin_ret, qFin_normal]; (try ((refine okTr_and ?_ ?_); (· rfl))))
    refine CallK.p (ref05_Zag x x0 x1) ?_
    (simp only [go_sem, Nat.reduceAdd, Nat.reduceMul, Int.reduceToNat, Nat.reduceLeDiff, Int.reduceLE, Int.reduceLT, ↓reduceIte, Int.reduceBEq, Int.reduceBNe, Int.reduceAdd, Int.reduceSub, Int.reduceMul, qFin_ret, qFin_normal]; (try ((refine okTr_and ?_ ?_); (· rfl))))
    refine CallK.p (zigzag_Zig n n0 n1) ?_
    (simp only [go_sem, Nat.reduceAdd, Nat.reduceMul, Int.reduceToNat, Nat.reduceLeDiff, Int.reduceLE, Int.reduceLT, ↓reduceIte, Int.reduceBEq, Int.reduceBNe, Int.reduceAdd, Int.reduceSub, Int.reduceMul, qFin_ret, qFin_normal]; (try ((refine okTr_and ?_ ?_); (· rfl))))
    refine CallK.p (zigzag_Zag (zig n) hz.1 hz.2) ?_
    (simp only [go_sem, Nat.reduceAdd, Nat.reduceMul, Int.reduceToNat, Nat.reduceLeDiff, Int.reduceLE, Int.reduceLT, ↓reduceIte, Int.reduceBEq, Int.reduceBNe, Int.reduceAdd, Int.reduceSub, Int.reduceMul, qFin_ret, qFin_normal, z1]; (try ((refine okTr_and ?_ ?_); (· rfl))))
    refine CallK.p (zigzag_Zag x x0 x1) ?_
    (simp only [go_sem, Nat.reduceAdd, Nat.reduceMul, Int.reduceToNat, Nat.reduceLeDiff, Int.reduceLE, Int.reduceLT, ↓reduceIte, Int.reduceBEq, Int.reduceBNe, Int.reduceAdd, Int.reduceSub, Int.reduceMul, qFin_ret, qFin_normal]; (try ((refine okTr_and ?_ ?_); (· rfl))))
    refine CallK.p (zigzag_Zig (zag x) hg.1 hg.2) ?_
    (simp only [go_sem, Nat.reduceAdd, Nat.reduceMul, Int.reduceToNat, Nat.reduceLeDiff, Int.reduceLE, Int.reduceLT, ↓reduceIte, Int.reduceBEq, Int.reduceBNe, Int.reduceAdd, Int.reduceSub, Int.reduceMul, qFin_ret, qFin_normal, z2]; (try ((refine okTr_and ?_ ?_); (· rfl))))
    refine CallK.n (pen_New 20) ?_
    (simp only [go_sem, Nat.reduceAdd, Nat.reduceMul, Int.reduceToNat, Nat.reduceLeDiff, Int.reduceLE, Int.reduceLT, ↓reduceIte, Int.reduceBEq, Int.reduceBNe, Int.reduceAdd, Int.reduceSub, Int.reduceMul, qFin_ret, qFin_normal]; (try ((refine okTr_and ?_ ?_); (· rfl))))
    refine CallK.u2 (zigzag_Put (WS.new 20) n _ _ (by decide) n0 n1 (WS.ok.new (by decide)) (by decide)) rfl rfl ?_
    (simp only [go_sem, Nat.reduceAdd, Nat.reduceMul, Int.reduceToNat, Nat.reduceLeDiff, Int.reduceLE, Int.reduceLT, ↓reduceIte, Int.reduceBEq, Int.reduceBNe, Int.reduceAdd, Int.reduceSub, Int.reduceMul, qFin_ret, qFin_normal]; (try ((refine okTr_and ?_ ?_); (· rfl))))
    refine CallK.r2 (Writer_Bytes _ _ _ (by decide) (by omega)) rfl rfl ?_
    (simp only [go_sem, Nat.reduceAdd, Nat.reduceMul, Int.reduceToNat, Nat.reduceLeDiff, Int.reduceLE, Int.reduceLT, ↓reduceIte, Int.reduceBEq, Int.reduceBNe, Int.reduceAdd, Int.reduceSub, Int.reduceMul, qFin_ret, qFin_normal, p1]; (try ((refine okTr_and ?_ ?_); (· rfl))))
    refine CallK.n (cursor_New l) ?_
    (simp only [go_sem, Nat.reduceAdd, Nat.reduceMul, Int.reduceToNat, Nat.reduceLeDiff, Int.reduceLE, Int.reduceLT, ↓reduceIte, Int.reduceBEq, Int.reduceBNe, Int.reduceAdd, Int.reduceSub, Int.reduceMul, qFin_ret, qFin_normal]; (try ((refine okTr_and ?_ ?_); (· rfl))))
    refine CallK.p (ref04_Read (RS.new l) hok) ?_
    (simp only [go_sem, Nat.reduceAdd, Nat.reduceMul, Int.reduceToNat, Nat.reduceLeDiff, Int.reduceLE, Int.reduceLT, ↓reduceIte, Int.reduceBEq, Int.reduceBNe, Int.reduceAdd, Int.reduceSub, Int.reduceMul, qFin_ret, qFin_normal]; (try ((refine okTr_and ?_ ?_); (· rfl))))
    refine CallK.p (ref05_Zig n n0 n1) ?_
    (simp only [go_sem, Nat.reduceAdd, Nat.reduceMul, Int.reduceToNat, Nat.reduceLeDiff, Int.reduceLE, Int.reduceLT, ↓reduceIte, Int.reduceBEq, Int.reduceBNe, Int.reduceAdd, Int.reduceSub, Int.reduceMul, qFin_ret, qFin_normal]; (try ((refine okTr_and ?_ ?_); (· rfl))))
    refine CallK.p (ref04_Bytes (zig n) hz.1 hz.2) ?_
    (simp only [go_sem, Nat.reduceAdd, Nat.reduceMul, Int.reduceToNat, Nat.reduceLeDiff, Int.reduceLE, Int.reduceLT, ↓reduceIte, Int.reduceBEq, Int.reduceBNe, Int.reduceAdd, Int.reduceSub, Int.reduceMul, qFin_ret, qFin_normal]; (try ((refine okTr_and ?_ ?_); (· rfl))))
    refine CallK.p (ref02_Same (vb (zig n)) (vb (zig n)) hvb hvb) ?_
    (simp only [go_sem, Nat.reduceAdd, Nat.reduceMul, Int.reduceToNat, Nat.reduceLeDiff, Int.reduceLE, Int.reduceLT, ↓reduceIte, Int.reduceBEq, Int.reduceBNe, Int.reduceAdd, Int.reduceSub, Int.reduceMul, qFin_ret, qFin_normal, same_self]; (try ((refine okTr_and ?_ ?_); (· rfl))))
    refine CallK.u1 (zigzag_Read (RS.new l) _ hok) rfl ?_
    (simp only [go_sem, Nat.reduceAdd, Nat.reduceMul, Int.reduceToNat, Nat.reduceLeDiff, Int.reduceLE, Int.reduceLT, ↓reduceIte, Int.reduceBEq, Int.reduceBNe, Int.reduceAdd, Int.reduceSub, Int.reduceMul, qFin_ret, qFin_normal]; (try ((refine okTr_and ?_ ?_); (· rfl))))
    refine CallK.p (ref05_Zag _ hvr.1 hvr.2) ?_
    (simp only [go_sem, Nat.reduceAdd, Nat.reduceMul, Int.reduceToNat, Nat.reduceLeDiff, Int.reduceLE, Int.reduceLT, ↓reduceIte, Int.reduceBEq, Int.reduceBNe, Int.reduceAdd, Int.reduceSub, Int.reduceMul, qFin_ret, qFin_normal]; (try ((refine okTr_and ?_ ?_); (· rfl))))
    refine CallK.r1 (Reader_Fault _ _) rfl ?_
    (simp only [go_sem, Nat.reduceAdd, Nat.reduceMul, Int.reduceToNat, Nat.reduceLeDiff, Int.reduceLE, Int.reduceLT, ↓reduceIte, Int.reduceBEq, Int.reduceBNe, Int.reduceAdd, Int.reduceSub, Int.reduceMul, qFin_ret, qFin_normal]; (try ((refine okTr_and ?_ ?_); (· rfl))))
    refine CallK.p (live05) ?_
    (simp only [go_sem, Nat.reduceAdd, Nat.reduceMul, Int.reduceToNat, Nat.reduceLeDiff, Int.reduceLE, Int.reduceLT, ↓reduceIte, Int.reduceBEq, Int.reduceBNe, Int.reduceAdd, Int.reduceSub, Int.reduceMul, qFin_ret, qFin_normal]; (try ((refine okTr_and ?_ ?_); (· rfl))))
    ((refine FinK.fin r18 [] ?_ ?_ ?_ ?_ ?_ ?_); (· decide); (· rfl); (· simp); (· rfl); (· first | with_reducible rfl | (simp [ints_nil, ren_lit, ren_ref, ren_any, ren_agg, ren_tup, ren_sl, ren_fn, tren_none, tren_full, tren_row, oren_cells, oren_row, oren_dead, ixs_z, ixs_1, ixs_2, ixs_3, ren_ints, List.map_cons, List.map_nil]; done) | rfl); (· simp [resAL, resA1, loadA, oneOr, ints_nil, ren_lit, ren_ref, ren_any, ren_agg, ren_tup, ren_sl, ren_fn, tren_none, tren_full, tren_row, oren_cells, oren_row, oren_dead, ixs_z, ixs_1, ixs_2, ixs_3, ren_ints, List.map_cons, List.map_nil]))
theorem law_ZigzagReads (l : List Int) (n : Int) (hl : Bys l) : Does Try.prog 19 [slA .u8 l, iA n] [] (bA true) [] := by
  refine Does.run Try.func19 b19 n19 Try.ntmps19 (by simp only [List.cons_append, List.nil_append, List.length_cons, List.length_nil, Nat.zero_add, Nat.reduceAdd, Nat.reduceSub, List.replicate]; rfl) ?_; simp only [c19, go_sem, Nat.reduceAdd, Nat.reduceMul, Int.reduceToNat, Nat.reduceLeDiff, Int.reduceLE, Int.reduceLT, ↓reduceIte, Int.reduceBEq, Int.reduceBNe, Int.reduceAdd, Int.reduceSub, Int.reduceMul, qFin_ret, qFin_normal, ints_length]; (try ((refine okTr_and ?_ ?_); (· rfl)))
  refine cdK_split (fun h => ?_) (fun h => ?_)
  · (simp only [go_sem, Nat.reduceAdd, Nat.reduceMul, Int.reduceToNat, Nat.reduceLeDiff, Int.reduceLE, Int.reduceLT, ↓reduceIte, Int.reduceBEq, Int.reduceBNe, Int.reduceAdd, Int.reduceSub, Int.reduceMul, qFin_ret, qFin_normal]; (try ((refine okTr_and ?_ ?_); (· rfl))))
    refine CallK.p (live05) ?_
    (simp only [go_sem, Nat.reduceAdd, Nat.reduceMul, Int.reduceToNat, Nat.reduceLeDiff, Int.reduceLE, Int.reduceLT, ↓reduceIte, Int.reduceBEq, Int.reduceBNe, Int.reduceAdd, Int.reduceSub, Int.reduceMul, qFin_ret, qFin_normal]; (try ((refine okTr_and ?_ ?_); (· rfl))))
    ((refine FinK.fin r19 [] ?_ ?_ ?_ ?_ ?_ ?_); (· decide); (· rfl); (· simp); (· rfl); (· first | with_reducible rfl | (simp [ints_nil, ren_lit, ren_ref, ren_any, ren_agg, ren_tup, ren_sl, ren_fn, tren_none, tren_full, tren_row, oren_cells, oren_row, oren_dead, ixs_z, ixs_1, ixs_2, ixs_3, ren_ints, List.map_cons, List.map_nil]; done) | rfl); (· simp [resAL, resA1, loadA, oneOr, ints_nil, ren_lit, ren_ref, ren_any, ren_agg, ren_tup, ren_sl, ren_fn, tren_none, tren_full, tren_row, oren_cells, oren_row, oren_dead, ixs_z, ixs_1, ixs_2, ixs_3, ren_ints, List.map_cons, List.map_nil]))
  · have hn : l.length ≤ 300 := by simp at h; omega
    have hok : ROk (RS.new l) := ROk.new hl (by omega)
    have hn8 : (RS.new l).l.length * 8 ≤ 140737488355328 := by show l.length * 8 ≤ _; omega
    obtain ⟨r1, r2, r3⟩ := rr_new hok (max n 0).toNat
    (simp only [go_sem, Nat.reduceAdd, Nat.reduceMul, Int.reduceToNat, Nat.reduceLeDiff, Int.reduceLE, Int.reduceLT, ↓reduceIte, Int.reduceBEq, Int.reduceBNe, Int.reduceAdd, Int.reduceSub, Int.reduceMul, qFin_ret, qFin_normal]; (try ((refine okTr_and ?_ ?_); (· rfl))))
    refine CallK.n (cursor_New l) ?_
    (simp only [go_sem, Nat.reduceAdd, Nat.reduceMul, Int.reduceToNat, Nat.reduceLeDiff, Int.reduceLE, Int.reduceLT, ↓reduceIte, Int.reduceBEq, Int.reduceBNe, Int.reduceAdd, Int.reduceSub, Int.reduceMul, qFin_ret, qFin_normal]; (try ((refine okTr_and ?_ ?_); (· rfl))))
    refine CallK.u1 (zigzag_ReadRising (RS.new l) n _ hok hn8) rfl ?_
    (simp only [go_sem, Nat.reduceAdd, Nat.reduceMul, Int.reduceToNat, Nat.reduceLeDiff, Int.reduceLE, Int.reduceLT, ↓reduceIte, Int.reduceBEq, Int.reduceBNe, Int.reduceAdd, Int.reduceSub, Int.reduceMul, qFin_ret, qFin_normal]; (try ((refine okTr_and ?_ ?_); (· rfl))))
    refine CallK.p (ref05_Read (RS.new l) n hok hn8) ?_
    (simp only [go_sem, Nat.reduceAdd, Nat.reduceMul, Int.reduceToNat, Nat.reduceLeDiff, Int.reduceLE, Int.reduceLT, ↓reduceIte, Int.reduceBEq, Int.reduceBNe, Int.reduceAdd, Int.reduceSub, Int.reduceMul, qFin_ret, qFin_normal]; (try ((refine okTr_and ?_ ?_); (· rfl))))
    generalize (RS.new l).rr (max n 0).toNat [] = R at *
    refine CallK.p (ref05_Same R.2 R.2 (by omega)) ?_
    (simp only [go_sem, Nat.reduceAdd, Nat.reduceMul, Int.reduceToNat, Nat.reduceLeDiff, Int.reduceLE, Int.reduceLT, ↓reduceIte, Int.reduceBEq, Int.reduceBNe, Int.reduceAdd, Int.reduceSub, Int.reduceMul, qFin_ret, qFin_normal, same_self]; (try ((refine okTr_and ?_ ?_); (· rfl))))
    refine CallK.r1 (Reader_Fault R.1 _) rfl ?_
    (simp only [go_sem, Nat.reduceAdd, Nat.reduceMul, Int.reduceToNat, Nat.reduceLeDiff, Int.reduceLE, Int.reduceLT, ↓reduceIte, Int.reduceBEq, Int.reduceBNe, Int.reduceAdd, Int.reduceSub, Int.reduceMul, qFin_ret, qFin_normal]; (try ((refine okTr_and ?_ ?_); (· rfl))))
    by_cases hc : R.1.code = 0
    · have q : (R.1.code != 0) = false := by simpa using hc
      obtain ⟨b1, _⟩ := r2 hc
      (simp only [go_sem, Nat.reduceAdd, Nat.reduceMul, Int.reduceToNat, Nat.reduceLeDiff, Int.reduceLE, Int.reduceLT, ↓reduceIte, Int.reduceBEq, Int.reduceBNe, Int.reduceAdd, Int.reduceSub, Int.reduceMul, qFin_ret, qFin_normal, q]; (try ((refine okTr_and ?_ ?_); (· rfl))))
      refine CallK.r1 (Reader_At R.1 _) rfl ?_
      (simp only [go_sem, Nat.reduceAdd, Nat.reduceMul, Int.reduceToNat, Nat.reduceLeDiff, Int.reduceLE, Int.reduceLT, ↓reduceIte, Int.reduceBEq, Int.reduceBNe, Int.reduceAdd, Int.reduceSub, Int.reduceMul, qFin_ret, qFin_normal]; (try ((refine okTr_and ?_ ?_); (· rfl))))
      refine CallK.p (ref05_Rises R.2 (by omega)) ?_
      (simp only [go_sem, Nat.reduceAdd, Nat.reduceMul, Int.reduceToNat, Nat.reduceLeDiff, Int.reduceLE, Int.reduceLT, ↓reduceIte, Int.reduceBEq, Int.reduceBNe, Int.reduceAdd, Int.reduceSub, Int.reduceMul, qFin_ret, qFin_normal, b1]; (try ((refine okTr_and ?_ ?_); (· rfl))))
      refine CallK.p (live05) ?_
      (simp only [go_sem, Nat.reduceAdd, Nat.reduceMul, Int.reduceToNat, Nat.reduceLeDiff, Int.reduceLE, Int.reduceLT, ↓reduceIte, Int.reduceBEq, Int.reduceBNe, Int.reduceAdd, Int.reduceSub, Int.reduceMul, qFin_ret, qFin_normal]; (try ((refine okTr_and ?_ ?_); (· rfl))))
      ((refine FinK.fin r19 [] ?_ ?_ ?_ ?_ ?_ ?_); (· decide); (· rfl); (· simp); (· rfl); (· first | with_reducible rfl | (simp [ints_nil, ren_lit, ren_ref, ren_any, ren_agg, ren_tup, ren_sl, ren_fn, tren_none, tren_full, tren_row, oren_cells, oren_row, oren_dead, ixs_z, ixs_1, ixs_2, ixs_3, ren_ints, List.map_cons, List.map_nil]; done) | rfl); (· simp [resAL, resA1, loadA, oneOr, ints_nil, ren_lit, ren_ref, ren_any, ren_agg, ren_tup, ren_sl, ren_fn, tren_none, tren_full, tren_row, oren_cells, oren_row, oren_dead, ixs_z, ixs_1, ixs_2, ixs_3, ren_ints, List.map_cons, List.map_nil]))
    · have q : (R.1.code != 0) = true := by simpa using hc
      (simp only [go_sem, Nat.reduceAdd, Nat.reduceMul, Int.reduceToNat, Nat.reduceLeDiff, Int.reduceLE, Int.reduceLT, ↓reduceIte, Int.reduceBEq, Int.reduceBNe, Int.reduceAdd, Int.reduceSub, Int.reduceMul, qFin_ret, qFin_normal, q]; (try ((refine okTr_and ?_ ?_); (· rfl))))
      refine CallK.p (live05) ?_
      (simp only [go_sem, Nat.reduceAdd, Nat.reduceMul, Int.reduceToNat, Nat.reduceLeDiff, Int.reduceLE, Int.reduceLT, ↓reduceIte, Int.reduceBEq, Int.reduceBNe, Int.reduceAdd, Int.reduceSub, Int.reduceMul, qFin_ret, qFin_normal]; (try ((refine okTr_and ?_ ?_); (· rfl))))
      ((refine FinK.fin r19 [] ?_ ?_ ?_ ?_ ?_ ?_); (· decide); (· rfl); (· simp); (· rfl); (· first | with_reducible rfl | (simp [ints_nil, ren_lit, ren_ref, ren_any, ren_agg, ren_tup, ren_sl, ren_fn, tren_none, tren_full, tren_row, oren_cells, oren_row, oren_dead, ixs_z, ixs_1, ixs_2, ixs_3, ren_ints, List.map_cons, List.map_nil]; done) | rfl); (· simp [resAL, resA1, loadA, oneOr, ints_nil, ren_lit, ren_ref, ren_any, ren_agg, ren_tup, ren_sl, ren_fn, tren_none, tren_full, tren_row, oren_cells, oren_row, oren_dead, ixs_z, ixs_1, ixs_2, ixs_3, ren_ints, List.map_cons, List.map_nil]))

theorem law_ZigzagRises (l : List Int) (hl : U64s l) : Does Try.prog 9 [slU l] [] (bA true) [] := by
  refine Does.run Try.func9 b9 n9 Try.ntmps9 (by simp only [List.cons_append, List.nil_append, List.length_cons, List.length_nil, Nat.zero_add, Nat.reduceAdd, Nat.reduceSub, List.replicate]; rfl) ?_; simp only [c9, go_sem, Nat.reduceAdd, Nat.reduceMul, Int.reduceToNat, Nat.reduceLeDiff, Int.reduceLE, Int.reduceLT, ↓reduceIte, Int.reduceBEq, Int.reduceBNe, Int.reduceAdd, Int.reduceSub, Int.reduceMul, qFin_ret, qFin_normal, ints_length]; (try ((refine okTr_and ?_ ?_); (· rfl)))
  refine cdK_split (fun h => ?_) (fun h => ?_)
  · (simp only [go_sem, Nat.reduceAdd, Nat.reduceMul, Int.reduceToNat, Nat.reduceLeDiff, Int.reduceLE, Int.reduceLT, ↓reduceIte, Int.reduceBEq, Int.reduceBNe, Int.reduceAdd, Int.reduceSub, Int.reduceMul, qFin_ret, qFin_normal]; (try ((refine okTr_and ?_ ?_); (· rfl))))
    refine CallK.p (live05) ?_
    (simp only [go_sem, Nat.reduceAdd, Nat.reduceMul, Int.reduceToNat, Nat.reduceLeDiff, Int.reduceLE, Int.reduceLT, ↓reduceIte, Int.reduceBEq, Int.reduceBNe, Int.reduceAdd, Int.reduceSub, Int.reduceMul, qFin_ret, qFin_normal]; (try ((refine okTr_and ?_ ?_); (· rfl))))
    ((refine FinK.fin r9 [] ?_ ?_ ?_ ?_ ?_ ?_); (· decide); (· rfl); (· simp); (· rfl); (· first | with_reducible rfl | (simp [ints_nil, ren_lit, ren_ref, ren_any, ren_agg, ren_tup, ren_sl, ren_fn, tren_none, tren_full, tren_row, oren_cells, oren_row, oren_dead, ixs_z, ixs_1, ixs_2, ixs_3, ren_ints, List.map_cons, List.map_nil]; done) | rfl); (· simp [resAL, resA1, loadA, oneOr, ints_nil, ren_lit, ren_ref, ren_any, ren_agg, ren_tup, ren_sl, ren_fn, tren_none, tren_full, tren_row, oren_cells, oren_row, oren_dead, ixs_z, ixs_1, ixs_2, ixs_3, ren_ints, List.map_cons, List.map_nil]))
  · have hn : l.length ≤ 200 := by simp at h; omega
    (simp only [go_sem, Nat.reduceAdd, Nat.reduceMul, Int.reduceToNat, Nat.reduceLeDiff, Int.reduceLE, Int.reduceLT, ↓reduceIte, Int.reduceBEq, Int.reduceBNe, Int.reduceAdd, Int.reduceSub, Int.reduceMul, qFin_ret, qFin_normal]; (try ((refine okTr_and ?_ ?_); (· rfl))))
    refine CallK.n (pen_New 3000) ?_
    (simp only [go_sem, Nat.reduceAdd, Nat.reduceMul, Int.reduceToNat, Nat.reduceLeDiff, Int.reduceLE, Int.reduceLT, ↓reduceIte, Int.reduceBEq, Int.reduceBNe, Int.reduceAdd, Int.reduceSub, Int.reduceMul, qFin_ret, qFin_normal]; (try ((refine okTr_and ?_ ?_); (· rfl))))
    refine CallK.u2 (zigzag_PutRising (WS.new 3000) l _ _ (by decide) (WS.ok.new (by decide)) hl (by show 0 + l.length * 10 ≤ _; omega)) rfl rfl ?_
    (simp only [go_sem, Nat.reduceAdd, Nat.reduceMul, Int.reduceToNat, Nat.reduceLeDiff, Int.reduceLE, Int.reduceLT, ↓reduceIte, Int.reduceBEq, Int.reduceBNe, Int.reduceAdd, Int.reduceSub, Int.reduceMul, qFin_ret, qFin_normal]; (try ((refine okTr_and ?_ ?_); (· rfl))))
    cases hr : rises l
    · have hw : (WS.new 3000).rising l = ⟨3000, [], 3⟩ := by unfold WS.rising; rw [hr]; rfl
      (simp only [go_sem, Nat.reduceAdd, Nat.reduceMul, Int.reduceToNat, Nat.reduceLeDiff, Int.reduceLE, Int.reduceLT, ↓reduceIte, Int.reduceBEq, Int.reduceBNe, Int.reduceAdd, Int.reduceSub, Int.reduceMul, qFin_ret, qFin_normal, hw]; (try ((refine okTr_and ?_ ?_); (· rfl))))
      refine CallK.r2 (Writer_Bytes _ _ _ (by decide) (by decide)) rfl rfl ?_
      (simp only [go_sem, Nat.reduceAdd, Nat.reduceMul, Int.reduceToNat, Nat.reduceLeDiff, Int.reduceLE, Int.reduceLT, ↓reduceIte, Int.reduceBEq, Int.reduceBNe, Int.reduceAdd, Int.reduceSub, Int.reduceMul, qFin_ret, qFin_normal]; (try ((refine okTr_and ?_ ?_); (· rfl))))
      refine CallK.p (ref05_Rises l (by omega)) ?_
      (simp only [go_sem, Nat.reduceAdd, Nat.reduceMul, Int.reduceToNat, Nat.reduceLeDiff, Int.reduceLE, Int.reduceLT, ↓reduceIte, Int.reduceBEq, Int.reduceBNe, Int.reduceAdd, Int.reduceSub, Int.reduceMul, qFin_ret, qFin_normal, hr]; (try ((refine okTr_and ?_ ?_); (· rfl))))
      refine CallK.p (zigzag_Rises l (by omega)) ?_
      (simp only [go_sem, Nat.reduceAdd, Nat.reduceMul, Int.reduceToNat, Nat.reduceLeDiff, Int.reduceLE, Int.reduceLT, ↓reduceIte, Int.reduceBEq, Int.reduceBNe, Int.reduceAdd, Int.reduceSub, Int.reduceMul, qFin_ret, qFin_normal, hr, show (WS.mk 3000 [] 3).bytes = [] from rfl, ints_nil]; (try ((refine okTr_and ?_ ?_); (· rfl))))
      refine CallK.p (zigzag_RisingSize l hl (by omega)) ?_
      (simp only [go_sem, Nat.reduceAdd, Nat.reduceMul, Int.reduceToNat, Nat.reduceLeDiff, Int.reduceLE, Int.reduceLT, ↓reduceIte, Int.reduceBEq, Int.reduceBNe, Int.reduceAdd, Int.reduceSub, Int.reduceMul, qFin_ret, qFin_normal, hr]; (try ((refine okTr_and ?_ ?_); (· rfl))))
      refine CallK.p (live05) ?_
      (simp only [go_sem, Nat.reduceAdd, Nat.reduceMul, Int.reduceToNat, Nat.reduceLeDiff, Int.reduceLE, Int.reduceLT, ↓reduceIte, Int.reduceBEq, Int.reduceBNe, Int.reduceAdd, Int.reduceSub, Int.reduceMul, qFin_ret, qFin_normal]; (try ((refine okTr_and ?_ ?_); (· rfl))))
      ((refine FinK.fin r9 [] ?_ ?_ ?_ ?_ ?_ ?_); (· decide); (· rfl); (· simp); (· rfl); (· first | with_reducible rfl | (simp [ints_nil, ren_lit, ren_ref, ren_any, ren_agg, ren_tup, ren_sl, ren_fn, tren_none, tren_full, tren_row, oren_cells, oren_row, oren_dead, ixs_z, ixs_1, ixs_2, ixs_3, ren_ints, List.map_cons, List.map_nil]; done) | rfl); (· simp [resAL, resA1, loadA, oneOr, ints_nil, ren_lit, ren_ref, ren_any, ren_agg, ren_tup, ren_sl, ren_fn, tren_none, tren_full, tren_row, oren_cells, oren_row, oren_dead, ixs_z, ixs_1, ixs_2, ixs_3, ren_ints, List.map_cons, List.map_nil]))
    · have hv := vbs_len (stps l l.length)
      rw [stps_len] at hv
      have hw : (WS.new 3000).rising l = ⟨3000, vbs (stps l l.length), 0⟩ := by
        unfold WS.rising; rw [if_pos hr, puts_fit (by rfl) _ (by simp [WS.new]; omega)]; rfl
      have hb := vbs_bys (stps_u64 hl hr l.length (Nat.le_refl _))
      (simp only [go_sem, Nat.reduceAdd, Nat.reduceMul, Int.reduceToNat, Nat.reduceLeDiff, Int.reduceLE, Int.reduceLT, ↓reduceIte, Int.reduceBEq, Int.reduceBNe, Int.reduceAdd, Int.reduceSub, Int.reduceMul, qFin_ret, qFin_normal, hw]; (try ((refine okTr_and ?_ ?_); (· rfl))))
      refine CallK.r2 (Writer_Bytes _ _ _ (by decide) (by simp only; omega)) rfl rfl ?_
      (simp only [go_sem, Nat.reduceAdd, Nat.reduceMul, Int.reduceToNat, Nat.reduceLeDiff, Int.reduceLE, Int.reduceLT, ↓reduceIte, Int.reduceBEq, Int.reduceBNe, Int.reduceAdd, Int.reduceSub, Int.reduceMul, qFin_ret, qFin_normal]; (try ((refine okTr_and ?_ ?_); (· rfl))))
      refine CallK.p (ref05_Rises l (by omega)) ?_
      (simp only [go_sem, Nat.reduceAdd, Nat.reduceMul, Int.reduceToNat, Nat.reduceLeDiff, Int.reduceLE, Int.reduceLT, ↓reduceIte, Int.reduceBEq, Int.reduceBNe, Int.reduceAdd, Int.reduceSub, Int.reduceMul, qFin_ret, qFin_normal, hr]; (try ((refine okTr_and ?_ ?_); (· rfl))))
      refine CallK.p (zigzag_Rises l (by omega)) ?_
      (simp only [go_sem, Nat.reduceAdd, Nat.reduceMul, Int.reduceToNat, Nat.reduceLeDiff, Int.reduceLE, Int.reduceLT, ↓reduceIte, Int.reduceBEq, Int.reduceBNe, Int.reduceAdd, Int.reduceSub, Int.reduceMul, qFin_ret, qFin_normal, hr]; (try ((refine okTr_and ?_ ?_); (· rfl))))
      refine CallK.n (ref05_Bytes l hl hr (by omega)) ?_
      (simp only [go_sem, Nat.reduceAdd, Nat.reduceMul, Int.reduceToNat, Nat.reduceLeDiff, Int.reduceLE, Int.reduceLT, ↓reduceIte, Int.reduceBEq, Int.reduceBNe, Int.reduceAdd, Int.reduceSub, Int.reduceMul, qFin_ret, qFin_normal, WS.bytes]; (try ((refine okTr_and ?_ ?_); (· rfl))))
      refine CallK.p (ref02_Same (vbs (stps l l.length)) (vbs (stps l l.length)) hb hb) ?_
      (simp only [go_sem, Nat.reduceAdd, Nat.reduceMul, Int.reduceToNat, Nat.reduceLeDiff, Int.reduceLE, Int.reduceLT, ↓reduceIte, Int.reduceBEq, Int.reduceBNe, Int.reduceAdd, Int.reduceSub, Int.reduceMul, qFin_ret, qFin_normal, same_self]; (try ((refine okTr_and ?_ ?_); (· rfl))))
      refine CallK.p (zigzag_RisingSize l hl (by omega)) ?_
      (simp only [go_sem, Nat.reduceAdd, Nat.reduceMul, Int.reduceToNat, Nat.reduceLeDiff, Int.reduceLE, Int.reduceLT, ↓reduceIte, Int.reduceBEq, Int.reduceBNe, Int.reduceAdd, Int.reduceSub, Int.reduceMul, qFin_ret, qFin_normal, hr, ints_length]; (try ((refine okTr_and ?_ ?_); (· rfl))))
      refine CallK.p (live05) ?_
      (simp only [go_sem, Nat.reduceAdd, Nat.reduceMul, Int.reduceToNat, Nat.reduceLeDiff, Int.reduceLE, Int.reduceLT, ↓reduceIte, Int.reduceBEq, Int.reduceBNe, Int.reduceAdd, Int.reduceSub, Int.reduceMul, qFin_ret, qFin_normal]; (try ((refine okTr_and ?_ ?_); (· rfl))))
      ((refine FinK.fin r9 [] ?_ ?_ ?_ ?_ ?_ ?_); (· decide); (· rfl); (· simp); (· rfl); (· first | with_reducible rfl | (simp [ints_nil, ren_lit, ren_ref, ren_any, ren_agg, ren_tup, ren_sl, ren_fn, tren_none, tren_full, tren_row, oren_cells, oren_row, oren_dead, ixs_z, ixs_1, ixs_2, ixs_3, ren_ints, List.map_cons, List.map_nil]; done) | rfl); (· simp [resAL, resA1, loadA, oneOr, ints_nil, ren_lit, ren_ref, ren_any, ren_agg, ren_tup, ren_sl, ren_fn, tren_none, tren_full, tren_row, oren_cells, oren_row, oren_dead, ixs_z, ixs_1, ixs_2, ixs_3, ren_ints, List.map_cons, List.map_nil]))
end Go.Proofs.Ytgphhganepjaiaa
