/-
  Contracts of chapter 8: where frames begin, by the code and by the reference; live.
-/
import Derived.Test.YtpjkmidjjodplaaK35
set_option linter.all false
set_option linter.unusedSimpArgs false
set_option linter.unusedVariables false
set_option linter.unnecessarySimpa false
namespace Go.Proofs.Ytpjkmidjjodplaa
open Go.RowKit

theorem getF_code {b : List Int} {m : Int} : ((getF b m).2.2.1 == 0) = okF b m := by
  unfold getF okF
  by_cases h : ((RS.new b).frame m).1.code = 0
  · rw [if_pos h, h]
  · rw [if_neg h]
theorem mxn (n : Int) : (if (0 : Int) > n then 0 else n) = ((max n 0).toNat : Int) := by split <;> omega
set_option maxRecDepth 100000 in
theorem frame_Next0 (b : List Int) (f m : Int) (hb : Bys b) (hn : b.length ≤ 100000000000000) (f1 : f < 9223372036854775808) (m1 : m < 9223372036854775808) : Does Try.prog 67 [slA .u8 b, iA f, iA m] [] (.tup [iA (max (nextF b (max f 0).toNat m) 0), bA (decide (0 ≤ nextF b (max f 0).toNat m))]) [] := by
  obtain ⟨N, hN⟩ : ∃ N, nextF b (max f 0).toNat m = N := ⟨_, rfl⟩
  rw [hN]
  have e0 := mxn f
  refine Does.run Try.func67 b67 n67 Try.ntmps67 (by simp only [List.cons_append, List.nil_append, List.length_cons, List.length_nil, Nat.zero_add, Nat.reduceAdd, Nat.reduceSub, List.replicate]; rfl) ?_; simp only [c67, go_sem, Nat.reduceAdd, Nat.reduceMul, Int.reduceToNat, Nat.reduceLeDiff, Int.reduceLE, Int.reduceLT, ↓reduceIte, Int.reduceBEq, Int.reduceBNe, Int.reduceAdd, Int.reduceSub, Int.reduceMul, qFin_ret, qFin_normal, e0]; (try ((refine okTr_and ?_ ?_); (· rfl)))
  refine loop_of (α := Nat) (fun a => [slA .u8 b, .any, iA m, .any, .any, .any, .any, .any, iA a, .any, .any, .any, .any, .any, .any, .any, .any, .any, .any, .any, .any, .any, .any, .any, .any, .any, .any, .any, .any, .any, .any, .any, .any, .any, .any, .any, .any, .any, .any, .any, .any, .any, .any, .any]) (fun _ => []) (fun a => nextF b a m = N ∧ (a : Int) < 9223372036854775808) (fun a => b.length - a) (max f 0).toNat ⟨hN, by omega⟩ (Wk.to (by simp) (by simp [leT])) ?_
  rintro a ⟨ha, ha2⟩
  (simp only [go_sem, Nat.reduceAdd, Nat.reduceMul, Int.reduceToNat, Nat.reduceLeDiff, Int.reduceLE, Int.reduceLT, ↓reduceIte, Int.reduceBEq, Int.reduceBNe, Int.reduceAdd, Int.reduceSub, Int.reduceMul, qFin_ret, qFin_normal, ints_length]; (try ((refine okTr_and ?_ ?_); (· rfl))))
  by_cases hl : a < b.length
  · have q : decide ((a : Int) < (b.length : Int)) = true := by simp; omega
    have hd : (b.drop a).length ≤ 140737488355328 := by simp; omega
    have hbd : Bys (b.drop a) := fun x hx => hb x (List.mem_of_mem_drop hx)
    have ei := i64_succ a (by omega)
    have hg := getF_code (b := b.drop a) (m := m)
    (simp only [go_sem, Nat.reduceAdd, Nat.reduceMul, Int.reduceToNat, Nat.reduceLeDiff, Int.reduceLE, Int.reduceLT, ↓reduceIte, Int.reduceBEq, Int.reduceBNe, Int.reduceAdd, Int.reduceSub, Int.reduceMul, qFin_ret, qFin_normal, q, Int.toNat_natCast, ints_drop, ints_length]; (try ((refine okTr_and ?_ ?_); (· rfl))))
    (repeat ((with_reducible refine And.intro ?_ ?_); (· first | with_reducible assumption | omega | with_reducible rfl | (simp only [List.length_append, List.length_cons, List.length_nil, List.length_singleton]; omega) | (simp [ints_length, okEl_eq, AV.parts]; done) | (simp [ints_length, okEl_eq, AV.parts]; omega) | rfl)))
    refine CallK.p (frame_Whole (b.drop a) m hbd hd) ?_
    by_cases hw : wholeOk (b.drop a) m = true
    · (simp only [go_sem, Nat.reduceAdd, Nat.reduceMul, Int.reduceToNat, Nat.reduceLeDiff, Int.reduceLE, Int.reduceLT, ↓reduceIte, Int.reduceBEq, Int.reduceBNe, Int.reduceAdd, Int.reduceSub, Int.reduceMul, qFin_ret, qFin_normal, hw, Int.toNat_natCast, ints_drop, ints_length]; (try ((refine okTr_and ?_ ?_); (· rfl))))
      (repeat ((with_reducible refine And.intro ?_ ?_); (· first | with_reducible assumption | omega | with_reducible rfl | (simp only [List.length_append, List.length_cons, List.length_nil, List.length_singleton]; omega) | (simp [ints_length, okEl_eq, AV.parts]; done) | (simp [ints_length, okEl_eq, AV.parts]; omega) | rfl)))
      refine CallK.p (frame_Get (b.drop a) m hbd hd m1) ?_; (simp only [go_sem, Nat.reduceAdd, Nat.reduceMul, Int.reduceToNat, Nat.reduceLeDiff, Int.reduceLE, Int.reduceLT, ↓reduceIte, Int.reduceBEq, Int.reduceBNe, Int.reduceAdd, Int.reduceSub, Int.reduceMul, qFin_ret, qFin_normal]; (try ((refine okTr_and ?_ ?_); (· rfl))))
      refine CallK.p (fault_Good _ _) ?_
      by_cases ho : okF (b.drop a) m = true
      · have hx := next_yes hl ho
        have r1 : max N 0 = (a : Int) := by rw [← ha, hx]; omega
        have r2 : decide (0 ≤ N) = true := by rw [← ha, hx]; simp
        rw [ho] at hg
        (simp only [go_sem, Nat.reduceAdd, Nat.reduceMul, Int.reduceToNat, Nat.reduceLeDiff, Int.reduceLE, Int.reduceLT, ↓reduceIte, Int.reduceBEq, Int.reduceBNe, Int.reduceAdd, Int.reduceSub, Int.reduceMul, qFin_ret, qFin_normal, hg]; (try ((refine okTr_and ?_ ?_); (· rfl))))
        ((refine FinK.fin r67 [] ?_ ?_ ?_ ?_ ?_ ?_); (· decide); (· rfl); (· simp); (· rfl); (· first | with_reducible rfl | (simp [ints_nil, ren_lit, ren_ref, ren_any, ren_agg, ren_tup, ren_sl, ren_fn, tren_none, tren_full, tren_row, oren_cells, oren_row, oren_dead, ixs_z, ixs_1, ixs_2, ixs_3, ren_ints, List.map_cons, List.map_nil, r1, r2]; done) | rfl); (· simp [resAL, resA1, loadA, oneOr, ints_nil, ren_lit, ren_ref, ren_any, ren_agg, ren_tup, ren_sl, ren_fn, tren_none, tren_full, tren_row, oren_cells, oren_row, oren_dead, ixs_z, ixs_1, ixs_2, ixs_3, ren_ints, List.map_cons, List.map_nil, r1, r2]))
      · have hx := next_no hl ho
        have ho' : okF (b.drop a) m = false := by simpa using ho
        rw [ho'] at hg
        (simp only [go_sem, Nat.reduceAdd, Nat.reduceMul, Int.reduceToNat, Nat.reduceLeDiff, Int.reduceLE, Int.reduceLT, ↓reduceIte, Int.reduceBEq, Int.reduceBNe, Int.reduceAdd, Int.reduceSub, Int.reduceMul, qFin_ret, qFin_normal, hg, ei]; (try ((refine okTr_and ?_ ?_); (· rfl))))
        exact ⟨a + 1, ⟨hx.symm.trans ha, by omega⟩, by omega, Wk.sel [] (by simp) rfl (by simp) rfl (by simp) (by simp [selT, ints_nil, ren_lit, ren_ref, ren_any, ren_agg, ren_tup, ren_sl, ren_fn, tren_none, tren_full, tren_row, oren_cells, oren_row, oren_dead, ixs_z, ixs_1, ixs_2, ixs_3, ren_ints, List.map_cons, List.map_nil])⟩
    · have ho : ¬ okF (b.drop a) m = true := fun ho => hw (okF_whole hbd hd ho).1
      have hx := next_no hl ho
      have hw' : wholeOk (b.drop a) m = false := by simpa using hw
      (simp only [go_sem, Nat.reduceAdd, Nat.reduceMul, Int.reduceToNat, Nat.reduceLeDiff, Int.reduceLE, Int.reduceLT, ↓reduceIte, Int.reduceBEq, Int.reduceBNe, Int.reduceAdd, Int.reduceSub, Int.reduceMul, qFin_ret, qFin_normal, hw', ei]; (try ((refine okTr_and ?_ ?_); (· rfl))))
      exact ⟨a + 1, ⟨hx.symm.trans ha, by omega⟩, by omega, Wk.to (by simp) (by simp [leT])⟩
  · have q : decide ((a : Int) < (b.length : Int)) = false := by simp; omega
    have hx := next_end (m := m) hl
    have r1 : max N 0 = 0 := by rw [← ha, hx]; omega
    have r2 : decide (0 ≤ N) = false := by rw [← ha, hx]; rfl
    (simp only [go_sem, Nat.reduceAdd, Nat.reduceMul, Int.reduceToNat, Nat.reduceLeDiff, Int.reduceLE, Int.reduceLT, ↓reduceIte, Int.reduceBEq, Int.reduceBNe, Int.reduceAdd, Int.reduceSub, Int.reduceMul, qFin_ret, qFin_normal, q]; (try ((refine okTr_and ?_ ?_); (· rfl))))
    ((refine FinK.fin r67 [] ?_ ?_ ?_ ?_ ?_ ?_); (· decide); (· rfl); (· simp); (· rfl); (· first | with_reducible rfl | (simp [ints_nil, ren_lit, ren_ref, ren_any, ren_agg, ren_tup, ren_sl, ren_fn, tren_none, tren_full, tren_row, oren_cells, oren_row, oren_dead, ixs_z, ixs_1, ixs_2, ixs_3, ren_ints, List.map_cons, List.map_nil, r1, r2]; done) | rfl); (· simp [resAL, resA1, loadA, oneOr, ints_nil, ren_lit, ren_ref, ren_any, ren_agg, ren_tup, ren_sl, ren_fn, tren_none, tren_full, tren_row, oren_cells, oren_row, oren_dead, ixs_z, ixs_1, ixs_2, ixs_3, ren_ints, List.map_cons, List.map_nil, r1, r2]))
theorem frame_Next (b : List Int) (f m : Int) (hb : Bys b) (hn : b.length ≤ 100000000000000) (f1 : f < 9223372036854775808) (m1 : m < 9223372036854775808) : Ct Try.prog 67 [slA .u8 b, iA f, iA m] [] (fun _ => .tup [iA (max (nextF b (max f 0).toNat m) 0), bA (decide (0 ≤ nextF b (max f 0).toNat m))]) [] (fun _ => []) := (frame_Next0 b f m hb hn f1 m1).toCt (by intros; simp [ints_nil, ren_lit, ren_ref, ren_any, ren_agg, ren_tup, ren_sl, ren_fn, tren_none, tren_full, tren_row, oren_cells, oren_row, oren_dead, ixs_z, ixs_1, ixs_2, ixs_3, ren_ints, List.map_cons, List.map_nil, ixs, List.range'_succ, ren_ints]) (by intros; simp [ints_nil, ren_lit, ren_ref, ren_any, ren_agg, ren_tup, ren_sl, ren_fn, tren_none, tren_full, tren_row, oren_cells, oren_row, oren_dead, ixs_z, ixs_1, ixs_2, ixs_3, ren_ints, List.map_cons, List.map_nil, ixs, List.range'_succ, ren_ints])
set_option maxRecDepth 100000 in
theorem ref08_Next0 (b : List Int) (f m : Int) (hb : Bys b) (hn : b.length ≤ 100000000000000) (f1 : f < 9223372036854775808) (m1 : m < 9223372036854775808) : Does Try.prog 68 [slA .u8 b, iA f, iA m] [] (iA (nextF b (max f 0).toNat m)) [] := by
  obtain ⟨N, hN⟩ : ∃ N, nextF b (max f 0).toNat m = N := ⟨_, rfl⟩
  rw [hN]
  have e0 := mxn f
  refine Does.run Try.func68 b68 n68 Try.ntmps68 (by simp only [List.cons_append, List.nil_append, List.length_cons, List.length_nil, Nat.zero_add, Nat.reduceAdd, Nat.reduceSub, List.replicate]; rfl) ?_; simp only [c68, go_sem, Nat.reduceAdd, Nat.reduceMul, Int.reduceToNat, Nat.reduceLeDiff, Int.reduceLE, Int.reduceLT, ↓reduceIte, Int.reduceBEq, Int.reduceBNe, Int.reduceAdd, Int.reduceSub, Int.reduceMul, qFin_ret, qFin_normal, e0]; (try ((refine okTr_and ?_ ?_); (· rfl)))
  refine loop_of (α := Nat) (fun a => [slA .u8 b, .any, iA m, .any, .any, .any, .any, iA a, .any, .any, .any, .any, .any, .any, .any, .any, .any, .any, .any, .any, .any, .any, .any, .any, .any, .any, .any, .any, .any, .any, .any, .any]) (fun _ => []) (fun a => nextF b a m = N ∧ (a : Int) < 9223372036854775808) (fun a => b.length - a) (max f 0).toNat ⟨hN, by omega⟩ (Wk.to (by simp) (by simp [leT])) ?_
  rintro a ⟨ha, ha2⟩
  (simp only [go_sem, Nat.reduceAdd, Nat.reduceMul, Int.reduceToNat, Nat.reduceLeDiff, Int.reduceLE, Int.reduceLT, ↓reduceIte, Int.reduceBEq, Int.reduceBNe, Int.reduceAdd, Int.reduceSub, Int.reduceMul, qFin_ret, qFin_normal, ints_length]; (try ((refine okTr_and ?_ ?_); (· rfl))))
  by_cases hl : a < b.length
  · have q : decide ((a : Int) < (b.length : Int)) = true := by simp; omega
    have hd : (b.drop a).length ≤ 140737488355328 := by simp; omega
    have hbd : Bys (b.drop a) := fun x hx => hb x (List.mem_of_mem_drop hx)
    have ei := i64_succ a (by omega)
    have hok : ROk (RS.new (b.drop a)) := ROk.new hbd hd
    have ho0 : okF (b.drop a) m = (((RS.new (b.drop a)).frame m).1.code == 0) := rfl
    (simp only [go_sem, Nat.reduceAdd, Nat.reduceMul, Int.reduceToNat, Nat.reduceLeDiff, Int.reduceLE, Int.reduceLT, ↓reduceIte, Int.reduceBEq, Int.reduceBNe, Int.reduceAdd, Int.reduceSub, Int.reduceMul, qFin_ret, qFin_normal, q, Int.toNat_natCast, ints_drop, ints_length]; (try ((refine okTr_and ?_ ?_); (· rfl))))
    (repeat ((with_reducible refine And.intro ?_ ?_); (· first | with_reducible assumption | omega | with_reducible rfl | (simp only [List.length_append, List.length_cons, List.length_nil, List.length_singleton]; omega) | (simp [ints_length, okEl_eq, AV.parts]; done) | (simp [ints_length, okEl_eq, AV.parts]; omega) | rfl)))
    refine CallK.p (ref08_Read (RS.new (b.drop a)) m hok m1) ?_
    by_cases ho : okF (b.drop a) m = true
    · have hx := next_yes hl ho
      have r1 : N = (a : Int) := by rw [← ha, hx]
      rw [ho] at ho0
      (simp only [go_sem, Nat.reduceAdd, Nat.reduceMul, Int.reduceToNat, Nat.reduceLeDiff, Int.reduceLE, Int.reduceLT, ↓reduceIte, Int.reduceBEq, Int.reduceBNe, Int.reduceAdd, Int.reduceSub, Int.reduceMul, qFin_ret, qFin_normal, ← ho0]; (try ((refine okTr_and ?_ ?_); (· rfl))))
      ((refine FinK.fin r68 [] ?_ ?_ ?_ ?_ ?_ ?_); (· decide); (· rfl); (· simp); (· rfl); (· first | with_reducible rfl | (simp [ints_nil, ren_lit, ren_ref, ren_any, ren_agg, ren_tup, ren_sl, ren_fn, tren_none, tren_full, tren_row, oren_cells, oren_row, oren_dead, ixs_z, ixs_1, ixs_2, ixs_3, ren_ints, List.map_cons, List.map_nil, r1]; done) | rfl); (· simp [resAL, resA1, loadA, oneOr, ints_nil, ren_lit, ren_ref, ren_any, ren_agg, ren_tup, ren_sl, ren_fn, tren_none, tren_full, tren_row, oren_cells, oren_row, oren_dead, ixs_z, ixs_1, ixs_2, ixs_3, ren_ints, List.map_cons, List.map_nil, r1]))
    · have hx := next_no hl ho
      have ho' : okF (b.drop a) m = false := by simpa using ho
      rw [ho'] at ho0
      (simp only [go_sem, Nat.reduceAdd, Nat.reduceMul, Int.reduceToNat, Nat.reduceLeDiff, Int.reduceLE, Int.reduceLT, ↓reduceIte, Int.reduceBEq, Int.reduceBNe, Int.reduceAdd, Int.reduceSub, Int.reduceMul, qFin_ret, qFin_normal, ← ho0, ei]; (try ((refine okTr_and ?_ ?_); (· rfl))))
      exact ⟨a + 1, ⟨hx.symm.trans ha, by omega⟩, by omega, Wk.sel [] (by simp) rfl (by simp) rfl (by simp) (by simp [selT, ints_nil, ren_lit, ren_ref, ren_any, ren_agg, ren_tup, ren_sl, ren_fn, tren_none, tren_full, tren_row, oren_cells, oren_row, oren_dead, ixs_z, ixs_1, ixs_2, ixs_3, ren_ints, List.map_cons, List.map_nil])⟩
  · have q : decide ((a : Int) < (b.length : Int)) = false := by simp; omega
    have hx := next_end (m := m) hl
    have r1 : N = -1 := by rw [← ha, hx]
    (simp only [go_sem, Nat.reduceAdd, Nat.reduceMul, Int.reduceToNat, Nat.reduceLeDiff, Int.reduceLE, Int.reduceLT, ↓reduceIte, Int.reduceBEq, Int.reduceBNe, Int.reduceAdd, Int.reduceSub, Int.reduceMul, qFin_ret, qFin_normal, q]; (try ((refine okTr_and ?_ ?_); (· rfl))))
    ((refine FinK.fin r68 [] ?_ ?_ ?_ ?_ ?_ ?_); (· decide); (· rfl); (· simp); (· rfl); (· first | with_reducible rfl | (simp [ints_nil, ren_lit, ren_ref, ren_any, ren_agg, ren_tup, ren_sl, ren_fn, tren_none, tren_full, tren_row, oren_cells, oren_row, oren_dead, ixs_z, ixs_1, ixs_2, ixs_3, ren_ints, List.map_cons, List.map_nil, r1]; done) | rfl); (· simp [resAL, resA1, loadA, oneOr, ints_nil, ren_lit, ren_ref, ren_any, ren_agg, ren_tup, ren_sl, ren_fn, tren_none, tren_full, tren_row, oren_cells, oren_row, oren_dead, ixs_z, ixs_1, ixs_2, ixs_3, ren_ints, List.map_cons, List.map_nil, r1]))
theorem ref08_Next (b : List Int) (f m : Int) (hb : Bys b) (hn : b.length ≤ 100000000000000) (f1 : f < 9223372036854775808) (m1 : m < 9223372036854775808) : Ct Try.prog 68 [slA .u8 b, iA f, iA m] [] (fun _ => iA (nextF b (max f 0).toNat m)) [] (fun _ => []) := (ref08_Next0 b f m hb hn f1 m1).toCt (by intros; simp [ints_nil, ren_lit, ren_ref, ren_any, ren_agg, ren_tup, ren_sl, ren_fn, tren_none, tren_full, tren_row, oren_cells, oren_row, oren_dead, ixs_z, ixs_1, ixs_2, ixs_3, ren_ints, List.map_cons, List.map_nil, ixs, List.range'_succ, ren_ints]) (by intros; simp [ints_nil, ren_lit, ren_ref, ren_any, ren_agg, ren_tup, ren_sl, ren_fn, tren_none, tren_full, tren_row, oren_cells, oren_row, oren_dead, ixs_z, ixs_1, ixs_2, ixs_3, ren_ints, List.map_cons, List.map_nil, ixs, List.range'_succ, ren_ints])
set_option maxRecDepth 100000 in
theorem frame_Scan0 (b : List Int) (m : Int) (hb : Bys b) (hn : b.length ≤ 1000000000) (m1 : m < 9223372036854775808) : Does Try.prog 69 [slA .u8 b, iA m] [] (slA .i64 (scanF b m 0)) [] := by
  obtain ⟨L, hL⟩ : ∃ L, scanF b m 0 = L := ⟨_, rfl⟩
  have hLl : L.length ≤ b.length + 1 := by rw [← hL]; exact scan_len b m _ 0
  rw [hL]
  refine Does.run Try.func69 b69 n69 Try.ntmps69 (by simp only [List.cons_append, List.nil_append, List.length_cons, List.length_nil, Nat.zero_add, Nat.reduceAdd, Nat.reduceSub, List.replicate]; rfl) ?_; simp only [c69, go_sem, Nat.reduceAdd, Nat.reduceMul, Int.reduceToNat, Nat.reduceLeDiff, Int.reduceLE, Int.reduceLT, ↓reduceIte, Int.reduceBEq, Int.reduceBNe, Int.reduceAdd, Int.reduceSub, Int.reduceMul, qFin_ret, qFin_normal]; (try ((refine okTr_and ?_ ?_); (· rfl)))
  refine loop_of (α := Nat × List Int) (fun a => [slA .u8 b, iA m, .any, .any, .any, .sl (.row 0) 1 (ints .i64 a.2), iA a.1, .any, .any, .any, .any, .any, .any, .any, .any, .any, .any, .any, .any, .any, .any, .any, .any, .any, .any, .any, .any, .any, .any, .any, .any, .any, .any, .any, .any, .any]) (fun a => [.row 1 a.2.length]) (fun a => a.2 ++ scanF b m a.1 = L ∧ (a.1 : Int) < 4611686018427387904) (fun a => b.length - a.1) (0, []) ⟨by simpa using hL, by simp⟩ ((Wk.row 5 1 rfl (.inl rfl) (by decide)).trans (Wk.to (by simp) (by simp [leT, ints]))) ?_
  rintro ⟨a, acc⟩ ⟨ha, ha2⟩
  simp only at ha ha2
  have hal : acc.length ≤ L.length := by rw [← ha, List.length_append]; omega
  have emx : (max (a : Int) 0).toNat = a := by omega
  rcases next_is b m _ a rfl with h1 | ⟨q, q1, q2, q3, q4⟩
  · have hs := scan_end (b := b) (m := m) (a := a) (by rw [h1]; decide)
    rw [hs, List.append_nil] at ha
    have r2 : decide (0 ≤ nextF b a m) = false := by rw [h1]; rfl
    (simp only [go_sem, Nat.reduceAdd, Nat.reduceMul, Int.reduceToNat, Nat.reduceLeDiff, Int.reduceLE, Int.reduceLT, ↓reduceIte, Int.reduceBEq, Int.reduceBNe, Int.reduceAdd, Int.reduceSub, Int.reduceMul, qFin_ret, qFin_normal]; (try ((refine okTr_and ?_ ?_); (· rfl))))
    refine CallK.p (frame_Next b a m hb (by omega) (by omega) m1) ?_; (simp only [go_sem, Nat.reduceAdd, Nat.reduceMul, Int.reduceToNat, Nat.reduceLeDiff, Int.reduceLE, Int.reduceLT, ↓reduceIte, Int.reduceBEq, Int.reduceBNe, Int.reduceAdd, Int.reduceSub, Int.reduceMul, qFin_ret, qFin_normal, emx, r2]; (try ((refine okTr_and ?_ ?_); (· rfl))))
    (refine FinK.untag 4 rfl ?_; simp only [untag1_sl, List.set_cons_zero, List.set_cons_succ])
    ((refine FinK.fin r69 [] ?_ ?_ ?_ ?_ ?_ ?_); (· decide); (· rfl); (· simp); (· rfl); (· first | with_reducible rfl | (simp [ints_nil, ren_lit, ren_ref, ren_any, ren_agg, ren_tup, ren_sl, ren_fn, tren_none, tren_full, tren_row, oren_cells, oren_row, oren_dead, ixs_z, ixs_1, ixs_2, ixs_3, ren_ints, List.map_cons, List.map_nil, ha]; done) | rfl); (· simp [resAL, resA1, loadA, oneOr, ints_nil, ren_lit, ren_ref, ren_any, ren_agg, ren_tup, ren_sl, ren_fn, tren_none, tren_full, tren_row, oren_cells, oren_row, oren_dead, ixs_z, ixs_1, ixs_2, ixs_3, ren_ints, List.map_cons, List.map_nil, ha]))
  · have hs := scan_step hb (by omega) (b := b) (m := m) (a := a) (by rw [q1]; omega)
    rw [q1] at hs
    have r2 : decide (0 ≤ nextF b a m) = true := by rw [q1]; simp
    have r3 : max (nextF b a m) 0 = (q : Int) := by rw [q1]; omega
    have hbd : Bys (b.drop q) := fun x hx => hb x (List.mem_of_mem_drop hx)
    have hd : (b.drop q).length ≤ 140737488355328 := by simp; omega
    obtain ⟨w1, w2, w3⟩ := okF_whole hbd hd q4
    have hp := whole_pos w1
    rw [Int.toNat_natCast] at hs
    obtain ⟨W, hW⟩ : ∃ W, wholeF (b.drop q) m = W := ⟨_, rfl⟩
    rw [hW] at hs hp
    have es : IntKind.i64.wrap ((q : Int) + W) = (((q : Int) + W).toNat : Int) := by rw [IntWalk.i64_in _ (by omega)]; omega
    (simp only [go_sem, Nat.reduceAdd, Nat.reduceMul, Int.reduceToNat, Nat.reduceLeDiff, Int.reduceLE, Int.reduceLT, ↓reduceIte, Int.reduceBEq, Int.reduceBNe, Int.reduceAdd, Int.reduceSub, Int.reduceMul, qFin_ret, qFin_normal]; (try ((refine okTr_and ?_ ?_); (· rfl))))
    refine CallK.p (frame_Next b a m hb (by omega) (by omega) m1) ?_; (simp only [go_sem, Nat.reduceAdd, Nat.reduceMul, Int.reduceToNat, Nat.reduceLeDiff, Int.reduceLE, Int.reduceLT, ↓reduceIte, Int.reduceBEq, Int.reduceBNe, Int.reduceAdd, Int.reduceSub, Int.reduceMul, qFin_ret, qFin_normal, emx, r2, r3, ints_snoc, ints_length, Int.toNat_natCast, ints_drop]; (try ((refine okTr_and ?_ ?_); (· rfl))))
    (repeat ((with_reducible refine And.intro ?_ ?_); (· first | with_reducible assumption | omega | with_reducible rfl | (simp only [List.length_append, List.length_cons, List.length_nil, List.length_singleton]; omega) | (simp [ints_length, okEl_eq, AV.parts]; done) | (simp [ints_length, okEl_eq, AV.parts]; omega) | rfl)))
    refine CallK.p (frame_Whole (b.drop q) m hbd hd) ?_; (simp only [go_sem, Nat.reduceAdd, Nat.reduceMul, Int.reduceToNat, Nat.reduceLeDiff, Int.reduceLE, Int.reduceLT, ↓reduceIte, Int.reduceBEq, Int.reduceBNe, Int.reduceAdd, Int.reduceSub, Int.reduceMul, qFin_ret, qFin_normal, hW, es]; (try ((refine okTr_and ?_ ?_); (· rfl))))
    exact ⟨(((q : Int) + W).toNat, acc ++ [(q : Int)]), ⟨by rw [← ha, hs]; simp, by simp only; omega⟩, by simp only; omega, Wk.to (by simp) (by simp [leT])⟩
theorem frame_Scan (b : List Int) (m : Int) (hb : Bys b) (hn : b.length ≤ 1000000000) (m1 : m < 9223372036854775808) : Ct Try.prog 69 [slA .u8 b, iA m] [] (fun _ => slA .i64 (scanF b m 0)) [] (fun _ => []) := (frame_Scan0 b m hb hn m1).toCt (by intros; simp [ints_nil, ren_lit, ren_ref, ren_any, ren_agg, ren_tup, ren_sl, ren_fn, tren_none, tren_full, tren_row, oren_cells, oren_row, oren_dead, ixs_z, ixs_1, ixs_2, ixs_3, ren_ints, List.map_cons, List.map_nil, ixs, List.range'_succ, ren_ints]) (by intros; simp [ints_nil, ren_lit, ren_ref, ren_any, ren_agg, ren_tup, ren_sl, ren_fn, tren_none, tren_full, tren_row, oren_cells, oren_row, oren_dead, ixs_z, ixs_1, ixs_2, ixs_3, ren_ints, List.map_cons, List.map_nil, ixs, List.range'_succ, ren_ints])
theorem live08_f : frameB [] = [0, 0, 0, 0, 0] := by kernel_rfl
theorem live08_0 : Does Try.prog 27 [] [] (bA true) [] := by
  have e4 : ints .u8 [0, 0, 0, 0, 0] = [u8A 0, u8A 0, u8A 0, u8A 0, u8A 0] := rfl
  have hB : Bys [0, 0, 0, 0, 0] := by unfold Bys; decide
  refine Does.run Try.func27 b27 n27 Try.ntmps27 (by simp only [List.cons_append, List.nil_append, List.length_cons, List.length_nil, Nat.zero_add, Nat.reduceAdd, Nat.reduceSub, List.replicate]; rfl) ?_; simp only [c27, go_sem, Nat.reduceAdd, Nat.reduceMul, Int.reduceToNat, Nat.reduceLeDiff, Int.reduceLE, Int.reduceLT, ↓reduceIte, Int.reduceBEq, Int.reduceBNe, Int.reduceAdd, Int.reduceSub, Int.reduceMul, qFin_ret, qFin_normal]; (try ((refine okTr_and ?_ ?_); (· rfl)))
  refine CallK.p (frame_Bytes [] (by intro x hx; simp at hx) (by decide)) ?_
  (simp only [go_sem, Nat.reduceAdd, Nat.reduceMul, Int.reduceToNat, Nat.reduceLeDiff, Int.reduceLE, Int.reduceLT, ↓reduceIte, Int.reduceBEq, Int.reduceBNe, Int.reduceAdd, Int.reduceSub, Int.reduceMul, qFin_ret, qFin_normal, live08_f]; (try ((refine okTr_and ?_ ?_); (· rfl))))
  (repeat ((with_reducible refine And.intro ?_ ?_); (· first | with_reducible assumption | omega | with_reducible rfl | (simp only [List.length_append, List.length_cons, List.length_nil, List.length_singleton]; omega) | (simp [ints_length, okEl_eq, AV.parts]; done) | (simp [ints_length, okEl_eq, AV.parts]; omega) | rfl)))
  refine CallK.p (ref02_Same [0, 0, 0, 0, 0] [0, 0, 0, 0, 0] hB hB) ?_; (simp only [go_sem, Nat.reduceAdd, Nat.reduceMul, Int.reduceToNat, Nat.reduceLeDiff, Int.reduceLE, Int.reduceLT, ↓reduceIte, Int.reduceBEq, Int.reduceBNe, Int.reduceAdd, Int.reduceSub, Int.reduceMul, qFin_ret, qFin_normal, same_self]; (try ((refine okTr_and ?_ ?_); (· rfl))))
  ((refine FinK.fin r27 [] ?_ ?_ ?_ ?_ ?_ ?_); (· decide); (· rfl); (· simp); (· rfl); (· first | with_reducible rfl | (simp [ints_nil, ren_lit, ren_ref, ren_any, ren_agg, ren_tup, ren_sl, ren_fn, tren_none, tren_full, tren_row, oren_cells, oren_row, oren_dead, ixs_z, ixs_1, ixs_2, ixs_3, ren_ints, List.map_cons, List.map_nil]; done) | rfl); (· simp [resAL, resA1, loadA, oneOr, ints_nil, ren_lit, ren_ref, ren_any, ren_agg, ren_tup, ren_sl, ren_fn, tren_none, tren_full, tren_row, oren_cells, oren_row, oren_dead, ixs_z, ixs_1, ixs_2, ixs_3, ren_ints, List.map_cons, List.map_nil]))
theorem live08 : Ct Try.prog 27 [] [] (fun _ => bA true) [] (fun _ => []) := (live08_0).toCt (by intros; simp [ints_nil, ren_lit, ren_ref, ren_any, ren_agg, ren_tup, ren_sl, ren_fn, tren_none, tren_full, tren_row, oren_cells, oren_row, oren_dead, ixs_z, ixs_1, ixs_2, ixs_3, ren_ints, List.map_cons, List.map_nil, ixs, List.range'_succ, ren_ints]) (by intros; simp [ints_nil, ren_lit, ren_ref, ren_any, ren_agg, ren_tup, ren_sl, ren_fn, tren_none, tren_full, tren_row, oren_cells, oren_row, oren_dead, ixs_z, ixs_1, ixs_2, ixs_3, ren_ints, List.map_cons, List.map_nil, ixs, List.range'_succ, ren_ints])
end Go.Proofs.Ytpjkmidjjodplaa
