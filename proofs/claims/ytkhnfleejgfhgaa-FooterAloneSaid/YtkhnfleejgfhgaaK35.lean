/-
  Contracts of chapter 8: frames, by the code and by the reference.
-/
import Derived.Test.YtkhnfleejgfhgaaK34
import Derived.Test.YtkhnfleejgfhgaaP14
set_option linter.all false
set_option linter.unusedSimpArgs false
set_option linter.unusedVariables false
set_option linter.unnecessarySimpa false
namespace Go.Proofs.Ytkhnfleejgfhgaa
open Go.RowKit

theorem ref03_Fixed0 (x : Int) (n : Nat) (h0 : 0 ≤ x) (h1 : x < 18446744073709551616) (hn : n ≤ 8) : Does Try.prog 147 [uA x, iA n] [] (slA .u8 (lowBytes n x)) [] := by
  refine Does.run Try.func147 b147 n147 Try.ntmps147 (by simp only [List.cons_append, List.nil_append, List.length_cons, List.length_nil, Nat.zero_add, Nat.reduceAdd, Nat.reduceSub, List.replicate]; rfl) ?_; simp only [c147, go_sem, Nat.reduceAdd, Nat.reduceMul, Int.reduceToNat, Nat.reduceLeDiff, Int.reduceLE, Int.reduceLT, ↓reduceIte, Int.reduceBEq, Int.reduceBNe, Int.reduceAdd, Int.reduceSub, Int.reduceMul, qFin_ret, qFin_normal]; (try ((refine okTr_and ?_ ?_); (· rfl)))
  refine loop_of (α := Nat) (fun k => [uA x, iA n, .any, .any, .any, ownA 0 (lowBytes k x), iA k, .any, .any, .any, .any, .any, .any, .any, .any, .any, .any, .any, .any, .any, .any, .any, .any, .any, .any, .any]) (fun k => [.row 1 k]) (fun k => k ≤ n) (fun k => n - k) 0 (by simp) ((Wk.row 5 1 rfl (.inl rfl) (Nat.le_refl _)).trans (Wk.to (by simp) (by simp [leT, ints, lowBytes]))) ?_
  intro k hk
  have hs := lowBytes_snoc k x
  have hl := lowBytes_len k x
  by_cases hlt : k < n
  · have q1 : decide ((k : Int) < (n : Int)) = true := by simp; omega
    have q2 : decide ((k : Int) < 8) = true := by simp; omega
    have ei := i64_succ k (by omega)
    have em : IntKind.i64.wrap (8 * (k : Int)) = 8 * k := IntWalk.i64_in _ (by omega)
    have eu : IntKind.u64.wrap (8 * (k : Int)) = 8 * k := IntWalk.u64_in _ (by omega)
    have es : x.fdiv (2 ^ min (8 * (k : Int)).toNat 64) = x / 256 ^ k := by
      have : min (8 * (k : Int)).toNat 64 = 8 * k := by omega
      rw [this, Int.fdiv_eq_ediv_of_nonneg _ (Int.le_of_lt (Int.pow_pos (by omega))), Int.pow_mul]; rfl
    have e8 : IntKind.u8.wrap (x / 256 ^ k) = x / 256 ^ k % 256 := IntKind.wrap_u8 _
    (simp only [go_sem, Nat.reduceAdd, Nat.reduceMul, Int.reduceToNat, Nat.reduceLeDiff, Int.reduceLE, Int.reduceLT, ↓reduceIte, Int.reduceBEq, Int.reduceBNe, Int.reduceAdd, Int.reduceSub, Int.reduceMul, qFin_ret, qFin_normal, q1, q2, em, eu, es, e8, ei, ints_snoc, ← hs, ints_length, hl]; (try ((refine okTr_and ?_ ?_); (· rfl))))
    (repeat ((with_reducible refine And.intro ?_ ?_); (· first | with_reducible assumption | omega | with_reducible rfl | (simp only [List.length_append, List.length_cons, List.length_nil, List.length_singleton]; omega) | (simp [ints_length, okEl_eq, AV.parts]; done) | (simp [ints_length, okEl_eq, AV.parts]; omega) | rfl)))
    exact ⟨k + 1, hlt, by omega, Wk.to (by simp) (by simp [leT])⟩
  · have q1 : decide ((k : Int) < (n : Int)) = false := by simp; omega
    have ek : k = n := by omega
    (simp only [go_sem, Nat.reduceAdd, Nat.reduceMul, Int.reduceToNat, Nat.reduceLeDiff, Int.reduceLE, Int.reduceLT, ↓reduceIte, Int.reduceBEq, Int.reduceBNe, Int.reduceAdd, Int.reduceSub, Int.reduceMul, qFin_ret, qFin_normal, q1]; (try ((refine okTr_and ?_ ?_); (· rfl))))
    (refine FinK.untag 4 rfl ?_; simp only [untag1_sl, List.set_cons_zero, List.set_cons_succ])
    ((refine FinK.fin r147 [] ?_ ?_ ?_ ?_ ?_ ?_); (· decide); (· rfl); (· simp); (· rfl); (· first | with_reducible rfl | (simp [ints_nil, ren_lit, ren_ref, ren_any, ren_agg, ren_tup, ren_sl, ren_fn, tren_none, tren_full, tren_row, oren_cells, oren_row, oren_dead, ixs_z, ixs_1, ixs_2, ixs_3, ren_ints, List.map_cons, List.map_nil, ek]; done) | rfl); (· simp [resAL, resA1, loadA, oneOr, ints_nil, ren_lit, ren_ref, ren_any, ren_agg, ren_tup, ren_sl, ren_fn, tren_none, tren_full, tren_row, oren_cells, oren_row, oren_dead, ixs_z, ixs_1, ixs_2, ixs_3, ren_ints, List.map_cons, List.map_nil, ek]))
theorem ref03_Fixed (x : Int) (n : Nat) (h0 : 0 ≤ x) (h1 : x < 18446744073709551616) (hn : n ≤ 8) : Ct Try.prog 147 [uA x, iA n] [] (fun _ => slA .u8 (lowBytes n x)) [] (fun _ => []) := (ref03_Fixed0 x n h0 h1 hn).toCt (by intros; simp [ints_nil, ren_lit, ren_ref, ren_any, ren_agg, ren_tup, ren_sl, ren_fn, tren_none, tren_full, tren_row, oren_cells, oren_row, oren_dead, ixs_z, ixs_1, ixs_2, ixs_3, ren_ints, List.map_cons, List.map_nil, ixs, List.range'_succ, ren_ints]) (by intros; simp [ints_nil, ren_lit, ren_ref, ren_any, ren_agg, ren_tup, ren_sl, ren_fn, tren_none, tren_full, tren_row, oren_cells, oren_row, oren_dead, ixs_z, ixs_1, ixs_2, ixs_3, ren_ints, List.map_cons, List.map_nil, ixs, List.range'_succ, ren_ints])

theorem frame_bound0 (m : Int) : Does Try.prog 191 [iA m] [] (iA (mfr m)) [] := by
  have e := mn m 2097152
  refine Does.run Try.func191 b191 n191 Try.ntmps191 (by simp only [List.cons_append, List.nil_append, List.length_cons, List.length_nil, Nat.zero_add, Nat.reduceAdd, Nat.reduceSub, List.replicate]; rfl) ?_; simp only [c191, go_sem, Nat.reduceAdd, Nat.reduceMul, Int.reduceToNat, Nat.reduceLeDiff, Int.reduceLE, Int.reduceLT, ↓reduceIte, Int.reduceBEq, Int.reduceBNe, Int.reduceAdd, Int.reduceSub, Int.reduceMul, qFin_ret, qFin_normal, e]; (try ((refine okTr_and ?_ ?_); (· rfl)))
  ((refine FinK.fin r191 [] ?_ ?_ ?_ ?_ ?_ ?_); (· decide); (· rfl); (· simp); (· rfl); (· first | with_reducible rfl | (simp [ints_nil, ren_lit, ren_ref, ren_any, ren_agg, ren_tup, ren_sl, ren_fn, tren_none, tren_full, tren_row, oren_cells, oren_row, oren_dead, ixs_z, ixs_1, ixs_2, ixs_3, ren_ints, List.map_cons, List.map_nil, mfr]; done) | rfl); (· simp [resAL, resA1, loadA, oneOr, ints_nil, ren_lit, ren_ref, ren_any, ren_agg, ren_tup, ren_sl, ren_fn, tren_none, tren_full, tren_row, oren_cells, oren_row, oren_dead, ixs_z, ixs_1, ixs_2, ixs_3, ren_ints, List.map_cons, List.map_nil, mfr]))
theorem frame_bound (m : Int) : Ct Try.prog 191 [iA m] [] (fun _ => iA (mfr m)) [] (fun _ => []) := (frame_bound0 m).toCt (by intros; simp [ints_nil, ren_lit, ren_ref, ren_any, ren_agg, ren_tup, ren_sl, ren_fn, tren_none, tren_full, tren_row, oren_cells, oren_row, oren_dead, ixs_z, ixs_1, ixs_2, ixs_3, ren_ints, List.map_cons, List.map_nil, ixs, List.range'_succ, ren_ints]) (by intros; simp [ints_nil, ren_lit, ren_ref, ren_any, ren_agg, ren_tup, ren_sl, ren_fn, tren_none, tren_full, tren_row, oren_cells, oren_row, oren_dead, ixs_z, ixs_1, ixs_2, ixs_3, ren_ints, List.map_cons, List.map_nil, ixs, List.range'_succ, ren_ints])
/-- A writer behind a frame. -/
def WS.frame (s : WS) (p : List Int) : WS := if 2097152 < (p.length : Int) then s.fail 2 else ((s.put (vb p.length)).put p).put (lowBytes 4 (crcI p))
theorem WS.fine.frame {s : WS} (h : s.fine) (p : List Int) : (s.frame p).fine := by
  unfold WS.frame
  split
  · exact h.fail 2
  · exact ((h.put _).put _).put _
theorem frame_fit {s : WS} {p : List Int} (h : s.code = 0) (hp : p.length ≤ 2097152) (hm : (s.l.length : Int) + (frameB p).length ≤ s.most) : s.frame p = ⟨s.most, s.l ++ frameB p, 0⟩ := by
  have h4 := lowBytes_len 4 (crcI p)
  rw [frameB_len] at hm
  unfold blobB at hm
  rw [List.length_append] at hm
  unfold WS.frame
  rw [if_neg (by omega)]
  have e1 : s.put (vb p.length) = ⟨s.most, s.l ++ vb p.length, 0⟩ := by rw [WS.put_ok h (by omega)]; cases s; simp at h; simp [h]
  have e2 : (WS.mk s.most (s.l ++ vb p.length) 0).put p = ⟨s.most, s.l ++ vb p.length ++ p, 0⟩ := by rw [WS.put_ok rfl (by simp only [List.length_append]; omega)]
  have e3 : (WS.mk s.most (s.l ++ vb p.length ++ p) 0).put (lowBytes 4 (crcI p)) = ⟨s.most, s.l ++ vb p.length ++ p ++ lowBytes 4 (crcI p), 0⟩ := by rw [WS.put_ok rfl (by simp only [List.length_append]; omega)]
  rw [e1, e2, e3]
  simp [frameB, blobB]
theorem frame_checked0 (s : RS) (b : List Int) (x a : Int) (hb : Bys b) (hn : b.length ≤ 140737488355328) : Does Try.prog 192 [slA .u8 b, uA x, .fn 97 [.ref 0 0] [], iA a] [rdr s] (.tup []) [rdr (if x = crcI b then s else s.fail 6 a)] := by
  have e := sum_u64 hb
  refine Does.run Try.func192 b192 n192 Try.ntmps192 (by simp only [List.cons_append, List.nil_append, List.length_cons, List.length_nil, Nat.zero_add, Nat.reduceAdd, Nat.reduceSub, List.replicate]; rfl) ?_; simp only [c192, go_sem, Nat.reduceAdd, Nat.reduceMul, Int.reduceToNat, Nat.reduceLeDiff, Int.reduceLE, Int.reduceLT, ↓reduceIte, Int.reduceBEq, Int.reduceBNe, Int.reduceAdd, Int.reduceSub, Int.reduceMul, qFin_ret, qFin_normal]; (try ((refine okTr_and ?_ ?_); (· rfl)))
  refine CallK.p (crc_Sum b hb hn) ?_; (simp only [go_sem, Nat.reduceAdd, Nat.reduceMul, Int.reduceToNat, Nat.reduceLeDiff, Int.reduceLE, Int.reduceLT, ↓reduceIte, Int.reduceBEq, Int.reduceBNe, Int.reduceAdd, Int.reduceSub, Int.reduceMul, qFin_ret, qFin_normal, e]; (try ((refine okTr_and ?_ ?_); (· rfl))))
  by_cases h : x = crcI b
  · have q : (crcI b != x) = false := by simp [h]
    (simp only [go_sem, Nat.reduceAdd, Nat.reduceMul, Int.reduceToNat, Nat.reduceLeDiff, Int.reduceLE, Int.reduceLT, ↓reduceIte, Int.reduceBEq, Int.reduceBNe, Int.reduceAdd, Int.reduceSub, Int.reduceMul, qFin_ret, qFin_normal, q]; (try ((refine okTr_and ?_ ?_); (· rfl))))
    ((refine FinK.fin r192 [0] ?_ ?_ ?_ ?_ ?_ ?_); (· decide); (· rfl); (· simp); (· rfl); (· first | with_reducible rfl | (simp [ints_nil, ren_lit, ren_ref, ren_any, ren_agg, ren_tup, ren_sl, ren_fn, tren_none, tren_full, tren_row, oren_cells, oren_row, oren_dead, ixs_z, ixs_1, ixs_2, ixs_3, ren_ints, List.map_cons, List.map_nil, h, rdr_ren]; done) | rfl); (· simp [resAL, resA1, loadA, oneOr, ints_nil, ren_lit, ren_ref, ren_any, ren_agg, ren_tup, ren_sl, ren_fn, tren_none, tren_full, tren_row, oren_cells, oren_row, oren_dead, ixs_z, ixs_1, ixs_2, ixs_3, ren_ints, List.map_cons, List.map_nil, h, rdr_ren]))
  · have q : (crcI b != x) = true := by simp; exact fun h' => h h'.symm
    (simp only [go_sem, Nat.reduceAdd, Nat.reduceMul, Int.reduceToNat, Nat.reduceLeDiff, Int.reduceLE, Int.reduceLT, ↓reduceIte, Int.reduceBEq, Int.reduceBNe, Int.reduceAdd, Int.reduceSub, Int.reduceMul, qFin_ret, qFin_normal, q]; (try ((refine okTr_and ?_ ?_); (· rfl))))
    refine CallK.u1 (Reader_Fail s 6 a 0) rfl ?_; (simp only [go_sem, Nat.reduceAdd, Nat.reduceMul, Int.reduceToNat, Nat.reduceLeDiff, Int.reduceLE, Int.reduceLT, ↓reduceIte, Int.reduceBEq, Int.reduceBNe, Int.reduceAdd, Int.reduceSub, Int.reduceMul, qFin_ret, qFin_normal]; (try ((refine okTr_and ?_ ?_); (· rfl))))
    ((refine FinK.fin r192 [0] ?_ ?_ ?_ ?_ ?_ ?_); (· decide); (· rfl); (· simp); (· rfl); (· first | with_reducible rfl | (simp [ints_nil, ren_lit, ren_ref, ren_any, ren_agg, ren_tup, ren_sl, ren_fn, tren_none, tren_full, tren_row, oren_cells, oren_row, oren_dead, ixs_z, ixs_1, ixs_2, ixs_3, ren_ints, List.map_cons, List.map_nil, h, rdr_ren]; done) | rfl); (· simp [resAL, resA1, loadA, oneOr, ints_nil, ren_lit, ren_ref, ren_any, ren_agg, ren_tup, ren_sl, ren_fn, tren_none, tren_full, tren_row, oren_cells, oren_row, oren_dead, ixs_z, ixs_1, ixs_2, ixs_3, ren_ints, List.map_cons, List.map_nil, h, rdr_ren]))
theorem frame_checked (s : RS) (b : List Int) (x a : Int) (i : Nat) (hb : Bys b) (hn : b.length ≤ 140737488355328) : Ct Try.prog 192 [slA .u8 b, uA x, .fn 97 [.ref i 0] [], iA a] [(i, rdr s)] (fun _ => .tup []) [(i, rdr (if x = crcI b then s else s.fail 6 a))] (fun _ => []) :=
  Ct.u1 (frame_checked0 s b x a hb hn) i (by intros; simp [ints_nil, ren_lit, ren_ref, ren_any, ren_agg, ren_tup, ren_sl, ren_fn, tren_none, tren_full, tren_row, oren_cells, oren_row, oren_dead, ixs_z, ixs_1, ixs_2, ixs_3, ren_ints, List.map_cons, List.map_nil, ixs, List.range'_succ, ren_ints]) (fun ρ => rdr_ren ρ _) (fun ρ => rdr_ren ρ _) (rdr_dead s) (by intros; simp [ints_nil, ren_lit, ren_ref, ren_any, ren_agg, ren_tup, ren_sl, ren_fn, tren_none, tren_full, tren_row, oren_cells, oren_row, oren_dead, ixs_z, ixs_1, ixs_2, ixs_3, ren_ints, List.map_cons, List.map_nil, flt])
theorem frame_Read0 (s : RS) (m : Int) (hs : ROk s) (m1 : m < 9223372036854775808) : Does Try.prog 181 [.ref 0 0, iA m] [rdr s] (slA .u8 (s.frame m).2) [rdr ((s.frame m).1)] := by
  obtain ⟨a1, a2⟩ := RS.ok.blob hs (mfr m)
  have hsh := blob_short hs (mfr m)
  have hlen := hs.len
  refine Does.run Try.func181 b181 n181 Try.ntmps181 (by simp only [List.cons_append, List.nil_append, List.length_cons, List.length_nil, Nat.zero_add, Nat.reduceAdd, Nat.reduceSub, List.replicate]; rfl) ?_; simp only [c181, go_sem, Nat.reduceAdd, Nat.reduceMul, Int.reduceToNat, Nat.reduceLeDiff, Int.reduceLE, Int.reduceLT, ↓reduceIte, Int.reduceBEq, Int.reduceBNe, Int.reduceAdd, Int.reduceSub, Int.reduceMul, qFin_ret, qFin_normal]; (try ((refine okTr_and ?_ ?_); (· rfl)))
  refine CallK.p (frame_bound m) ?_; (simp only [go_sem, Nat.reduceAdd, Nat.reduceMul, Int.reduceToNat, Nat.reduceLeDiff, Int.reduceLE, Int.reduceLT, ↓reduceIte, Int.reduceBEq, Int.reduceBNe, Int.reduceAdd, Int.reduceSub, Int.reduceMul, qFin_ret, qFin_normal]; (try ((refine okTr_and ?_ ?_); (· rfl))))
  refine CallK.u1 (blob_Read s (mfr m) _ (by unfold mfr; omega) hs) rfl ?_; (simp only [go_sem, Nat.reduceAdd, Nat.reduceMul, Int.reduceToNat, Nat.reduceLeDiff, Int.reduceLE, Int.reduceLT, ↓reduceIte, Int.reduceBEq, Int.reduceBNe, Int.reduceAdd, Int.reduceSub, Int.reduceMul, qFin_ret, qFin_normal]; (try ((refine okTr_and ?_ ?_); (· rfl))))
  generalize hB : s.blob (mfr m) = B at *
  obtain ⟨t, p⟩ := B
  simp only at a1 a2 hsh
  have e : s.frame m = if (t.fixed 4).1.code = 0 then (if (t.fixed 4).2 = crcI p then ((t.fixed 4).1, p) else ((t.fixed 4).1.fail 6 t.at_, [])) else ((t.fixed 4).1, []) := by
    unfold RS.frame; rw [hB]
  refine CallK.r1 (Reader_At t _) rfl ?_; (simp only [go_sem, Nat.reduceAdd, Nat.reduceMul, Int.reduceToNat, Nat.reduceLeDiff, Int.reduceLE, Int.reduceLT, ↓reduceIte, Int.reduceBEq, Int.reduceBNe, Int.reduceAdd, Int.reduceSub, Int.reduceMul, qFin_ret, qFin_normal]; (try ((refine okTr_and ?_ ?_); (· rfl))))
  refine CallK.u1 (blob_ReadFixed t 4 _ a1) rfl ?_; (simp only [go_sem, Nat.reduceAdd, Nat.reduceMul, Int.reduceToNat, Nat.reduceLeDiff, Int.reduceLE, Int.reduceLT, ↓reduceIte, Int.reduceBEq, Int.reduceBNe, Int.reduceAdd, Int.reduceSub, Int.reduceMul, qFin_ret, qFin_normal]; (try ((refine okTr_and ?_ ?_); (· rfl))))
  refine CallK.u1 (frame_checked (t.fixed 4).1 p (t.fixed 4).2 t.at_ _ hsh.2 (by omega)) rfl ?_; (simp only [go_sem, Nat.reduceAdd, Nat.reduceMul, Int.reduceToNat, Nat.reduceLeDiff, Int.reduceLE, Int.reduceLT, ↓reduceIte, Int.reduceBEq, Int.reduceBNe, Int.reduceAdd, Int.reduceSub, Int.reduceMul, qFin_ret, qFin_normal]; (try ((refine okTr_and ?_ ?_); (· rfl))))
  by_cases hc : (t.fixed 4).1.code = 0
  · rw [if_pos hc] at e
    by_cases hx : (t.fixed 4).2 = crcI p
    · rw [if_pos hx] at e
      rw [if_pos hx]
      refine CallK.r1 (Reader_Good (t.fixed 4).1 _) rfl ?_; (simp only [go_sem, Nat.reduceAdd, Nat.reduceMul, Int.reduceToNat, Nat.reduceLeDiff, Int.reduceLE, Int.reduceLT, ↓reduceIte, Int.reduceBEq, Int.reduceBNe, Int.reduceAdd, Int.reduceSub, Int.reduceMul, qFin_ret, qFin_normal, good_true hc]; (try ((refine okTr_and ?_ ?_); (· rfl))))
      ((refine FinK.fin r181 [0] ?_ ?_ ?_ ?_ ?_ ?_); (· decide); (· rfl); (· simp); (· rfl); (· first | with_reducible rfl | (simp [ints_nil, ren_lit, ren_ref, ren_any, ren_agg, ren_tup, ren_sl, ren_fn, tren_none, tren_full, tren_row, oren_cells, oren_row, oren_dead, ixs_z, ixs_1, ixs_2, ixs_3, ren_ints, List.map_cons, List.map_nil, e, rdr_ren]; done) | rfl); (· simp [resAL, resA1, loadA, oneOr, ints_nil, ren_lit, ren_ref, ren_any, ren_agg, ren_tup, ren_sl, ren_fn, tren_none, tren_full, tren_row, oren_cells, oren_row, oren_dead, ixs_z, ixs_1, ixs_2, ixs_3, ren_ints, List.map_cons, List.map_nil, e, rdr_ren]))
    · rw [if_neg hx] at e
      rw [if_neg hx]
      have hb : ¬ ((t.fixed 4).1.fail 6 t.at_).code = 0 := fail_not0 _ _ hc (by decide)
      refine CallK.r1 (Reader_Good ((t.fixed 4).1.fail 6 t.at_) _) rfl ?_; (simp only [go_sem, Nat.reduceAdd, Nat.reduceMul, Int.reduceToNat, Nat.reduceLeDiff, Int.reduceLE, Int.reduceLT, ↓reduceIte, Int.reduceBEq, Int.reduceBNe, Int.reduceAdd, Int.reduceSub, Int.reduceMul, qFin_ret, qFin_normal, good_false hb]; (try ((refine okTr_and ?_ ?_); (· rfl))))
      (refine FinK.untag 4 rfl ?_; simp only [untag1_sl, List.set_cons_zero, List.set_cons_succ])
      ((refine FinK.fin r181 [0] ?_ ?_ ?_ ?_ ?_ ?_); (· decide); (· rfl); (· simp); (· rfl); (· first | with_reducible rfl | (simp [ints_nil, ren_lit, ren_ref, ren_any, ren_agg, ren_tup, ren_sl, ren_fn, tren_none, tren_full, tren_row, oren_cells, oren_row, oren_dead, ixs_z, ixs_1, ixs_2, ixs_3, ren_ints, List.map_cons, List.map_nil, e, rdr_ren]; done) | rfl); (· simp [resAL, resA1, loadA, oneOr, ints_nil, ren_lit, ren_ref, ren_any, ren_agg, ren_tup, ren_sl, ren_fn, tren_none, tren_full, tren_row, oren_cells, oren_row, oren_dead, ixs_z, ixs_1, ixs_2, ixs_3, ren_ints, List.map_cons, List.map_nil, e, rdr_ren]))
  · rw [if_neg hc] at e
    have hk : ((if (t.fixed 4).2 = crcI p then (t.fixed 4).1 else (t.fixed 4).1.fail 6 t.at_)) = (t.fixed 4).1 := by
      split
      · rfl
      · unfold RS.fail; rw [if_neg hc]
    rw [hk]
    refine CallK.r1 (Reader_Good (t.fixed 4).1 _) rfl ?_; (simp only [go_sem, Nat.reduceAdd, Nat.reduceMul, Int.reduceToNat, Nat.reduceLeDiff, Int.reduceLE, Int.reduceLT, ↓reduceIte, Int.reduceBEq, Int.reduceBNe, Int.reduceAdd, Int.reduceSub, Int.reduceMul, qFin_ret, qFin_normal, good_false hc]; (try ((refine okTr_and ?_ ?_); (· rfl))))
    (refine FinK.untag 4 rfl ?_; simp only [untag1_sl, List.set_cons_zero, List.set_cons_succ])
    ((refine FinK.fin r181 [0] ?_ ?_ ?_ ?_ ?_ ?_); (· decide); (· rfl); (· simp); (· rfl); (· first | with_reducible rfl | (simp [ints_nil, ren_lit, ren_ref, ren_any, ren_agg, ren_tup, ren_sl, ren_fn, tren_none, tren_full, tren_row, oren_cells, oren_row, oren_dead, ixs_z, ixs_1, ixs_2, ixs_3, ren_ints, List.map_cons, List.map_nil, e, rdr_ren]; done) | rfl); (· simp [resAL, resA1, loadA, oneOr, ints_nil, ren_lit, ren_ref, ren_any, ren_agg, ren_tup, ren_sl, ren_fn, tren_none, tren_full, tren_row, oren_cells, oren_row, oren_dead, ixs_z, ixs_1, ixs_2, ixs_3, ren_ints, List.map_cons, List.map_nil, e, rdr_ren]))
theorem frame_Read (s : RS) (m : Int) (i : Nat) (hs : ROk s) (m1 : m < 9223372036854775808) : Ct Try.prog 181 [.ref i 0, iA m] [(i, rdr s)] (fun _ => slA .u8 (s.frame m).2) [(i, rdr ((s.frame m).1))] (fun _ => []) := Ct.u1 (frame_Read0 s m hs m1) i (by intros; simp [ints_nil, ren_lit, ren_ref, ren_any, ren_agg, ren_tup, ren_sl, ren_fn, tren_none, tren_full, tren_row, oren_cells, oren_row, oren_dead, ixs_z, ixs_1, ixs_2, ixs_3, ren_ints, List.map_cons, List.map_nil, ixs, List.range'_succ, ren_ints]) (fun ρ => rdr_ren ρ _) (fun ρ => rdr_ren ρ _) (rdr_dead _) (by intros; simp [ints_nil, ren_lit, ren_ref, ren_any, ren_agg, ren_tup, ren_sl, ren_fn, tren_none, tren_full, tren_row, oren_cells, oren_row, oren_dead, ixs_z, ixs_1, ixs_2, ixs_3, ren_ints, List.map_cons, List.map_nil, ixs, List.range'_succ, ren_ints])
theorem frame_Get0 (b : List Int) (m : Int) (hb : Bys b) (hn : b.length ≤ 140737488355328) (m1 : m < 9223372036854775808) : Does Try.prog 154 [slA .u8 b, iA m] [] (.tup [slA .u8 (getF b m).1, iA (getF b m).2.1, fltA (getF b m).2.2]) [] := by
  have hok : ROk (RS.new b) := ROk.new hb hn
  refine Does.run Try.func154 b154 n154 Try.ntmps154 (by simp only [List.cons_append, List.nil_append, List.length_cons, List.length_nil, Nat.zero_add, Nat.reduceAdd, Nat.reduceSub, List.replicate]; rfl) ?_; simp only [c154, go_sem, Nat.reduceAdd, Nat.reduceMul, Int.reduceToNat, Nat.reduceLeDiff, Int.reduceLE, Int.reduceLT, ↓reduceIte, Int.reduceBEq, Int.reduceBNe, Int.reduceAdd, Int.reduceSub, Int.reduceMul, qFin_ret, qFin_normal]; (try ((refine okTr_and ?_ ?_); (· rfl)))
  refine CallK.n (cursor_New b) ?_; (simp only [go_sem, Nat.reduceAdd, Nat.reduceMul, Int.reduceToNat, Nat.reduceLeDiff, Int.reduceLE, Int.reduceLT, ↓reduceIte, Int.reduceBEq, Int.reduceBNe, Int.reduceAdd, Int.reduceSub, Int.reduceMul, qFin_ret, qFin_normal]; (try ((refine okTr_and ?_ ?_); (· rfl))))
  refine CallK.u1 (frame_Read (RS.new b) m _ hok m1) rfl ?_; (simp only [go_sem, Nat.reduceAdd, Nat.reduceMul, Int.reduceToNat, Nat.reduceLeDiff, Int.reduceLE, Int.reduceLT, ↓reduceIte, Int.reduceBEq, Int.reduceBNe, Int.reduceAdd, Int.reduceSub, Int.reduceMul, qFin_ret, qFin_normal]; (try ((refine okTr_and ?_ ?_); (· rfl))))
  refine CallK.r1 (Reader_Fault ((RS.new b).frame m).1 _) rfl ?_; (simp only [go_sem, Nat.reduceAdd, Nat.reduceMul, Int.reduceToNat, Nat.reduceLeDiff, Int.reduceLE, Int.reduceLT, ↓reduceIte, Int.reduceBEq, Int.reduceBNe, Int.reduceAdd, Int.reduceSub, Int.reduceMul, qFin_ret, qFin_normal]; (try ((refine okTr_and ?_ ?_); (· rfl))))
  by_cases hc : ((RS.new b).frame m).1.code = 0
  · have e : getF b m = (((RS.new b).frame m).2, ((RS.new b).frame m).1.at_, (0, 0)) := by unfold getF; rw [if_pos hc]
    have q : (((RS.new b).frame m).1.code == 0) = true := by simpa using hc
    refine CallK.p (fault_Good _ _) ?_; (simp only [go_sem, Nat.reduceAdd, Nat.reduceMul, Int.reduceToNat, Nat.reduceLeDiff, Int.reduceLE, Int.reduceLT, ↓reduceIte, Int.reduceBEq, Int.reduceBNe, Int.reduceAdd, Int.reduceSub, Int.reduceMul, qFin_ret, qFin_normal, q]; (try ((refine okTr_and ?_ ?_); (· rfl))))
    refine CallK.r1 (Reader_At ((RS.new b).frame m).1 _) rfl ?_; (simp only [go_sem, Nat.reduceAdd, Nat.reduceMul, Int.reduceToNat, Nat.reduceLeDiff, Int.reduceLE, Int.reduceLT, ↓reduceIte, Int.reduceBEq, Int.reduceBNe, Int.reduceAdd, Int.reduceSub, Int.reduceMul, qFin_ret, qFin_normal]; (try ((refine okTr_and ?_ ?_); (· rfl))))
    ((refine FinK.fin r154 [] ?_ ?_ ?_ ?_ ?_ ?_); (· decide); (· rfl); (· simp); (· rfl); (· first | with_reducible rfl | (simp [ints_nil, ren_lit, ren_ref, ren_any, ren_agg, ren_tup, ren_sl, ren_fn, tren_none, tren_full, tren_row, oren_cells, oren_row, oren_dead, ixs_z, ixs_1, ixs_2, ixs_3, ren_ints, List.map_cons, List.map_nil, e]; done) | rfl); (· simp [resAL, resA1, loadA, oneOr, ints_nil, ren_lit, ren_ref, ren_any, ren_agg, ren_tup, ren_sl, ren_fn, tren_none, tren_full, tren_row, oren_cells, oren_row, oren_dead, ixs_z, ixs_1, ixs_2, ixs_3, ren_ints, List.map_cons, List.map_nil, e]))
  · have e : getF b m = ([], 0, (((RS.new b).frame m).1.code, ((RS.new b).frame m).1.fat)) := by unfold getF; rw [if_neg hc]
    have q : (((RS.new b).frame m).1.code == 0) = false := by simpa using hc
    refine CallK.p (fault_Good _ _) ?_; (simp only [go_sem, Nat.reduceAdd, Nat.reduceMul, Int.reduceToNat, Nat.reduceLeDiff, Int.reduceLE, Int.reduceLT, ↓reduceIte, Int.reduceBEq, Int.reduceBNe, Int.reduceAdd, Int.reduceSub, Int.reduceMul, qFin_ret, qFin_normal, q]; (try ((refine okTr_and ?_ ?_); (· rfl))))
    (refine FinK.untag 4 rfl ?_; simp only [untag1_sl, List.set_cons_zero, List.set_cons_succ])
    ((refine FinK.fin r154 [] ?_ ?_ ?_ ?_ ?_ ?_); (· decide); (· rfl); (· simp); (· rfl); (· first | with_reducible rfl | (simp [ints_nil, ren_lit, ren_ref, ren_any, ren_agg, ren_tup, ren_sl, ren_fn, tren_none, tren_full, tren_row, oren_cells, oren_row, oren_dead, ixs_z, ixs_1, ixs_2, ixs_3, ren_ints, List.map_cons, List.map_nil, e]; done) | rfl); (· simp [resAL, resA1, loadA, oneOr, ints_nil, ren_lit, ren_ref, ren_any, ren_agg, ren_tup, ren_sl, ren_fn, tren_none, tren_full, tren_row, oren_cells, oren_row, oren_dead, ixs_z, ixs_1, ixs_2, ixs_3, ren_ints, List.map_cons, List.map_nil, e]))
theorem frame_Get (b : List Int) (m : Int) (hb : Bys b) (hn : b.length ≤ 140737488355328) (m1 : m < 9223372036854775808) : Ct Try.prog 154 [slA .u8 b, iA m] [] (fun _ => .tup [slA .u8 (getF b m).1, iA (getF b m).2.1, fltA (getF b m).2.2]) [] (fun _ => []) := (frame_Get0 b m hb hn m1).toCt (by intros; simp [ints_nil, ren_lit, ren_ref, ren_any, ren_agg, ren_tup, ren_sl, ren_fn, tren_none, tren_full, tren_row, oren_cells, oren_row, oren_dead, ixs_z, ixs_1, ixs_2, ixs_3, ren_ints, List.map_cons, List.map_nil, ixs, List.range'_succ, ren_ints]) (by intros; simp [ints_nil, ren_lit, ren_ref, ren_any, ren_agg, ren_tup, ren_sl, ren_fn, tren_none, tren_full, tren_row, oren_cells, oren_row, oren_dead, ixs_z, ixs_1, ixs_2, ixs_3, ren_ints, List.map_cons, List.map_nil, ixs, List.range'_succ, ren_ints])
theorem ref08_Bytes0 (p : List Int) (hp : Bys p) (hn : p.length ≤ 100000000) : Does Try.prog 158 [slA .u8 p] [] (ownA 0 (frameB p)) [.row 1 (frameB p).length] := by
  have hr := crcI_range hp
  have e := sum_u64 hp
  have hl := lowBytes_len 4 (crcI p)
  have hbl : (blobB p).length ≤ p.length + 10 := by unfold blobB; rw [List.length_append]; have := (vb_len (p.length : Int)).2; omega
  have ef : blobB p ++ lowBytes 4 (crcI p) = frameB p := rfl
  have ef2 : (blobB p).length + (lowBytes 4 (crcI p)).length = (frameB p).length := by rw [frameB_len, hl]
  refine Does.run Try.func158 b158 n158 Try.ntmps158 (by simp only [List.cons_append, List.nil_append, List.length_cons, List.length_nil, Nat.zero_add, Nat.reduceAdd, Nat.reduceSub, List.replicate]; rfl) ?_; simp only [c158, go_sem, Nat.reduceAdd, Nat.reduceMul, Int.reduceToNat, Nat.reduceLeDiff, Int.reduceLE, Int.reduceLT, ↓reduceIte, Int.reduceBEq, Int.reduceBNe, Int.reduceAdd, Int.reduceSub, Int.reduceMul, qFin_ret, qFin_normal]; (try ((refine okTr_and ?_ ?_); (· rfl)))
  refine CallK.n (ref06_Bytes p (by omega)) ?_; (simp only [go_sem, Nat.reduceAdd, Nat.reduceMul, Int.reduceToNat, Nat.reduceLeDiff, Int.reduceLE, Int.reduceLT, ↓reduceIte, Int.reduceBEq, Int.reduceBNe, Int.reduceAdd, Int.reduceSub, Int.reduceMul, qFin_ret, qFin_normal]; (try ((refine okTr_and ?_ ?_); (· rfl))))
  refine CallK.p (ref07_Sum p hp (by omega)) ?_; (simp only [go_sem, Nat.reduceAdd, Nat.reduceMul, Int.reduceToNat, Nat.reduceLeDiff, Int.reduceLE, Int.reduceLT, ↓reduceIte, Int.reduceBEq, Int.reduceBNe, Int.reduceAdd, Int.reduceSub, Int.reduceMul, qFin_ret, qFin_normal, e]; (try ((refine okTr_and ?_ ?_); (· rfl))))
  refine CallK.p (ref03_Fixed (crcI p) 4 hr.1 (by omega) (by omega)) ?_; (simp only [go_sem, Nat.reduceAdd, Nat.reduceMul, Int.reduceToNat, Nat.reduceLeDiff, Int.reduceLE, Int.reduceLT, ↓reduceIte, Int.reduceBEq, Int.reduceBNe, Int.reduceAdd, Int.reduceSub, Int.reduceMul, qFin_ret, qFin_normal, ints_append, ints_length, ef, ef2]; (try ((refine okTr_and ?_ ?_); (· rfl))))
  (repeat ((with_reducible refine And.intro ?_ ?_); (· first | with_reducible assumption | omega | with_reducible rfl | (simp only [List.length_append, List.length_cons, List.length_nil, List.length_singleton]; omega) | (simp [ints_length, okEl_eq, AV.parts]; done) | (simp [ints_length, okEl_eq, AV.parts]; omega) | rfl)))
  ((refine FinK.fin r158 [0] ?_ ?_ ?_ ?_ ?_ ?_); (· decide); (· rfl); (· simp); (· rfl); (· first | with_reducible rfl | (simp [ints_nil, ren_lit, ren_ref, ren_any, ren_agg, ren_tup, ren_sl, ren_fn, tren_none, tren_full, tren_row, oren_cells, oren_row, oren_dead, ixs_z, ixs_1, ixs_2, ixs_3, ren_ints, List.map_cons, List.map_nil]; done) | rfl); (· simp [resAL, resA1, loadA, oneOr, ints_nil, ren_lit, ren_ref, ren_any, ren_agg, ren_tup, ren_sl, ren_fn, tren_none, tren_full, tren_row, oren_cells, oren_row, oren_dead, ixs_z, ixs_1, ixs_2, ixs_3, ren_ints, List.map_cons, List.map_nil]))
theorem ref08_Bytes (p : List Int) (hp : Bys p) (hn : p.length ≤ 100000000) : Ct Try.prog 158 [slA .u8 p] [] (fun n => ownA n (frameB p)) [] (fun _ => [.row 1 (frameB p).length]) := Ct.n (ref08_Bytes0 p hp hn) (by intros; simp [ints_nil, ren_lit, ren_ref, ren_any, ren_agg, ren_tup, ren_sl, ren_fn, tren_none, tren_full, tren_row, oren_cells, oren_row, oren_dead, ixs_z, ixs_1, ixs_2, ixs_3, ren_ints, List.map_cons, List.map_nil, ixs, List.range'_succ, ren_ints]) (by intros; simp [ints_nil, ren_lit, ren_ref, ren_any, ren_agg, ren_tup, ren_sl, ren_fn, tren_none, tren_full, tren_row, oren_cells, oren_row, oren_dead, ixs_z, ixs_1, ixs_2, ixs_3, ren_ints, List.map_cons, List.map_nil, ixs, List.range'_succ, ren_ints]) (by intros; simp [ints_nil, ren_lit, ren_ref, ren_any, ren_agg, ren_tup, ren_sl, ren_fn, tren_none, tren_full, tren_row, oren_cells, oren_row, oren_dead, ixs_z, ixs_1, ixs_2, ixs_3, ren_ints, List.map_cons, List.map_nil, flt])
set_option maxRecDepth 100000 in
theorem ref08_Read0 (s : RS) (m : Int) (hs : ROk s) (m1 : m < 9223372036854775808) : Does Try.prog 157 [cv s, iA m] [] (.tup [cv (s.frame m).1, slA .u8 (s.frame m).2]) [] := by
  obtain ⟨a1, a2⟩ := RS.ok.blob hs (mfr m)
  have hsh := blob_short hs (mfr m)
  have hlen := hs.len
  have hm := mfr_le m
  obtain ⟨B, hB⟩ : ∃ B, s.blob (mfr m) = B := ⟨_, rfl⟩
  rw [hB] at a1 a2 hsh
  obtain ⟨t, p⟩ := B
  simp only at a1 a2 hsh
  have e : s.frame m = if (t.fixed 4).1.code = 0 then (if (t.fixed 4).2 = crcI p then ((t.fixed 4).1, p) else ((t.fixed 4).1.fail 6 t.at_, [])) else ((t.fixed 4).1, []) := by
    unfold RS.frame; rw [hB]
  have eb := sum_u64 hsh.2
  obtain ⟨F, hF⟩ : ∃ F, t.fixed 4 = F := ⟨_, rfl⟩
  have hF' : t.fixed (min (max 4 0) 8) = F := hF
  rw [hF] at e
  obtain ⟨u, x⟩ := F
  simp only at e
  obtain ⟨M, hM⟩ : ∃ M, mfr m = M := ⟨_, rfl⟩
  rw [hM] at hB hm
  refine Does.run Try.func157 b157 n157 Try.ntmps157 (by simp only [List.cons_append, List.nil_append, List.length_cons, List.length_nil, Nat.zero_add, Nat.reduceAdd, Nat.reduceSub, List.replicate]; rfl) ?_; simp only [c157, go_sem, Nat.reduceAdd, Nat.reduceMul, Int.reduceToNat, Nat.reduceLeDiff, Int.reduceLE, Int.reduceLT, ↓reduceIte, Int.reduceBEq, Int.reduceBNe, Int.reduceAdd, Int.reduceSub, Int.reduceMul, qFin_ret, qFin_normal]; (try ((refine okTr_and ?_ ?_); (· rfl)))
  by_cases hmm : 2097152 < m
  · have q : decide (2097152 < m) = true := by simpa using hmm
    have em : M = 2097152 := by rw [← hM]; unfold mfr; omega
    subst em
    (simp only [go_sem, Nat.reduceAdd, Nat.reduceMul, Int.reduceToNat, Nat.reduceLeDiff, Int.reduceLE, Int.reduceLT, ↓reduceIte, Int.reduceBEq, Int.reduceBNe, Int.reduceAdd, Int.reduceSub, Int.reduceMul, qFin_ret, qFin_normal, q]; (try ((refine okTr_and ?_ ?_); (· rfl))))
    refine CallK.p (ref06_Read s 2097152 (by omega) hs) ?_; (simp only [go_sem, Nat.reduceAdd, Nat.reduceMul, Int.reduceToNat, Nat.reduceLeDiff, Int.reduceLE, Int.reduceLT, ↓reduceIte, Int.reduceBEq, Int.reduceBNe, Int.reduceAdd, Int.reduceSub, Int.reduceMul, qFin_ret, qFin_normal, hB]; (try ((refine okTr_and ?_ ?_); (· rfl))))
    refine CallK.p (ref06_Fixed t 4 a1) ?_
    by_cases hc : u.code = 0
    · have q1 : (u.code == 0) = true := by simpa using hc
      have q1' : (u.code != 0) = false := by simpa using hc
      rw [if_pos hc] at e
      (simp only [go_sem, Nat.reduceAdd, Nat.reduceMul, Int.reduceToNat, Nat.reduceLeDiff, Int.reduceLE, Int.reduceLT, ↓reduceIte, Int.reduceBEq, Int.reduceBNe, Int.reduceAdd, Int.reduceSub, Int.reduceMul, qFin_ret, qFin_normal, hF', q1]; (try ((refine okTr_and ?_ ?_); (· rfl))))
      refine CallK.p (ref07_Sum p hsh.2 (by omega)) ?_
      by_cases hx : x = crcI p
      · have q2 : (x != crcI p) = false := by simpa using hx
        rw [if_pos hx] at e
        (simp only [go_sem, Nat.reduceAdd, Nat.reduceMul, Int.reduceToNat, Nat.reduceLeDiff, Int.reduceLE, Int.reduceLT, ↓reduceIte, Int.reduceBEq, Int.reduceBNe, Int.reduceAdd, Int.reduceSub, Int.reduceMul, qFin_ret, qFin_normal, eb, q2, q1']; (try ((refine okTr_and ?_ ?_); (· rfl))))
        ((refine FinK.fin r157 [] ?_ ?_ ?_ ?_ ?_ ?_); (· decide); (· rfl); (· simp); (· rfl); (· first | with_reducible rfl | (simp [ints_nil, ren_lit, ren_ref, ren_any, ren_agg, ren_tup, ren_sl, ren_fn, tren_none, tren_full, tren_row, oren_cells, oren_row, oren_dead, ixs_z, ixs_1, ixs_2, ixs_3, ren_ints, List.map_cons, List.map_nil, e]; done) | rfl); (· simp [resAL, resA1, loadA, oneOr, ints_nil, ren_lit, ren_ref, ren_any, ren_agg, ren_tup, ren_sl, ren_fn, tren_none, tren_full, tren_row, oren_cells, oren_row, oren_dead, ixs_z, ixs_1, ixs_2, ixs_3, ren_ints, List.map_cons, List.map_nil, e]))
      · have q2 : (x != crcI p) = true := by simpa using hx
        have q3 : ((u.fail 6 t.at_).code != 0) = true := by simpa using fail_not0 6 t.at_ hc (by decide)
        rw [if_neg hx] at e
        (simp only [go_sem, Nat.reduceAdd, Nat.reduceMul, Int.reduceToNat, Nat.reduceLeDiff, Int.reduceLE, Int.reduceLT, ↓reduceIte, Int.reduceBEq, Int.reduceBNe, Int.reduceAdd, Int.reduceSub, Int.reduceMul, qFin_ret, qFin_normal, eb, q2]; (try ((refine okTr_and ?_ ?_); (· rfl))))
        refine CallK.p (ref02_Fail u 6 t.at_) ?_; (simp only [go_sem, Nat.reduceAdd, Nat.reduceMul, Int.reduceToNat, Nat.reduceLeDiff, Int.reduceLE, Int.reduceLT, ↓reduceIte, Int.reduceBEq, Int.reduceBNe, Int.reduceAdd, Int.reduceSub, Int.reduceMul, qFin_ret, qFin_normal, q3]; (try ((refine okTr_and ?_ ?_); (· rfl))))
        (refine FinK.untag 5 rfl ?_; simp only [untag1_sl, List.set_cons_zero, List.set_cons_succ])
        ((refine FinK.fin r157 [] ?_ ?_ ?_ ?_ ?_ ?_); (· decide); (· rfl); (· simp); (· rfl); (· first | with_reducible rfl | (simp [ints_nil, ren_lit, ren_ref, ren_any, ren_agg, ren_tup, ren_sl, ren_fn, tren_none, tren_full, tren_row, oren_cells, oren_row, oren_dead, ixs_z, ixs_1, ixs_2, ixs_3, ren_ints, List.map_cons, List.map_nil, e]; done) | rfl); (· simp [resAL, resA1, loadA, oneOr, ints_nil, ren_lit, ren_ref, ren_any, ren_agg, ren_tup, ren_sl, ren_fn, tren_none, tren_full, tren_row, oren_cells, oren_row, oren_dead, ixs_z, ixs_1, ixs_2, ixs_3, ren_ints, List.map_cons, List.map_nil, e]))
    · have q1 : (u.code == 0) = false := by simpa using hc
      have q1' : (u.code != 0) = true := by simpa using hc
      rw [if_neg hc] at e
      (simp only [go_sem, Nat.reduceAdd, Nat.reduceMul, Int.reduceToNat, Nat.reduceLeDiff, Int.reduceLE, Int.reduceLT, ↓reduceIte, Int.reduceBEq, Int.reduceBNe, Int.reduceAdd, Int.reduceSub, Int.reduceMul, qFin_ret, qFin_normal, hF', q1, q1']; (try ((refine okTr_and ?_ ?_); (· rfl))))
      (refine FinK.untag 5 rfl ?_; simp only [untag1_sl, List.set_cons_zero, List.set_cons_succ])
      ((refine FinK.fin r157 [] ?_ ?_ ?_ ?_ ?_ ?_); (· decide); (· rfl); (· simp); (· rfl); (· first | with_reducible rfl | (simp [ints_nil, ren_lit, ren_ref, ren_any, ren_agg, ren_tup, ren_sl, ren_fn, tren_none, tren_full, tren_row, oren_cells, oren_row, oren_dead, ixs_z, ixs_1, ixs_2, ixs_3, ren_ints, List.map_cons, List.map_nil, e]; done) | rfl); (· simp [resAL, resA1, loadA, oneOr, ints_nil, ren_lit, ren_ref, ren_any, ren_agg, ren_tup, ren_sl, ren_fn, tren_none, tren_full, tren_row, oren_cells, oren_row, oren_dead, ixs_z, ixs_1, ixs_2, ixs_3, ren_ints, List.map_cons, List.map_nil, e]))
  · have q : decide (2097152 < m) = false := by simpa using hmm
    have em : M = m := by rw [← hM]; unfold mfr; omega
    subst em
    (simp only [go_sem, Nat.reduceAdd, Nat.reduceMul, Int.reduceToNat, Nat.reduceLeDiff, Int.reduceLE, Int.reduceLT, ↓reduceIte, Int.reduceBEq, Int.reduceBNe, Int.reduceAdd, Int.reduceSub, Int.reduceMul, qFin_ret, qFin_normal, q]; (try ((refine okTr_and ?_ ?_); (· rfl))))
    refine CallK.p (ref06_Read s M m1 hs) ?_; (simp only [go_sem, Nat.reduceAdd, Nat.reduceMul, Int.reduceToNat, Nat.reduceLeDiff, Int.reduceLE, Int.reduceLT, ↓reduceIte, Int.reduceBEq, Int.reduceBNe, Int.reduceAdd, Int.reduceSub, Int.reduceMul, qFin_ret, qFin_normal, hB]; (try ((refine okTr_and ?_ ?_); (· rfl))))
    refine CallK.p (ref06_Fixed t 4 a1) ?_
    by_cases hc : u.code = 0
    · have q1 : (u.code == 0) = true := by simpa using hc
      have q1' : (u.code != 0) = false := by simpa using hc
      rw [if_pos hc] at e
      (simp only [go_sem, Nat.reduceAdd, Nat.reduceMul, Int.reduceToNat, Nat.reduceLeDiff, Int.reduceLE, Int.reduceLT, ↓reduceIte, Int.reduceBEq, Int.reduceBNe, Int.reduceAdd, Int.reduceSub, Int.reduceMul, qFin_ret, qFin_normal, hF', q1]; (try ((refine okTr_and ?_ ?_); (· rfl))))
      refine CallK.p (ref07_Sum p hsh.2 (by omega)) ?_
      by_cases hx : x = crcI p
      · have q2 : (x != crcI p) = false := by simpa using hx
        rw [if_pos hx] at e
        (simp only [go_sem, Nat.reduceAdd, Nat.reduceMul, Int.reduceToNat, Nat.reduceLeDiff, Int.reduceLE, Int.reduceLT, ↓reduceIte, Int.reduceBEq, Int.reduceBNe, Int.reduceAdd, Int.reduceSub, Int.reduceMul, qFin_ret, qFin_normal, eb, q2, q1']; (try ((refine okTr_and ?_ ?_); (· rfl))))
        ((refine FinK.fin r157 [] ?_ ?_ ?_ ?_ ?_ ?_); (· decide); (· rfl); (· simp); (· rfl); (· first | with_reducible rfl | (simp [ints_nil, ren_lit, ren_ref, ren_any, ren_agg, ren_tup, ren_sl, ren_fn, tren_none, tren_full, tren_row, oren_cells, oren_row, oren_dead, ixs_z, ixs_1, ixs_2, ixs_3, ren_ints, List.map_cons, List.map_nil, e]; done) | rfl); (· simp [resAL, resA1, loadA, oneOr, ints_nil, ren_lit, ren_ref, ren_any, ren_agg, ren_tup, ren_sl, ren_fn, tren_none, tren_full, tren_row, oren_cells, oren_row, oren_dead, ixs_z, ixs_1, ixs_2, ixs_3, ren_ints, List.map_cons, List.map_nil, e]))
      · have q2 : (x != crcI p) = true := by simpa using hx
        have q3 : ((u.fail 6 t.at_).code != 0) = true := by simpa using fail_not0 6 t.at_ hc (by decide)
        rw [if_neg hx] at e
        (simp only [go_sem, Nat.reduceAdd, Nat.reduceMul, Int.reduceToNat, Nat.reduceLeDiff, Int.reduceLE, Int.reduceLT, ↓reduceIte, Int.reduceBEq, Int.reduceBNe, Int.reduceAdd, Int.reduceSub, Int.reduceMul, qFin_ret, qFin_normal, eb, q2]; (try ((refine okTr_and ?_ ?_); (· rfl))))
        refine CallK.p (ref02_Fail u 6 t.at_) ?_; (simp only [go_sem, Nat.reduceAdd, Nat.reduceMul, Int.reduceToNat, Nat.reduceLeDiff, Int.reduceLE, Int.reduceLT, ↓reduceIte, Int.reduceBEq, Int.reduceBNe, Int.reduceAdd, Int.reduceSub, Int.reduceMul, qFin_ret, qFin_normal, q3]; (try ((refine okTr_and ?_ ?_); (· rfl))))
        (refine FinK.untag 5 rfl ?_; simp only [untag1_sl, List.set_cons_zero, List.set_cons_succ])
        ((refine FinK.fin r157 [] ?_ ?_ ?_ ?_ ?_ ?_); (· decide); (· rfl); (· simp); (· rfl); (· first | with_reducible rfl | (simp [ints_nil, ren_lit, ren_ref, ren_any, ren_agg, ren_tup, ren_sl, ren_fn, tren_none, tren_full, tren_row, oren_cells, oren_row, oren_dead, ixs_z, ixs_1, ixs_2, ixs_3, ren_ints, List.map_cons, List.map_nil, e]; done) | rfl); (· simp [resAL, resA1, loadA, oneOr, ints_nil, ren_lit, ren_ref, ren_any, ren_agg, ren_tup, ren_sl, ren_fn, tren_none, tren_full, tren_row, oren_cells, oren_row, oren_dead, ixs_z, ixs_1, ixs_2, ixs_3, ren_ints, List.map_cons, List.map_nil, e]))
    · have q1 : (u.code == 0) = false := by simpa using hc
      have q1' : (u.code != 0) = true := by simpa using hc
      rw [if_neg hc] at e
      (simp only [go_sem, Nat.reduceAdd, Nat.reduceMul, Int.reduceToNat, Nat.reduceLeDiff, Int.reduceLE, Int.reduceLT, ↓reduceIte, Int.reduceBEq, Int.reduceBNe, Int.reduceAdd, Int.reduceSub, Int.reduceMul, qFin_ret, qFin_normal, hF', q1, q1']; (try ((refine okTr_and ?_ ?_); (· rfl))))
      (refine FinK.untag 5 rfl ?_; simp only [untag1_sl, List.set_cons_zero, List.set_cons_succ])
      ((refine FinK.fin r157 [] ?_ ?_ ?_ ?_ ?_ ?_); (· decide); (· rfl); (· simp); (· rfl); (· first | with_reducible rfl | (simp [ints_nil, ren_lit, ren_ref, ren_any, ren_agg, ren_tup, ren_sl, ren_fn, tren_none, tren_full, tren_row, oren_cells, oren_row, oren_dead, ixs_z, ixs_1, ixs_2, ixs_3, ren_ints, List.map_cons, List.map_nil, e]; done) | rfl); (· simp [resAL, resA1, loadA, oneOr, ints_nil, ren_lit, ren_ref, ren_any, ren_agg, ren_tup, ren_sl, ren_fn, tren_none, tren_full, tren_row, oren_cells, oren_row, oren_dead, ixs_z, ixs_1, ixs_2, ixs_3, ren_ints, List.map_cons, List.map_nil, e]))
theorem ref08_Read (s : RS) (m : Int) (hs : ROk s) (m1 : m < 9223372036854775808) : Ct Try.prog 157 [cv s, iA m] [] (fun _ => .tup [cv (s.frame m).1, slA .u8 (s.frame m).2]) [] (fun _ => []) := (ref08_Read0 s m hs m1).toCt (by intros; simp [ints_nil, ren_lit, ren_ref, ren_any, ren_agg, ren_tup, ren_sl, ren_fn, tren_none, tren_full, tren_row, oren_cells, oren_row, oren_dead, ixs_z, ixs_1, ixs_2, ixs_3, ren_ints, List.map_cons, List.map_nil, ixs, List.range'_succ, ren_ints]) (by intros; simp [ints_nil, ren_lit, ren_ref, ren_any, ren_agg, ren_tup, ren_sl, ren_fn, tren_none, tren_full, tren_row, oren_cells, oren_row, oren_dead, ixs_z, ixs_1, ixs_2, ixs_3, ren_ints, List.map_cons, List.map_nil, ixs, List.range'_succ, ren_ints])
end Go.Proofs.Ytkhnfleejgfhgaa
