/-
  Contracts of chapter 11: tokens written by the reference, tokens read.
-/
import Derived.Test.YtpjkmidjjodplaaK26
set_option linter.all false
set_option linter.unusedSimpArgs false
set_option linter.unusedVariables false
set_option linter.unnecessarySimpa false
namespace Go.Proofs.Ytpjkmidjjodplaa
open Go.RowKit

theorem toksB_snoc (l : List Tk) (t : Tk) : toksB (l ++ [t]) = toksB l ++ tokB t := by simp [toksB]
set_option maxRecDepth 100000 in
theorem ref11_Bytes0 (l : List Tk) (hr : ∀ t ∈ l, t.right = true) (hn : l.length ≤ 1000) : Does Try.prog 42 [slT l] [] (ownA 0 (toksB l)) [.row 1 (toksB l).length] := by
  have hlit : ∀ t ∈ l, t.lit.length ≤ 2000000 := fun t ht => by
    rcases right_iff.1 (hr t ht) with h | h
    · have := run_iff.1 h; omega
    · rw [(copy_iff.1 h).1]; simp
  refine Does.run Try.func42 b42 n42 Try.ntmps42 (by simp only [List.cons_append, List.nil_append, List.length_cons, List.length_nil, Nat.zero_add, Nat.reduceAdd, Nat.reduceSub, List.replicate]; rfl) ?_; simp only [c42, go_sem, Nat.reduceAdd, Nat.reduceMul, Int.reduceToNat, Nat.reduceLeDiff, Int.reduceLE, Int.reduceLT, ↓reduceIte, Int.reduceBEq, Int.reduceBNe, Int.reduceAdd, Int.reduceSub, Int.reduceMul, qFin_ret, qFin_normal]; (try ((refine okTr_and ?_ ?_); (· rfl)))
  refine loop_of (α := Nat) (fun k => [slT l, .any, .any, ownA 0 (toksB (l.take k)), iA k, .any, .any, .any, .any, .any, .any, .any, .any, .any, .any, .any, .any, .any, .any, .any, .any, .any, .any, .any, .any, .any, .any, .any, .any, .any, .any, .any, .any, .any, .any, .any, .any, .any, .any, .any, .any, .any, .any, .any, .any, .any, .any, .any, .any, .any, .any, .any, .any, .any, .any, .any, .any]) (fun k => [.row 1 (toksB (l.take k)).length]) (fun k => k ≤ l.length) (fun k => l.length - k) 0 (by simp) ((Wk.row 3 1 rfl (.inl rfl) (Nat.le_refl _)).trans (Wk.to (by simp [toksB]) (by simp [leT, toksB, ints]))) ?_
  intro k hk
  (simp only [go_sem, Nat.reduceAdd, Nat.reduceMul, Int.reduceToNat, Nat.reduceLeDiff, Int.reduceLE, Int.reduceLT, ↓reduceIte, Int.reduceBEq, Int.reduceBNe, Int.reduceAdd, Int.reduceSub, Int.reduceMul, qFin_ret, qFin_normal, tks_length]; (try ((refine okTr_and ?_ ?_); (· rfl))))
  refine cdK_split (fun h => ?_) (fun h => ?_)
  · have hlt : k < l.length := by simpa using h
    have g := tks_get l k hlt
    have ei := i64_succ k (by omega)
    have hx := hr _ (tk_mem l k hlt)
    have hx2 := hlit _ (tk_mem l k hlt)
    have hroom := toksB_room (l.take k)
    have hle := roomT_le (l := l.take k) fun t ht => hlit t (List.mem_of_mem_take ht)
    have hkl : (l.take k).length ≤ 1000 := by simp; omega
    obtain ⟨t, ht⟩ : ∃ t, l.getD k tk0 = t := ⟨_, rfl⟩
    have hs : toksB (l.take (k + 1)) = toksB (l.take k) ++ tokB t := by rw [tk_take l k hlt, toksB_snoc, ht]
    rw [ht] at g hx hx2
    (simp only [go_sem, Nat.reduceAdd, Nat.reduceMul, Int.reduceToNat, Nat.reduceLeDiff, Int.reduceLE, Int.reduceLT, ↓reduceIte, Int.reduceBEq, Int.reduceBNe, Int.reduceAdd, Int.reduceSub, Int.reduceMul, qFin_ret, qFin_normal, g, tks_length]; (try ((refine okTr_and ?_ ?_); (· rfl))))
    (repeat ((with_reducible refine And.intro ?_ ?_); (· first | with_reducible assumption | omega | with_reducible rfl | (simp only [List.length_append, List.length_cons, List.length_nil, List.length_singleton]; omega) | (simp [ints_length, okEl_eq, AV.parts]; done) | (simp [ints_length, okEl_eq, AV.parts]; omega) | rfl)))
    refine CallK.p (ref11_Run t) ?_
    cases hrn : t.run
    · have hcp := copy_iff.1 ((right_iff.1 hx).resolve_left (by rw [hrn]; simp))
      have hB : tokB t = vb (2 * t.len - 7) ++ vb (t.off - 1) := by unfold tokB; rw [hrn]; rfl
      have hv1 := (vb_len (2 * t.len - 7)).2
      have hv2 := (vb_len (t.off - 1)).2
      rw [hB, ← List.append_assoc] at hs
      have hsl := congrArg List.length hs
      simp only [List.length_append] at hsl
      have e1 : IntKind.i64.wrap (2 * t.len) = 2 * t.len := IntWalk.i64_in _ (by omega)
      have e2 : IntKind.i64.wrap (2 * t.len - 7) = 2 * t.len - 7 := IntWalk.i64_in _ (by omega)
      have e3 : IntKind.u64.wrap (2 * t.len - 7) = 2 * t.len - 7 := IntWalk.u64_in _ (by omega)
      have e4 : IntKind.i64.wrap (t.off - 1) = t.off - 1 := IntWalk.i64_in _ (by omega)
      have e5 : IntKind.u64.wrap (t.off - 1) = t.off - 1 := IntWalk.u64_in _ (by omega)
      (simp only [go_sem, Nat.reduceAdd, Nat.reduceMul, Int.reduceToNat, Nat.reduceLeDiff, Int.reduceLE, Int.reduceLT, ↓reduceIte, Int.reduceBEq, Int.reduceBNe, Int.reduceAdd, Int.reduceSub, Int.reduceMul, qFin_ret, qFin_normal, hrn, g, tks_length, e1, e2, e3]; (try ((refine okTr_and ?_ ?_); (· rfl))))
      (repeat ((with_reducible refine And.intro ?_ ?_); (· first | with_reducible assumption | omega | with_reducible rfl | (simp only [List.length_append, List.length_cons, List.length_nil, List.length_singleton]; omega) | (simp [ints_length, okEl_eq, AV.parts]; done) | (simp [ints_length, okEl_eq, AV.parts]; omega) | rfl)))
      refine CallK.p (ref04_Bytes (2 * t.len - 7) (by omega) (by omega)) ?_
      (simp only [go_sem, Nat.reduceAdd, Nat.reduceMul, Int.reduceToNat, Nat.reduceLeDiff, Int.reduceLE, Int.reduceLT, ↓reduceIte, Int.reduceBEq, Int.reduceBNe, Int.reduceAdd, Int.reduceSub, Int.reduceMul, qFin_ret, qFin_normal, g, tks_length, e4, e5, ints_append, ints_length]; (try ((refine okTr_and ?_ ?_); (· rfl))))
      (repeat ((with_reducible refine And.intro ?_ ?_); (· first | with_reducible assumption | omega | with_reducible rfl | (simp only [List.length_append, List.length_cons, List.length_nil, List.length_singleton]; omega) | (simp [ints_length, okEl_eq, AV.parts]; done) | (simp [ints_length, okEl_eq, AV.parts]; omega) | rfl)))
      refine CallK.p (ref04_Bytes (t.off - 1) (by omega) (by omega)) ?_
      (simp only [go_sem, Nat.reduceAdd, Nat.reduceMul, Int.reduceToNat, Nat.reduceLeDiff, Int.reduceLE, Int.reduceLT, ↓reduceIte, Int.reduceBEq, Int.reduceBNe, Int.reduceAdd, Int.reduceSub, Int.reduceMul, qFin_ret, qFin_normal, ints_append, ints_length, ← hs, ei]; (try ((refine okTr_and ?_ ?_); (· rfl))))
      (repeat ((with_reducible refine And.intro ?_ ?_); (· first | with_reducible assumption | omega | with_reducible rfl | (simp only [List.length_append, List.length_cons, List.length_nil, List.length_singleton]; omega) | (simp [ints_length, okEl_eq, AV.parts]; done) | (simp [ints_length, okEl_eq, AV.parts]; omega) | rfl)))
      exact ⟨k + 1, hlt, by omega, Wk.to (by simp; omega) (by simp [leT])⟩
    · have hri := run_iff.1 hrn
      have hB : tokB t = vb (2 * t.lit.length - 2) ++ t.lit := by unfold tokB; rw [hrn]; rfl
      have hv1 := (vb_len (2 * (t.lit.length : Int) - 2)).2
      rw [hB, ← List.append_assoc] at hs
      have hsl := congrArg List.length hs
      simp only [List.length_append] at hsl
      have e1 : IntKind.i64.wrap (2 * (t.lit.length : Int)) = 2 * t.lit.length := IntWalk.i64_in _ (by omega)
      have e2 : IntKind.i64.wrap (2 * (t.lit.length : Int) - 2) = 2 * t.lit.length - 2 := IntWalk.i64_in _ (by omega)
      have e3 : IntKind.u64.wrap (2 * (t.lit.length : Int) - 2) = 2 * t.lit.length - 2 := IntWalk.u64_in _ (by omega)
      (simp only [go_sem, Nat.reduceAdd, Nat.reduceMul, Int.reduceToNat, Nat.reduceLeDiff, Int.reduceLE, Int.reduceLT, ↓reduceIte, Int.reduceBEq, Int.reduceBNe, Int.reduceAdd, Int.reduceSub, Int.reduceMul, qFin_ret, qFin_normal, hrn, g, tks_length, ints_length, e1, e2, e3]; (try ((refine okTr_and ?_ ?_); (· rfl))))
      (repeat ((with_reducible refine And.intro ?_ ?_); (· first | with_reducible assumption | omega | with_reducible rfl | (simp only [List.length_append, List.length_cons, List.length_nil, List.length_singleton]; omega) | (simp [ints_length, okEl_eq, AV.parts]; done) | (simp [ints_length, okEl_eq, AV.parts]; omega) | rfl)))
      refine CallK.p (ref04_Bytes (2 * t.lit.length - 2) (by omega) (by omega)) ?_
      (simp only [go_sem, Nat.reduceAdd, Nat.reduceMul, Int.reduceToNat, Nat.reduceLeDiff, Int.reduceLE, Int.reduceLT, ↓reduceIte, Int.reduceBEq, Int.reduceBNe, Int.reduceAdd, Int.reduceSub, Int.reduceMul, qFin_ret, qFin_normal, g, tks_length, ints_append, ints_length]; (try ((refine okTr_and ?_ ?_); (· rfl))))
      (repeat ((with_reducible refine And.intro ?_ ?_); (· first | with_reducible assumption | omega | with_reducible rfl | (simp only [List.length_append, List.length_cons, List.length_nil, List.length_singleton]; omega) | (simp [ints_length, okEl_eq, AV.parts]; done) | (simp [ints_length, okEl_eq, AV.parts]; omega) | rfl)))
      (simp only [go_sem, Nat.reduceAdd, Nat.reduceMul, Int.reduceToNat, Nat.reduceLeDiff, Int.reduceLE, Int.reduceLT, ↓reduceIte, Int.reduceBEq, Int.reduceBNe, Int.reduceAdd, Int.reduceSub, Int.reduceMul, qFin_ret, qFin_normal, ints_append, ints_length, ← hs, ei]; (try ((refine okTr_and ?_ ?_); (· rfl))))
      exact ⟨k + 1, hlt, by omega, Wk.to (by simp; omega) (by simp [leT])⟩
  · have ek : k = l.length := by simp at h; omega
    (simp only [go_sem, Nat.reduceAdd, Nat.reduceMul, Int.reduceToNat, Nat.reduceLeDiff, Int.reduceLE, Int.reduceLT, ↓reduceIte, Int.reduceBEq, Int.reduceBNe, Int.reduceAdd, Int.reduceSub, Int.reduceMul, qFin_ret, qFin_normal]; (try ((refine okTr_and ?_ ?_); (· rfl))))
    ((refine FinK.fin r42 [0] ?_ ?_ ?_ ?_ ?_ ?_); (· decide); (· rfl); (· simp); (· rfl); (· first | with_reducible rfl | (simp [ints_nil, ren_lit, ren_ref, ren_any, ren_agg, ren_tup, ren_sl, ren_fn, tren_none, tren_full, tren_row, oren_cells, oren_row, oren_dead, ixs_z, ixs_1, ixs_2, ixs_3, ren_ints, List.map_cons, List.map_nil, ek]; done) | rfl); (· simp [resAL, resA1, loadA, oneOr, ints_nil, ren_lit, ren_ref, ren_any, ren_agg, ren_tup, ren_sl, ren_fn, tren_none, tren_full, tren_row, oren_cells, oren_row, oren_dead, ixs_z, ixs_1, ixs_2, ixs_3, ren_ints, List.map_cons, List.map_nil, ek]))
theorem ref11_Bytes (l : List Tk) (hr : ∀ t ∈ l, t.right = true) (hn : l.length ≤ 1000) : Ct Try.prog 42 [slT l] [] (fun n => ownA n (toksB l)) [] (fun _ => [.row 1 (toksB l).length]) := Ct.n (ref11_Bytes0 l hr hn) (by intros; simp [ints_nil, ren_lit, ren_ref, ren_any, ren_agg, ren_tup, ren_sl, ren_fn, tren_none, tren_full, tren_row, oren_cells, oren_row, oren_dead, ixs_z, ixs_1, ixs_2, ixs_3, ren_ints, List.map_cons, List.map_nil, ixs, List.range'_succ, ren_ints]) (by intros; simp [ints_nil, ren_lit, ren_ref, ren_any, ren_agg, ren_tup, ren_sl, ren_fn, tren_none, tren_full, tren_row, oren_cells, oren_row, oren_dead, ixs_z, ixs_1, ixs_2, ixs_3, ren_ints, List.map_cons, List.map_nil, ixs, List.range'_succ, ren_ints]) (by intros; simp [ints_nil, ren_lit, ren_ref, ren_any, ren_agg, ren_tup, ren_sl, ren_fn, tren_none, tren_full, tren_row, oren_cells, oren_row, oren_dead, ixs_z, ixs_1, ixs_2, ixs_3, ren_ints, List.map_cons, List.map_nil, flt])
set_option maxRecDepth 100000 in
theorem token_Read0 (s : RS) (hs : ROk s) : Does Try.prog 54 [.ref 0 0] [rdr s] (tkA s.token.2) [rdr (s.token.1)] := by
  obtain ⟨ka, kb⟩ := thead_keep hs
  refine Does.run Try.func54 b54 n54 Try.ntmps54 (by simp only [List.cons_append, List.nil_append, List.length_cons, List.length_nil, Nat.zero_add, Nat.reduceAdd, Nat.reduceSub, List.replicate]; rfl) ?_; simp only [c54, go_sem, Nat.reduceAdd, Nat.reduceMul, Int.reduceToNat, Nat.reduceLeDiff, Int.reduceLE, Int.reduceLT, ↓reduceIte, Int.reduceBEq, Int.reduceBNe, Int.reduceAdd, Int.reduceSub, Int.reduceMul, qFin_ret, qFin_normal]; (try ((refine okTr_and ?_ ?_); (· rfl)))
  refine CallK.u1 (token_Head s 0 hs) rfl ?_
  by_cases hh : s.thead.1.code = 0
  · obtain ⟨k1, k2, k3⟩ := thead_is hs hh
    rcases k3 with ⟨c1, c2, c3, c4⟩ | ⟨c1, c2, c3, c4⟩
    · obtain ⟨u, hu⟩ : ∃ u, s.thead.1 = u := ⟨_, rfl⟩
      obtain ⟨n, hn⟩ : ∃ n, s.thead.2.2 = n := ⟨_, rfl⟩
      have e : s.token = if u.toff.1.code = 0 then (u.toff.1, ⟨[], u.toff.2, n⟩) else (u.toff.1, tk0) := by unfold RS.token; rw [if_pos hh, if_pos c1, hu, hn]
      rw [hu] at ka
      (simp only [go_sem, Nat.reduceAdd, Nat.reduceMul, Int.reduceToNat, Nat.reduceLeDiff, Int.reduceLE, Int.reduceLT, ↓reduceIte, Int.reduceBEq, Int.reduceBNe, Int.reduceAdd, Int.reduceSub, Int.reduceMul, qFin_ret, qFin_normal, hu, c1, hn]; (try ((refine okTr_and ?_ ?_); (· rfl))))
      refine CallK.u1 (token_Offset u 0 ka) rfl ?_; (simp only [go_sem, Nat.reduceAdd, Nat.reduceMul, Int.reduceToNat, Nat.reduceLeDiff, Int.reduceLE, Int.reduceLT, ↓reduceIte, Int.reduceBEq, Int.reduceBNe, Int.reduceAdd, Int.reduceSub, Int.reduceMul, qFin_ret, qFin_normal]; (try ((refine okTr_and ?_ ?_); (· rfl))))
      refine CallK.r1 (Reader_Good u.toff.1 0) rfl ?_
      by_cases hc : u.toff.1.code = 0
      · rw [if_pos hc] at e
        (simp only [go_sem, Nat.reduceAdd, Nat.reduceMul, Int.reduceToNat, Nat.reduceLeDiff, Int.reduceLE, Int.reduceLT, ↓reduceIte, Int.reduceBEq, Int.reduceBNe, Int.reduceAdd, Int.reduceSub, Int.reduceMul, qFin_ret, qFin_normal, good_true hc]; (try ((refine okTr_and ?_ ?_); (· rfl))))
        (refine FinK.unobj 1 rfl ?_; simp only [List.set_cons_zero, List.set_cons_succ, List.map_cons, List.map_nil, untag1_lit, untag1_sl])
        ((refine FinK.fin r54 [0] ?_ ?_ ?_ ?_ ?_ ?_); (· decide); (· rfl); (· simp); (· rfl); (· first | with_reducible rfl | (simp [ints_nil, ren_lit, ren_ref, ren_any, ren_agg, ren_tup, ren_sl, ren_fn, tren_none, tren_full, tren_row, oren_cells, oren_row, oren_dead, ixs_z, ixs_1, ixs_2, ixs_3, ren_ints, List.map_cons, List.map_nil, e, rdr_ren]; done) | rfl); (· simp [resAL, resA1, loadA, oneOr, ints_nil, ren_lit, ren_ref, ren_any, ren_agg, ren_tup, ren_sl, ren_fn, tren_none, tren_full, tren_row, oren_cells, oren_row, oren_dead, ixs_z, ixs_1, ixs_2, ixs_3, ren_ints, List.map_cons, List.map_nil, e, rdr_ren]))
      · rw [if_neg hc] at e
        (simp only [go_sem, Nat.reduceAdd, Nat.reduceMul, Int.reduceToNat, Nat.reduceLeDiff, Int.reduceLE, Int.reduceLT, ↓reduceIte, Int.reduceBEq, Int.reduceBNe, Int.reduceAdd, Int.reduceSub, Int.reduceMul, qFin_ret, qFin_normal, good_false hc]; (try ((refine okTr_and ?_ ?_); (· rfl))))
        (refine FinK.unobj 1 rfl ?_; simp only [List.set_cons_zero, List.set_cons_succ, List.map_cons, List.map_nil, untag1_lit, untag1_sl])
        ((refine FinK.fin r54 [0] ?_ ?_ ?_ ?_ ?_ ?_); (· decide); (· rfl); (· simp); (· rfl); (· first | with_reducible rfl | (simp [ints_nil, ren_lit, ren_ref, ren_any, ren_agg, ren_tup, ren_sl, ren_fn, tren_none, tren_full, tren_row, oren_cells, oren_row, oren_dead, ixs_z, ixs_1, ixs_2, ixs_3, ren_ints, List.map_cons, List.map_nil, e, rdr_ren, tk0]; done) | rfl); (· simp [resAL, resA1, loadA, oneOr, ints_nil, ren_lit, ren_ref, ren_any, ren_agg, ren_tup, ren_sl, ren_fn, tren_none, tren_full, tren_row, oren_cells, oren_row, oren_dead, ixs_z, ixs_1, ixs_2, ixs_3, ren_ints, List.map_cons, List.map_nil, e, rdr_ren, tk0]))
    · obtain ⟨u, hu⟩ : ∃ u, s.thead.1 = u := ⟨_, rfl⟩
      obtain ⟨n, hn⟩ : ∃ n, s.thead.2.2 = n := ⟨_, rfl⟩
      have e : s.token = if (u.take n).1.code = 0 then ((u.take n).1, ⟨(u.take n).2, 0, 0⟩) else ((u.take n).1, tk0) := by unfold RS.token; rw [if_pos hh, c1, if_neg (by simp), hu, hn]
      rw [hu] at ka
      rw [hn] at c3
      have q : decide (0 < n) = true := by simp only [decide_eq_true_eq]; omega
      (simp only [go_sem, Nat.reduceAdd, Nat.reduceMul, Int.reduceToNat, Nat.reduceLeDiff, Int.reduceLE, Int.reduceLT, ↓reduceIte, Int.reduceBEq, Int.reduceBNe, Int.reduceAdd, Int.reduceSub, Int.reduceMul, qFin_ret, qFin_normal, hu, c1, hn, q]; (try ((refine okTr_and ?_ ?_); (· rfl))))
      refine CallK.u1 (Reader_Take u n 0 ka.ok) rfl ?_; (simp only [go_sem, Nat.reduceAdd, Nat.reduceMul, Int.reduceToNat, Nat.reduceLeDiff, Int.reduceLE, Int.reduceLT, ↓reduceIte, Int.reduceBEq, Int.reduceBNe, Int.reduceAdd, Int.reduceSub, Int.reduceMul, qFin_ret, qFin_normal]; (try ((refine okTr_and ?_ ?_); (· rfl))))
      refine CallK.r1 (Reader_Good (u.take n).1 0) rfl ?_
      by_cases hc : (u.take n).1.code = 0
      · rw [if_pos hc] at e
        (simp only [go_sem, Nat.reduceAdd, Nat.reduceMul, Int.reduceToNat, Nat.reduceLeDiff, Int.reduceLE, Int.reduceLT, ↓reduceIte, Int.reduceBEq, Int.reduceBNe, Int.reduceAdd, Int.reduceSub, Int.reduceMul, qFin_ret, qFin_normal, good_true hc]; (try ((refine okTr_and ?_ ?_); (· rfl))))
        ((refine FinK.fin r54 [0] ?_ ?_ ?_ ?_ ?_ ?_); (· decide); (· rfl); (· simp); (· rfl); (· first | with_reducible rfl | (simp [ints_nil, ren_lit, ren_ref, ren_any, ren_agg, ren_tup, ren_sl, ren_fn, tren_none, tren_full, tren_row, oren_cells, oren_row, oren_dead, ixs_z, ixs_1, ixs_2, ixs_3, ren_ints, List.map_cons, List.map_nil, e, rdr_ren]; done) | rfl); (· simp [resAL, resA1, loadA, oneOr, ints_nil, ren_lit, ren_ref, ren_any, ren_agg, ren_tup, ren_sl, ren_fn, tren_none, tren_full, tren_row, oren_cells, oren_row, oren_dead, ixs_z, ixs_1, ixs_2, ixs_3, ren_ints, List.map_cons, List.map_nil, e, rdr_ren]))
      · rw [if_neg hc] at e
        (simp only [go_sem, Nat.reduceAdd, Nat.reduceMul, Int.reduceToNat, Nat.reduceLeDiff, Int.reduceLE, Int.reduceLT, ↓reduceIte, Int.reduceBEq, Int.reduceBNe, Int.reduceAdd, Int.reduceSub, Int.reduceMul, qFin_ret, qFin_normal, good_false hc]; (try ((refine okTr_and ?_ ?_); (· rfl))))
        (refine FinK.unobj 1 rfl ?_; simp only [List.set_cons_zero, List.set_cons_succ, List.map_cons, List.map_nil, untag1_lit, untag1_sl])
        ((refine FinK.fin r54 [0] ?_ ?_ ?_ ?_ ?_ ?_); (· decide); (· rfl); (· simp); (· rfl); (· first | with_reducible rfl | (simp [ints_nil, ren_lit, ren_ref, ren_any, ren_agg, ren_tup, ren_sl, ren_fn, tren_none, tren_full, tren_row, oren_cells, oren_row, oren_dead, ixs_z, ixs_1, ixs_2, ixs_3, ren_ints, List.map_cons, List.map_nil, e, rdr_ren, tk0]; done) | rfl); (· simp [resAL, resA1, loadA, oneOr, ints_nil, ren_lit, ren_ref, ren_any, ren_agg, ren_tup, ren_sl, ren_fn, tren_none, tren_full, tren_row, oren_cells, oren_row, oren_dead, ixs_z, ixs_1, ixs_2, ixs_3, ren_ints, List.map_cons, List.map_nil, e, rdr_ren, tk0]))
  · have hb := thead_bad hh
    have e : s.token = (s.thead.1, tk0) := by unfold RS.token; rw [if_neg hh]
    (simp only [go_sem, Nat.reduceAdd, Nat.reduceMul, Int.reduceToNat, Nat.reduceLeDiff, Int.reduceLE, Int.reduceLT, ↓reduceIte, Int.reduceBEq, Int.reduceBNe, Int.reduceAdd, Int.reduceSub, Int.reduceMul, qFin_ret, qFin_normal, hb]; (try ((refine okTr_and ?_ ?_); (· rfl))))
    refine CallK.r1 (Reader_Good s.thead.1 0) rfl ?_; (simp only [go_sem, Nat.reduceAdd, Nat.reduceMul, Int.reduceToNat, Nat.reduceLeDiff, Int.reduceLE, Int.reduceLT, ↓reduceIte, Int.reduceBEq, Int.reduceBNe, Int.reduceAdd, Int.reduceSub, Int.reduceMul, qFin_ret, qFin_normal, good_false hh]; (try ((refine okTr_and ?_ ?_); (· rfl))))
    (refine FinK.unobj 1 rfl ?_; simp only [List.set_cons_zero, List.set_cons_succ, List.map_cons, List.map_nil, untag1_lit, untag1_sl])
    ((refine FinK.fin r54 [0] ?_ ?_ ?_ ?_ ?_ ?_); (· decide); (· rfl); (· simp); (· rfl); (· first | with_reducible rfl | (simp [ints_nil, ren_lit, ren_ref, ren_any, ren_agg, ren_tup, ren_sl, ren_fn, tren_none, tren_full, tren_row, oren_cells, oren_row, oren_dead, ixs_z, ixs_1, ixs_2, ixs_3, ren_ints, List.map_cons, List.map_nil, e, rdr_ren, tk0]; done) | rfl); (· simp [resAL, resA1, loadA, oneOr, ints_nil, ren_lit, ren_ref, ren_any, ren_agg, ren_tup, ren_sl, ren_fn, tren_none, tren_full, tren_row, oren_cells, oren_row, oren_dead, ixs_z, ixs_1, ixs_2, ixs_3, ren_ints, List.map_cons, List.map_nil, e, rdr_ren, tk0]))
theorem token_Read (s : RS) (i : Nat) (hs : ROk s) : Ct Try.prog 54 [.ref i 0] [(i, rdr s)] (fun _ => tkA s.token.2) [(i, rdr (s.token.1))] (fun _ => []) := Ct.u1 (token_Read0 s hs) i (by intros; simp [ints_nil, ren_lit, ren_ref, ren_any, ren_agg, ren_tup, ren_sl, ren_fn, tren_none, tren_full, tren_row, oren_cells, oren_row, oren_dead, ixs_z, ixs_1, ixs_2, ixs_3, ren_ints, List.map_cons, List.map_nil, ixs, List.range'_succ, ren_ints]) (fun ρ => rdr_ren ρ _) (fun ρ => rdr_ren ρ _) (rdr_dead _) (by intros; simp [ints_nil, ren_lit, ren_ref, ren_any, ren_agg, ren_tup, ren_sl, ren_fn, tren_none, tren_full, tren_row, oren_cells, oren_row, oren_dead, ixs_z, ixs_1, ixs_2, ixs_3, ren_ints, List.map_cons, List.map_nil, ixs, List.range'_succ, ren_ints])
set_option maxRecDepth 100000 in
theorem ref11_Read0 (s : RS) (hs : ROk s) : Does Try.prog 55 [cv s] [] (.tup [cv s.token.1, tkA s.token.2]) [] := by
  have hv := vint_range (s := s) hs.bys
  obtain ⟨x, hx⟩ : ∃ x, s.vint.2 = x := ⟨_, rfl⟩
  obtain ⟨u, hu⟩ : ∃ u, s.vint.1 = u := ⟨_, rfl⟩
  have ka : ROk u := hu ▸ hs.vint.1
  rw [hx] at hv
  refine Does.run Try.func55 b55 n55 Try.ntmps55 (by simp only [List.cons_append, List.nil_append, List.length_cons, List.length_nil, Nat.zero_add, Nat.reduceAdd, Nat.reduceSub, List.replicate]; rfl) ?_; simp only [c55, go_sem, Nat.reduceAdd, Nat.reduceMul, Int.reduceToNat, Nat.reduceLeDiff, Int.reduceLE, Int.reduceLT, ↓reduceIte, Int.reduceBEq, Int.reduceBNe, Int.reduceAdd, Int.reduceSub, Int.reduceMul, qFin_ret, qFin_normal]; (try ((refine okTr_and ?_ ?_); (· rfl)))
  refine CallK.p (ref04_Read s hs) ?_
  by_cases hc : u.code = 0
  · have q : (u.code != 0) = false := by simpa using hc
    have em : x.tmod 2 = x % 2 := Int.tmod_eq_emod_of_nonneg hv.1
    have ed : IntKind.u64.wrap (x.tdiv 2) = x / 2 := by rw [Int.tdiv_eq_ediv_of_nonneg hv.1, IntWalk.u64_in _ (by omega)]
    have eh : s.thead = if x % 2 = 1 then (if 1048572 < x / 2 then (u.fail 2 s.at_, false, 0) else (u, true, x / 2 + 4)) else (if 1048575 < x / 2 then (u.fail 2 s.at_, false, 0) else (u, false, x / 2 + 1)) := by
      unfold RS.thead; rw [hu, if_pos hc, hx]
    have e1 : IntKind.u64.wrap (x / 2 + 1) = x / 2 + 1 := IntWalk.u64_in _ (by omega)
    have ei : IntKind.i64.wrap (x / 2) = x / 2 := IntWalk.i64_in _ (by omega)
    by_cases c1 : x % 2 = 1
    · rw [if_pos c1] at eh
      have q1 : (x % 2 == 0) = false := by simp; omega
      by_cases c2 : 1048572 < x / 2
      · rw [if_pos c2] at eh
        have hno := fail_no (s := u) (c := 2) (a := s.at_) hc (by decide)
        have e : s.token = (u.fail 2 s.at_, tk0) := by unfold RS.token; rw [eh]; simp only; rw [if_neg hno]
        have q2 : decide (1048572 < x / 2) = true := by simpa using c2
        (simp only [go_sem, Nat.reduceAdd, Nat.reduceMul, Int.reduceToNat, Nat.reduceLeDiff, Int.reduceLE, Int.reduceLT, ↓reduceIte, Int.reduceBEq, Int.reduceBNe, Int.reduceAdd, Int.reduceSub, Int.reduceMul, qFin_ret, qFin_normal, hx, hu, q, em, ed, q1, q2]; (try ((refine okTr_and ?_ ?_); (· rfl))))
        (repeat ((with_reducible refine And.intro ?_ ?_); (· first | with_reducible assumption | omega | with_reducible rfl | (simp only [List.length_append, List.length_cons, List.length_nil, List.length_singleton]; omega) | (simp [ints_length, okEl_eq, AV.parts]; done) | (simp [ints_length, okEl_eq, AV.parts]; omega) | rfl)))
        refine CallK.p (ref02_Fail u 2 s.at_) ?_; (simp only [go_sem, Nat.reduceAdd, Nat.reduceMul, Int.reduceToNat, Nat.reduceLeDiff, Int.reduceLE, Int.reduceLT, ↓reduceIte, Int.reduceBEq, Int.reduceBNe, Int.reduceAdd, Int.reduceSub, Int.reduceMul, qFin_ret, qFin_normal]; (try ((refine okTr_and ?_ ?_); (· rfl))))
        (refine FinK.unobj 2 rfl ?_; simp only [List.set_cons_zero, List.set_cons_succ, List.map_cons, List.map_nil, untag1_lit, untag1_sl])
        ((refine FinK.fin r55 [] ?_ ?_ ?_ ?_ ?_ ?_); (· decide); (· rfl); (· simp); (· rfl); (· first | with_reducible rfl | (simp [ints_nil, ren_lit, ren_ref, ren_any, ren_agg, ren_tup, ren_sl, ren_fn, tren_none, tren_full, tren_row, oren_cells, oren_row, oren_dead, ixs_z, ixs_1, ixs_2, ixs_3, ren_ints, List.map_cons, List.map_nil, e, tk0]; done) | rfl); (· simp [resAL, resA1, loadA, oneOr, ints_nil, ren_lit, ren_ref, ren_any, ren_agg, ren_tup, ren_sl, ren_fn, tren_none, tren_full, tren_row, oren_cells, oren_row, oren_dead, ixs_z, ixs_1, ixs_2, ixs_3, ren_ints, List.map_cons, List.map_nil, e, tk0]))
      · rw [if_neg c2] at eh
        have q2 : decide (1048572 < x / 2) = false := by simpa using c2
        have hw := vint_range (s := u) ka.bys
        obtain ⟨y, hy⟩ : ∃ y, u.vint.2 = y := ⟨_, rfl⟩
        obtain ⟨w, hwd⟩ : ∃ w, u.vint.1 = w := ⟨_, rfl⟩
        rw [hy] at hw
        have e0 : s.token = if u.toff.1.code = 0 then (u.toff.1, ⟨[], u.toff.2, x / 2 + 4⟩) else (u.toff.1, tk0) := by unfold RS.token; rw [eh]; simp only; rw [if_pos hc, if_pos trivial]
        (simp only [go_sem, Nat.reduceAdd, Nat.reduceMul, Int.reduceToNat, Nat.reduceLeDiff, Int.reduceLE, Int.reduceLT, ↓reduceIte, Int.reduceBEq, Int.reduceBNe, Int.reduceAdd, Int.reduceSub, Int.reduceMul, qFin_ret, qFin_normal, hx, hu, q, em, ed, q1, q2]; (try ((refine okTr_and ?_ ?_); (· rfl))))
        (repeat ((with_reducible refine And.intro ?_ ?_); (· first | with_reducible assumption | omega | with_reducible rfl | (simp only [List.length_append, List.length_cons, List.length_nil, List.length_singleton]; omega) | (simp [ints_length, okEl_eq, AV.parts]; done) | (simp [ints_length, okEl_eq, AV.parts]; omega) | rfl)))
        refine CallK.p (ref04_Read u ka) ?_
        by_cases hc2 : w.code = 0
        · have q3 : (w.code != 0) = false := by simpa using hc2
          by_cases c3 : 65536 ≤ y
          · have eo : u.toff = (w.fail 10 u.at_, 0) := by unfold RS.toff; rw [hwd, if_pos hc2, hy, if_pos c3]
            have hno := fail_no (s := w) (c := 10) (a := u.at_) hc2 (by decide)
            rw [eo] at e0
            simp only at e0
            rw [if_neg hno] at e0
            have q4 : decide (65535 < y) = true := by simp only [decide_eq_true_eq]; omega
            (simp only [go_sem, Nat.reduceAdd, Nat.reduceMul, Int.reduceToNat, Nat.reduceLeDiff, Int.reduceLE, Int.reduceLT, ↓reduceIte, Int.reduceBEq, Int.reduceBNe, Int.reduceAdd, Int.reduceSub, Int.reduceMul, qFin_ret, qFin_normal, hy, hwd, q3, q4]; (try ((refine okTr_and ?_ ?_); (· rfl))))
            refine CallK.p (ref02_Fail w 10 u.at_) ?_; (simp only [go_sem, Nat.reduceAdd, Nat.reduceMul, Int.reduceToNat, Nat.reduceLeDiff, Int.reduceLE, Int.reduceLT, ↓reduceIte, Int.reduceBEq, Int.reduceBNe, Int.reduceAdd, Int.reduceSub, Int.reduceMul, qFin_ret, qFin_normal]; (try ((refine okTr_and ?_ ?_); (· rfl))))
            (refine FinK.unobj 2 rfl ?_; simp only [List.set_cons_zero, List.set_cons_succ, List.map_cons, List.map_nil, untag1_lit, untag1_sl])
            ((refine FinK.fin r55 [] ?_ ?_ ?_ ?_ ?_ ?_); (· decide); (· rfl); (· simp); (· rfl); (· first | with_reducible rfl | (simp [ints_nil, ren_lit, ren_ref, ren_any, ren_agg, ren_tup, ren_sl, ren_fn, tren_none, tren_full, tren_row, oren_cells, oren_row, oren_dead, ixs_z, ixs_1, ixs_2, ixs_3, ren_ints, List.map_cons, List.map_nil, e0, tk0]; done) | rfl); (· simp [resAL, resA1, loadA, oneOr, ints_nil, ren_lit, ren_ref, ren_any, ren_agg, ren_tup, ren_sl, ren_fn, tren_none, tren_full, tren_row, oren_cells, oren_row, oren_dead, ixs_z, ixs_1, ixs_2, ixs_3, ren_ints, List.map_cons, List.map_nil, e0, tk0]))
          · have eo : u.toff = (w, y + 1) := by unfold RS.toff; rw [hwd, if_pos hc2, hy, if_neg c3]
            rw [eo] at e0
            simp only at e0
            rw [if_pos hc2] at e0
            have q4 : decide (65535 < y) = false := by simp only [decide_eq_false_iff_not]; omega
            have e5 : IntKind.i64.wrap y = y := IntWalk.i64_in _ (by omega)
            have e6 : IntKind.i64.wrap (y + 1) = y + 1 := IntWalk.i64_in _ (by omega)
            have e7 : IntKind.i64.wrap (x / 2 + 4) = x / 2 + 4 := IntWalk.i64_in _ (by omega)
            (simp only [go_sem, Nat.reduceAdd, Nat.reduceMul, Int.reduceToNat, Nat.reduceLeDiff, Int.reduceLE, Int.reduceLT, ↓reduceIte, Int.reduceBEq, Int.reduceBNe, Int.reduceAdd, Int.reduceSub, Int.reduceMul, qFin_ret, qFin_normal, hy, hwd, q3, q4, e5, e6, ed, ei, e7]; (try ((refine okTr_and ?_ ?_); (· rfl))))
            (repeat ((with_reducible refine And.intro ?_ ?_); (· first | with_reducible assumption | omega | with_reducible rfl | (simp only [List.length_append, List.length_cons, List.length_nil, List.length_singleton]; omega) | (simp [ints_length, okEl_eq, AV.parts]; done) | (simp [ints_length, okEl_eq, AV.parts]; omega) | rfl)))
            (refine FinK.unobj 2 rfl ?_; simp only [List.set_cons_zero, List.set_cons_succ, List.map_cons, List.map_nil, untag1_lit, untag1_sl])
            ((refine FinK.fin r55 [] ?_ ?_ ?_ ?_ ?_ ?_); (· decide); (· rfl); (· simp); (· rfl); (· first | with_reducible rfl | (simp [ints_nil, ren_lit, ren_ref, ren_any, ren_agg, ren_tup, ren_sl, ren_fn, tren_none, tren_full, tren_row, oren_cells, oren_row, oren_dead, ixs_z, ixs_1, ixs_2, ixs_3, ren_ints, List.map_cons, List.map_nil, e0]; done) | rfl); (· simp [resAL, resA1, loadA, oneOr, ints_nil, ren_lit, ren_ref, ren_any, ren_agg, ren_tup, ren_sl, ren_fn, tren_none, tren_full, tren_row, oren_cells, oren_row, oren_dead, ixs_z, ixs_1, ixs_2, ixs_3, ren_ints, List.map_cons, List.map_nil, e0]))
        · have eo : u.toff = (w, 0) := by unfold RS.toff; rw [hwd, if_neg hc2]
          rw [eo] at e0
          simp only at e0
          rw [if_neg hc2] at e0
          have q3 : (w.code != 0) = true := by simpa using hc2
          (simp only [go_sem, Nat.reduceAdd, Nat.reduceMul, Int.reduceToNat, Nat.reduceLeDiff, Int.reduceLE, Int.reduceLT, ↓reduceIte, Int.reduceBEq, Int.reduceBNe, Int.reduceAdd, Int.reduceSub, Int.reduceMul, qFin_ret, qFin_normal, hy, hwd, q3]; (try ((refine okTr_and ?_ ?_); (· rfl))))
          (refine FinK.unobj 2 rfl ?_; simp only [List.set_cons_zero, List.set_cons_succ, List.map_cons, List.map_nil, untag1_lit, untag1_sl])
          ((refine FinK.fin r55 [] ?_ ?_ ?_ ?_ ?_ ?_); (· decide); (· rfl); (· simp); (· rfl); (· first | with_reducible rfl | (simp [ints_nil, ren_lit, ren_ref, ren_any, ren_agg, ren_tup, ren_sl, ren_fn, tren_none, tren_full, tren_row, oren_cells, oren_row, oren_dead, ixs_z, ixs_1, ixs_2, ixs_3, ren_ints, List.map_cons, List.map_nil, e0, tk0]; done) | rfl); (· simp [resAL, resA1, loadA, oneOr, ints_nil, ren_lit, ren_ref, ren_any, ren_agg, ren_tup, ren_sl, ren_fn, tren_none, tren_full, tren_row, oren_cells, oren_row, oren_dead, ixs_z, ixs_1, ixs_2, ixs_3, ren_ints, List.map_cons, List.map_nil, e0, tk0]))
    · rw [if_neg c1] at eh
      have q1 : (x % 2 == 0) = true := by simp; omega
      by_cases c2 : 1048575 < x / 2
      · rw [if_pos c2] at eh
        have hno := fail_no (s := u) (c := 2) (a := s.at_) hc (by decide)
        have e : s.token = (u.fail 2 s.at_, tk0) := by unfold RS.token; rw [eh]; simp only; rw [if_neg hno]
        have q2 : decide (1048576 < x / 2 + 1) = true := by simp only [decide_eq_true_eq]; omega
        (simp only [go_sem, Nat.reduceAdd, Nat.reduceMul, Int.reduceToNat, Nat.reduceLeDiff, Int.reduceLE, Int.reduceLT, ↓reduceIte, Int.reduceBEq, Int.reduceBNe, Int.reduceAdd, Int.reduceSub, Int.reduceMul, qFin_ret, qFin_normal, hx, hu, q, em, ed, q1, e1, q2]; (try ((refine okTr_and ?_ ?_); (· rfl))))
        (repeat ((with_reducible refine And.intro ?_ ?_); (· first | with_reducible assumption | omega | with_reducible rfl | (simp only [List.length_append, List.length_cons, List.length_nil, List.length_singleton]; omega) | (simp [ints_length, okEl_eq, AV.parts]; done) | (simp [ints_length, okEl_eq, AV.parts]; omega) | rfl)))
        refine CallK.p (ref02_Fail u 2 s.at_) ?_; (simp only [go_sem, Nat.reduceAdd, Nat.reduceMul, Int.reduceToNat, Nat.reduceLeDiff, Int.reduceLE, Int.reduceLT, ↓reduceIte, Int.reduceBEq, Int.reduceBNe, Int.reduceAdd, Int.reduceSub, Int.reduceMul, qFin_ret, qFin_normal]; (try ((refine okTr_and ?_ ?_); (· rfl))))
        (refine FinK.unobj 2 rfl ?_; simp only [List.set_cons_zero, List.set_cons_succ, List.map_cons, List.map_nil, untag1_lit, untag1_sl])
        ((refine FinK.fin r55 [] ?_ ?_ ?_ ?_ ?_ ?_); (· decide); (· rfl); (· simp); (· rfl); (· first | with_reducible rfl | (simp [ints_nil, ren_lit, ren_ref, ren_any, ren_agg, ren_tup, ren_sl, ren_fn, tren_none, tren_full, tren_row, oren_cells, oren_row, oren_dead, ixs_z, ixs_1, ixs_2, ixs_3, ren_ints, List.map_cons, List.map_nil, e, tk0]; done) | rfl); (· simp [resAL, resA1, loadA, oneOr, ints_nil, ren_lit, ren_ref, ren_any, ren_agg, ren_tup, ren_sl, ren_fn, tren_none, tren_full, tren_row, oren_cells, oren_row, oren_dead, ixs_z, ixs_1, ixs_2, ixs_3, ren_ints, List.map_cons, List.map_nil, e, tk0]))
      · rw [if_neg c2] at eh
        have q2 : decide (1048576 < x / 2 + 1) = false := by simp only [decide_eq_false_iff_not]; omega
        have e0 : s.token = if (u.take (x / 2 + 1)).1.code = 0 then ((u.take (x / 2 + 1)).1, ⟨(u.take (x / 2 + 1)).2, 0, 0⟩) else ((u.take (x / 2 + 1)).1, tk0) := by unfold RS.token; rw [eh]; simp only; rw [if_pos hc]; simp only [Bool.false_eq_true, if_false]
        have e7 : IntKind.i64.wrap (x / 2 + 1) = x / 2 + 1 := IntWalk.i64_in _ (by omega)
        (simp only [go_sem, Nat.reduceAdd, Nat.reduceMul, Int.reduceToNat, Nat.reduceLeDiff, Int.reduceLE, Int.reduceLT, ↓reduceIte, Int.reduceBEq, Int.reduceBNe, Int.reduceAdd, Int.reduceSub, Int.reduceMul, qFin_ret, qFin_normal, hx, hu, q, em, ed, q1, e1, q2, ei, e7]; (try ((refine okTr_and ?_ ?_); (· rfl))))
        (repeat ((with_reducible refine And.intro ?_ ?_); (· first | with_reducible assumption | omega | with_reducible rfl | (simp only [List.length_append, List.length_cons, List.length_nil, List.length_singleton]; omega) | (simp [ints_length, okEl_eq, AV.parts]; done) | (simp [ints_length, okEl_eq, AV.parts]; omega) | rfl)))
        refine CallK.p (ref02_Take u (x / 2 + 1) ka.ok) ?_
        by_cases hc2 : (u.take (x / 2 + 1)).1.code = 0
        · rw [if_pos hc2] at e0
          have q3 : ((u.take (x / 2 + 1)).1.code != 0) = false := by simpa using hc2
          (simp only [go_sem, Nat.reduceAdd, Nat.reduceMul, Int.reduceToNat, Nat.reduceLeDiff, Int.reduceLE, Int.reduceLT, ↓reduceIte, Int.reduceBEq, Int.reduceBNe, Int.reduceAdd, Int.reduceSub, Int.reduceMul, qFin_ret, qFin_normal, q3]; (try ((refine okTr_and ?_ ?_); (· rfl))))
          ((refine FinK.fin r55 [] ?_ ?_ ?_ ?_ ?_ ?_); (· decide); (· rfl); (· simp); (· rfl); (· first | with_reducible rfl | (simp [ints_nil, ren_lit, ren_ref, ren_any, ren_agg, ren_tup, ren_sl, ren_fn, tren_none, tren_full, tren_row, oren_cells, oren_row, oren_dead, ixs_z, ixs_1, ixs_2, ixs_3, ren_ints, List.map_cons, List.map_nil, e0]; done) | rfl); (· simp [resAL, resA1, loadA, oneOr, ints_nil, ren_lit, ren_ref, ren_any, ren_agg, ren_tup, ren_sl, ren_fn, tren_none, tren_full, tren_row, oren_cells, oren_row, oren_dead, ixs_z, ixs_1, ixs_2, ixs_3, ren_ints, List.map_cons, List.map_nil, e0]))
        · rw [if_neg hc2] at e0
          have q3 : ((u.take (x / 2 + 1)).1.code != 0) = true := by simpa using hc2
          (simp only [go_sem, Nat.reduceAdd, Nat.reduceMul, Int.reduceToNat, Nat.reduceLeDiff, Int.reduceLE, Int.reduceLT, ↓reduceIte, Int.reduceBEq, Int.reduceBNe, Int.reduceAdd, Int.reduceSub, Int.reduceMul, qFin_ret, qFin_normal, q3]; (try ((refine okTr_and ?_ ?_); (· rfl))))
          (refine FinK.unobj 2 rfl ?_; simp only [List.set_cons_zero, List.set_cons_succ, List.map_cons, List.map_nil, untag1_lit, untag1_sl])
          ((refine FinK.fin r55 [] ?_ ?_ ?_ ?_ ?_ ?_); (· decide); (· rfl); (· simp); (· rfl); (· first | with_reducible rfl | (simp [ints_nil, ren_lit, ren_ref, ren_any, ren_agg, ren_tup, ren_sl, ren_fn, tren_none, tren_full, tren_row, oren_cells, oren_row, oren_dead, ixs_z, ixs_1, ixs_2, ixs_3, ren_ints, List.map_cons, List.map_nil, e0, tk0]; done) | rfl); (· simp [resAL, resA1, loadA, oneOr, ints_nil, ren_lit, ren_ref, ren_any, ren_agg, ren_tup, ren_sl, ren_fn, tren_none, tren_full, tren_row, oren_cells, oren_row, oren_dead, ixs_z, ixs_1, ixs_2, ixs_3, ren_ints, List.map_cons, List.map_nil, e0, tk0]))
  · have q : (u.code != 0) = true := by simpa using hc
    have eh : s.thead = (u, false, 0) := by unfold RS.thead; rw [hu, if_neg hc]
    have e : s.token = (u, tk0) := by unfold RS.token; rw [eh]; simp only; rw [if_neg hc]
    (simp only [go_sem, Nat.reduceAdd, Nat.reduceMul, Int.reduceToNat, Nat.reduceLeDiff, Int.reduceLE, Int.reduceLT, ↓reduceIte, Int.reduceBEq, Int.reduceBNe, Int.reduceAdd, Int.reduceSub, Int.reduceMul, qFin_ret, qFin_normal, hx, hu, q]; (try ((refine okTr_and ?_ ?_); (· rfl))))
    (refine FinK.unobj 2 rfl ?_; simp only [List.set_cons_zero, List.set_cons_succ, List.map_cons, List.map_nil, untag1_lit, untag1_sl])
    ((refine FinK.fin r55 [] ?_ ?_ ?_ ?_ ?_ ?_); (· decide); (· rfl); (· simp); (· rfl); (· first | with_reducible rfl | (simp [ints_nil, ren_lit, ren_ref, ren_any, ren_agg, ren_tup, ren_sl, ren_fn, tren_none, tren_full, tren_row, oren_cells, oren_row, oren_dead, ixs_z, ixs_1, ixs_2, ixs_3, ren_ints, List.map_cons, List.map_nil, e, tk0]; done) | rfl); (· simp [resAL, resA1, loadA, oneOr, ints_nil, ren_lit, ren_ref, ren_any, ren_agg, ren_tup, ren_sl, ren_fn, tren_none, tren_full, tren_row, oren_cells, oren_row, oren_dead, ixs_z, ixs_1, ixs_2, ixs_3, ren_ints, List.map_cons, List.map_nil, e, tk0]))
theorem ref11_Read (s : RS) (hs : ROk s) : Ct Try.prog 55 [cv s] [] (fun _ => .tup [cv s.token.1, tkA s.token.2]) [] (fun _ => []) := (ref11_Read0 s hs).toCt (by intros; simp [ints_nil, ren_lit, ren_ref, ren_any, ren_agg, ren_tup, ren_sl, ren_fn, tren_none, tren_full, tren_row, oren_cells, oren_row, oren_dead, ixs_z, ixs_1, ixs_2, ixs_3, ren_ints, List.map_cons, List.map_nil, ixs, List.range'_succ, ren_ints]) (by intros; simp [ints_nil, ren_lit, ren_ref, ren_any, ren_agg, ren_tup, ren_sl, ren_fn, tren_none, tren_full, tren_row, oren_cells, oren_row, oren_dead, ixs_z, ixs_1, ixs_2, ixs_3, ren_ints, List.map_cons, List.map_nil, ixs, List.range'_succ, ren_ints])
end Go.Proofs.Ytpjkmidjjodplaa
