/-
  Contracts of chapter 8: frames, by the code and by the reference.
-/
import Derived.Test.YtkhnfleejgfhgaaK34
import Derived.Test.YtkhnfleejgfhgaaP14
set_option linter.all false
set_option linter.unusedSimpArgs false
set_option linter.unusedVariables false
set_option linter.unnecessarySimpa false
namespace Go.Proofs.Ytkhnfleejgfhgaa
open Go.RowKit

theorem ref03_Fixed0 (x : Int) (n : Nat) (h0 : 0 ≤ x) (h1 : x < 18446744073709551616) (hn : n ≤ 8) : Does Try.prog 147 [uA x, iA n] [] (slA .u8 (lowBytes n x)) [] := by
  refine Does.run Try.func147 b147 n147 Try.ntmps147 (by simp only [List.cons_append, List.nil_append, List.length_cons, List.length_nil, Nat.zero_add, Nat.reduceAdd, Nat.reduceSub, List.replicate]; rfl) ?_; simp only [c147, go_sem, Nat.reduceAdd, Nat.reduceMul, Int.reduceToNat, Nat.reduceLeDiff, Int.reduceLE, Int.reduceLT, ↓reduceIte, Int.reduceBEq, Int.reduceBNe, Int.reduceAdd, Int.reduceSub, Int.reduceMul, qFin_ret, qFin_normal]; (try ((refine okTr_and ?_ ?_); (· rfl)))
  refine loop_of (α := Nat) (fun k => [uA x, iA n, .any, .any, .any, ownA 0 (lowBytes k x), iA k, .any, .any, .any, .any, .any, .any, .any, .any, .any, .any, .any, .any, .any, .any, .any, .any, .any, .any, .any]) (fun k => [.row 1 k]) (fun k => k ≤ n) (fun k => n - k) 0 (by simp) ((Wk.row 5 1 rfl (.inl rfl) (Nat.le_refl _)).trans (Wk.to (by simp) (by simp [leT, ints, lowBytes]))) ?_
  intro k hk
  have hs := lowBytes_snoc k x
  have hl := lowBytes_len k x
  by_cases hlt : k < n
  · have q1 : decide ((k : Int) < (n : Int)) = true := by simp; omega
    have q2 : decide ((k : Int) < 8) = true := by simp; omega
    have ei := i64_succ k (by omega)
    have em : IntKind.i64.wrap (8 * (k : Int)) = 8 * k := IntWalk.i64_in _ (by omega)
    have eu : IntKind.u64.wrap (8 * (k : Int)) = 8 * k := IntWalk.u64_in _ (by omega)
    have es : x.fdiv (2 ^ min (8 * (k : Int)).toNat 64) = x / 256 ^ k := by
      have : min (8 * (k : Int)).toNat 64 = 8 * k := by omega
      rw [this, Int.fdiv_eq_ediv_of_nonneg _ (Int.le_of_lt (Int.pow_pos (by omega))), Int.pow_mul]; rfl
    have e8 : IntKind.u8.wrap (x / 256 ^ k) = x / 256 ^ k % 256 := IntKind.wrap_u8 _
    (simp only [go_sem, Nat.reduceAdd, Nat.reduceMul, Int.reduceToNat, Nat.reduceLeDiff, Int.reduceLE, Int.reduceLT, ↓reduceIte, Int.reduceBEq, Int.reduceBNe, Int.reduceAdd, Int.reduceSub, Int.reduceMul, qFin_ret, qFin_normal, q1, q2, em, eu, es, e8, ei, ints_snoc, ← hs, ints_length, hl]; (try ((refine okTr_and ?_ ?_); (· rfl))))
    (repeat ((with_reducible refine And.intro ?_ ?_); (· first | with_reducible assumption | omega | with_reducible rfl | (simp only [List.length_append, List.length_cons, List.length_nil, List.length_singleton]; omega) | (simp [ints_length, okEl_eq, AV.parts]; done) | (simp [ints_length, okEl_eq, AV.parts]; omega) | rfl)))
    exact ⟨k + 1, hlt, by omega, Wk.to (by simp) (by simp [leT])⟩
  · have q1 : decide ((k : Int) < (n : Int)) = false := by simp; omega
    have ek : k = n := by omega
    (simp only [go_sem, Nat.reduceAdd, Nat.reduceMul, Int.reduceToNat, Nat.reduceLeDiff, Int.reduceLE, Int.reduceLT, ↓reduceIte, Int.reduceBEq, Int.reduceBNe, Int.reduceAdd, Int.reduceSub, Int.reduceMul, qFin_ret, qFin_normal, q1]; (try ((refine okTr_and ?_ ?_); (· rfl))))
    (refine FinK.untag 4 rfl ?_; simp only [untag1_sl, List.set_cons_zero, List.set_cons_succ])
    ((refine FinK.fin r147 [] ?_ ?_ ?_ ?_ ?_ ?_); (· decide); (· rfl); (· simp); (· rfl); (· first | with_reducible rfl | (simp [ints_nil, ren_lit, ren_ref, ren_any, ren_agg, ren_tup, ren_sl, ren_fn, tren_none, tren_full, tren_row, oren_cells, oren_row, oren_dead, ixs_z, ixs_1, ixs_2, ixs_3, ren_ints, List.map_cons, List.map_nil, ek]; done) | rfl); (· simp [resAL, resA1, loadA, oneOr, ints_nil, ren_lit, ren_ref, ren_any, ren_agg, ren_tup, ren_sl, ren_fn, tren_none, tren_full, tren_row, oren_cells, oren_row, oren_dead, ixs_z, ixs_1, ixs_2, ixs_3, ren_ints, List.map_cons, List.map_nil, ek]))
theorem ref03_Fixed (x : Int) (n : Nat) (h0 : 0 ≤ x) (h1 : x < 18446744073709551616) (hn : n ≤ 8) : Ct Try.prog 147 [uA x, iA n] [] (fun _ => slA .u8 (lowBytes n x)) [] (fun _ => []) := (ref03_Fixed0 x n h0 h1 hn).toCt (by intros; simp [ints_nil, ren_lit, ren_ref, ren_any, ren_agg, ren_tup, ren_sl, ren_fn, tren_none, tren_full, tren_row, oren_cells, oren_row, oren_dead, ixs_z, ixs_1, ixs_2, ixs_3, ren_ints, List.map_cons, List.map_nil, ixs, List.range'_succ, ren_ints]) (by intros; simp [ints_nil, ren_lit, ren_ref, ren_any, ren_agg, ren_tup, ren_sl, ren_fn, tren_none, tren_full, tren_row, oren_cells, oren_row, oren_dead, ixs_z, ixs_1, ixs_2, ixs_3, ren_ints, List.map_cons, List.map_nil, ixs, List.range'_succ, ren_ints])

/-- A writer behind a frame. -/
def WS.frame (s : WS) (p : List Int) : WS := if 2097152 < (p.length : Int) then s.fail 2 else ((s.put (vb p.length)).put p).put (lowBytes 4 (crcI p))
theorem WS.fine.frame {s : WS} (h : s.fine) (p : List Int) : (s.frame p).fine := by
  unfold WS.frame
  split
  · exact h.fail 2
  · exact ((h.put _).put _).put _
theorem frame_fit {s : WS} {p : List Int} (h : s.code = 0) (hp : p.length ≤ 2097152) (hm : (s.l.length : Int) + (frameB p).length ≤ s.most) : s.frame p = ⟨s.most, s.l ++ frameB p, 0⟩ := by
  have h4 := lowBytes_len 4 (crcI p)
  rw [frameB_len] at hm
  unfold blobB at hm
  rw [List.length_append] at hm
  unfold WS.frame
  rw [if_neg (by omega)]
  have e1 : s.put (vb p.length) = ⟨s.most, s.l ++ vb p.length, 0⟩ := by rw [WS.put_ok h (by omega)]; cases s; simp at h; simp [h]
  have e2 : (WS.mk s.most (s.l ++ vb p.length) 0).put p = ⟨s.most, s.l ++ vb p.length ++ p, 0⟩ := by rw [WS.put_ok rfl (by simp only [List.length_append]; omega)]
  have e3 : (WS.mk s.most (s.l ++ vb p.length ++ p) 0).put (lowBytes 4 (crcI p)) = ⟨s.most, s.l ++ vb p.length ++ p ++ lowBytes 4 (crcI p), 0⟩ := by rw [WS.put_ok rfl (by simp only [List.length_append]; omega)]
  rw [e1, e2, e3]
  simp [frameB, blobB]
end Go.Proofs.Ytkhnfleejgfhgaa
