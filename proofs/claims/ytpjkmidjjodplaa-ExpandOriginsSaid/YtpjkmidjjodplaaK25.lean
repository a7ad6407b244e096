/-
  Contracts of chapter 12: the bytes of tokens, by the code and by the reference; live.
-/
import Derived.Test.YtpjkmidjjodplaaK24
import Derived.Test.YtpjkmidjjodplaaP9
set_option linter.all false
set_option linter.unusedSimpArgs false
set_option linter.unusedVariables false
set_option linter.unnecessarySimpa false
namespace Go.Proofs.Ytpjkmidjjodplaa
open Go.RowKit

abbrev expA (q : List Int × (Int × Int)) : AV := .tup [slA .u8 q.1, fltA q.2]
set_option maxRecDepth 100000 in
theorem expand_Tokens0 (l : List Tk) (bound : Int) (b0 : -9223372036854775808 ≤ bound) (b1 : bound ≤ 100000000) (hl : l.length ≤ 1000000) : Does Try.prog 19 [slT l, iA bound] [] (expA (expT l bound)) [] := by
  refine Does.run Try.func19 b19 n19 Try.ntmps19 (by simp only [List.cons_append, List.nil_append, List.length_cons, List.length_nil, Nat.zero_add, Nat.reduceAdd, Nat.reduceSub, List.replicate]; rfl) ?_; simp only [c19, go_sem, Nat.reduceAdd, Nat.reduceMul, Int.reduceToNat, Nat.reduceLeDiff, Int.reduceLE, Int.reduceLT, ↓reduceIte, Int.reduceBEq, Int.reduceBNe, Int.reduceAdd, Int.reduceSub, Int.reduceMul, qFin_ret, qFin_normal, tks_length]; (try ((refine okTr_and ?_ ?_); (· rfl)))
  refine loop_of (α := Nat × List Int) (fun a => [.any, iA bound, .any, .any, .any, .ref 0 0, ownA 1 a.2, .any, .any, .any, slT l, iA l.length, iA a.1, .any, .any, .any, .any, .any, .any, .any, .any, .any, .any, .any, .any, .any, .any, .any, .any, .any, .any, .any, .any, .any, .any, .any, .any, .any, .any, .any]) (fun a => [.cells [iA 0, iA 0], .row 1 a.2.length]) (fun a => a.1 ≤ l.length ∧ (a.2.length : Int) ≤ max bound 0 ∧ expFrom bound (l.drop a.1) a.1 a.2 = expT l bound) (fun a => l.length - a.1) (0, []) ⟨by simp, by simp; omega, by simp [expT]⟩ ((Wk.row 6 1 rfl (.inl rfl) (Nat.le_refl _)).trans (Wk.to (by simp) (by simp [leT, ints]))) ?_
  rintro ⟨k, out⟩ ⟨hk, ho, he⟩
  simp only at hk ho he
  (simp only [go_sem, Nat.reduceAdd, Nat.reduceMul, Int.reduceToNat, Nat.reduceLeDiff, Int.reduceLE, Int.reduceLT, ↓reduceIte, Int.reduceBEq, Int.reduceBNe, Int.reduceAdd, Int.reduceSub, Int.reduceMul, qFin_ret, qFin_normal]; (try ((refine okTr_and ?_ ?_); (· rfl))))
  refine cdK_split (fun h => ?_) (fun h => ?_)
  · have hlt : k < l.length := by simpa using h
    have g := tks_get l k hlt
    have ei := i64_succ k (by omega)
    obtain ⟨t, ht⟩ : ∃ t, l.getD k tk0 = t := ⟨_, rfl⟩
    have st := exp_step (l := l) (bound := bound) (k := k) (out := out) hlt
    have sp := exp_stop (l := l) (bound := bound) (k := k) (out := out) hlt
    rw [ht] at g st sp
    (simp only [go_sem, Nat.reduceAdd, Nat.reduceMul, Int.reduceToNat, Nat.reduceLeDiff, Int.reduceLE, Int.reduceLT, ↓reduceIte, Int.reduceBEq, Int.reduceBNe, Int.reduceAdd, Int.reduceSub, Int.reduceMul, qFin_ret, qFin_normal, g, tks_length, ints_length]; (try ((refine okTr_and ?_ ?_); (· rfl))))
    (repeat ((with_reducible refine And.intro ?_ ?_); (· first | with_reducible assumption | omega | with_reducible rfl | (simp only [List.length_append, List.length_cons, List.length_nil, List.length_singleton]; omega) | (simp [ints_length, okEl_eq, AV.parts]; done) | (simp [ints_length, okEl_eq, AV.parts]; omega) | rfl)))
    refine CallK.p (expand_wrong t out.length bound (by omega) ho b0 (by omega)) ?_
    by_cases hw : wrongT t out.length bound = 0
    · obtain ⟨w1, w2, w3⟩ := wrongT_zero hw
      have st' := st hw
      rw [he] at st'
      have hm := made_pos w1
      have hlen := expW_len out w1
      have hlit : t.lit.length ≤ 1048576 := by
        rcases right_iff.1 w1 with h | h
        · exact (run_iff.1 h).2.2.2
        · rw [(copy_iff.1 h).1]; simp
      have hcond : t.len ≤ 1048576 ∧ (0 < t.len → 1 ≤ t.off ∧ t.off ≤ ((out ++ t.lit).length : Int)) := by
        rw [List.length_append]
        rcases right_iff.1 w1 with h | h
        · have := run_iff.1 h; omega
        · have := copy_iff.1 h; omega
      have q : (wrongT t out.length bound != 0) = false := by rw [hw]; rfl
      have eW : again (out ++ t.lit) t.off.toNat t.len.toNat = expW out t := rfl
      (simp only [go_sem, Nat.reduceAdd, Nat.reduceMul, Int.reduceToNat, Nat.reduceLeDiff, Int.reduceLE, Int.reduceLT, ↓reduceIte, Int.reduceBEq, Int.reduceBNe, Int.reduceAdd, Int.reduceSub, Int.reduceMul, qFin_ret, qFin_normal, q, ints_append, ints_length, ← List.length_append]; (try ((refine okTr_and ?_ ?_); (· rfl))))
      (repeat ((with_reducible refine And.intro ?_ ?_); (· first | with_reducible assumption | omega | with_reducible rfl | (simp only [List.length_append, List.length_cons, List.length_nil, List.length_singleton]; omega) | (simp [ints_length, okEl_eq, AV.parts]; done) | (simp [ints_length, okEl_eq, AV.parts]; omega) | rfl)))
      refine CallK.o1 (expand_again (out ++ t.lit) t.off t.len _ hcond.1 hcond.2 (by rw [List.length_append]; omega)) rfl ?_; (simp only [go_sem, Nat.reduceAdd, Nat.reduceMul, Int.reduceToNat, Nat.reduceLeDiff, Int.reduceLE, Int.reduceLT, ↓reduceIte, Int.reduceBEq, Int.reduceBNe, Int.reduceAdd, Int.reduceSub, Int.reduceMul, qFin_ret, qFin_normal, eW, ei]; (try ((refine okTr_and ?_ ?_); (· rfl))))
      exact ⟨(k + 1, expW out t), ⟨hlt, by simp only; omega, st'.symm⟩, by simp only; omega, Wk.sel [0, 1] (by simp) rfl (by simp) rfl (by simp [ints_nil, ren_lit, ren_ref, ren_any, ren_agg, ren_tup, ren_sl, ren_fn, tren_none, tren_full, tren_row, oren_cells, oren_row, oren_dead, ixs_z, ixs_1, ixs_2, ixs_3, ren_ints, List.map_cons, List.map_nil]) (by simp [selT, ints_nil, ren_lit, ren_ref, ren_any, ren_agg, ren_tup, ren_sl, ren_fn, tren_none, tren_full, tren_row, oren_cells, oren_row, oren_dead, ixs_z, ixs_1, ixs_2, ixs_3, ren_ints, List.map_cons, List.map_nil, ixs])⟩
    · have sp' := sp hw
      rw [he] at sp'
      have q : (wrongT t out.length bound != 0) = true := by simpa using hw
      (simp only [go_sem, Nat.reduceAdd, Nat.reduceMul, Int.reduceToNat, Nat.reduceLeDiff, Int.reduceLE, Int.reduceLT, ↓reduceIte, Int.reduceBEq, Int.reduceBNe, Int.reduceAdd, Int.reduceSub, Int.reduceMul, qFin_ret, qFin_normal, q]; (try ((refine okTr_and ?_ ?_); (· rfl))))
      refine CallK.p (fault_At (wrongT t out.length bound) k) ?_; (simp only [go_sem, Nat.reduceAdd, Nat.reduceMul, Int.reduceToNat, Nat.reduceLeDiff, Int.reduceLE, Int.reduceLT, ↓reduceIte, Int.reduceBEq, Int.reduceBNe, Int.reduceAdd, Int.reduceSub, Int.reduceMul, qFin_ret, qFin_normal]; (try ((refine okTr_and ?_ ?_); (· rfl))))
      (refine FinK.untag 4 rfl ?_; simp only [untag1_sl, List.set_cons_zero, List.set_cons_succ])
      ((refine FinK.fin r19 [] ?_ ?_ ?_ ?_ ?_ ?_); (· decide); (· rfl); (· simp); (· rfl); (· first | with_reducible rfl | (simp [ints_nil, ren_lit, ren_ref, ren_any, ren_agg, ren_tup, ren_sl, ren_fn, tren_none, tren_full, tren_row, oren_cells, oren_row, oren_dead, ixs_z, ixs_1, ixs_2, ixs_3, ren_ints, List.map_cons, List.map_nil, sp', flt, hw]; done) | rfl); (· simp [resAL, resA1, loadA, oneOr, ints_nil, ren_lit, ren_ref, ren_any, ren_agg, ren_tup, ren_sl, ren_fn, tren_none, tren_full, tren_row, oren_cells, oren_row, oren_dead, ixs_z, ixs_1, ixs_2, ixs_3, ren_ints, List.map_cons, List.map_nil, sp', flt, hw]))
  · have ek : k = l.length := by simp at h; omega
    rw [ek, List.drop_length] at he
    have he' : expT l bound = (out, (0, 0)) := he.symm
    (simp only [go_sem, Nat.reduceAdd, Nat.reduceMul, Int.reduceToNat, Nat.reduceLeDiff, Int.reduceLE, Int.reduceLT, ↓reduceIte, Int.reduceBEq, Int.reduceBNe, Int.reduceAdd, Int.reduceSub, Int.reduceMul, qFin_ret, qFin_normal]; (try ((refine okTr_and ?_ ?_); (· rfl))))
    (refine FinK.untag 4 rfl ?_; simp only [untag1_sl, List.set_cons_zero, List.set_cons_succ])
    ((refine FinK.fin r19 [] ?_ ?_ ?_ ?_ ?_ ?_); (· decide); (· rfl); (· simp); (· rfl); (· first | with_reducible rfl | (simp [ints_nil, ren_lit, ren_ref, ren_any, ren_agg, ren_tup, ren_sl, ren_fn, tren_none, tren_full, tren_row, oren_cells, oren_row, oren_dead, ixs_z, ixs_1, ixs_2, ixs_3, ren_ints, List.map_cons, List.map_nil, he']; done) | rfl); (· simp [resAL, resA1, loadA, oneOr, ints_nil, ren_lit, ren_ref, ren_any, ren_agg, ren_tup, ren_sl, ren_fn, tren_none, tren_full, tren_row, oren_cells, oren_row, oren_dead, ixs_z, ixs_1, ixs_2, ixs_3, ren_ints, List.map_cons, List.map_nil, he']))
theorem expand_Tokens (l : List Tk) (bound : Int) (b0 : -9223372036854775808 ≤ bound) (b1 : bound ≤ 100000000) (hl : l.length ≤ 1000000) : Ct Try.prog 19 [slT l, iA bound] [] (fun _ => expA (expT l bound)) [] (fun _ => []) := (expand_Tokens0 l bound b0 b1 hl).toCt (by intros; simp [ints_nil, ren_lit, ren_ref, ren_any, ren_agg, ren_tup, ren_sl, ren_fn, tren_none, tren_full, tren_row, oren_cells, oren_row, oren_dead, ixs_z, ixs_1, ixs_2, ixs_3, ren_ints, List.map_cons, List.map_nil, ixs, List.range'_succ, ren_ints]) (by intros; simp [ints_nil, ren_lit, ren_ref, ren_any, ren_agg, ren_tup, ren_sl, ren_fn, tren_none, tren_full, tren_row, oren_cells, oren_row, oren_dead, ixs_z, ixs_1, ixs_2, ixs_3, ren_ints, List.map_cons, List.map_nil, ixs, List.range'_succ, ren_ints])

set_option maxRecDepth 100000 in
theorem ref12_With0 (b : List Int) (t : Tk) (hr : t.right = true) (hf : t.off ≤ b.length) (hb : b.length ≤ 100000000) : Does Try.prog 74 [slA .u8 b, tkA t] [] (ownA 0 (expW b t)) [.row 1 (expW b t).length] := by
  have hlit : t.lit.length ≤ 1048576 ∧ t.len ≤ 1048576 ∧ (0 < t.len → t.lit = [] ∧ 1 ≤ t.off) := by
    rcases right_iff.1 hr with h | h
    · have := run_iff.1 h; exact ⟨this.2.2.2, by omega, by omega⟩
    · have := copy_iff.1 h; exact ⟨by rw [this.1]; simp, by omega, fun _ => ⟨this.1, by omega⟩⟩
  obtain ⟨l1, l2, l3⟩ := hlit
  refine Does.run Try.func74 b74 n74 Try.ntmps74 (by simp only [List.cons_append, List.nil_append, List.length_cons, List.length_nil, Nat.zero_add, Nat.reduceAdd, Nat.reduceSub, List.replicate]; rfl) ?_; simp only [c74, go_sem, Nat.reduceAdd, Nat.reduceMul, Int.reduceToNat, Nat.reduceLeDiff, Int.reduceLE, Int.reduceLT, ↓reduceIte, Int.reduceBEq, Int.reduceBNe, Int.reduceAdd, Int.reduceSub, Int.reduceMul, qFin_ret, qFin_normal, ints_length]; (try ((refine okTr_and ?_ ?_); (· rfl)))
  (repeat ((with_reducible refine And.intro ?_ ?_); (· first | with_reducible assumption | omega | with_reducible rfl | (simp only [List.length_append, List.length_cons, List.length_nil, List.length_singleton]; omega) | (simp [ints_length, okEl_eq, AV.parts]; done) | (simp [ints_length, okEl_eq, AV.parts]; omega) | rfl)))
  (simp only [go_sem, Nat.reduceAdd, Nat.reduceMul, Int.reduceToNat, Nat.reduceLeDiff, Int.reduceLE, Int.reduceLT, ↓reduceIte, Int.reduceBEq, Int.reduceBNe, Int.reduceAdd, Int.reduceSub, Int.reduceMul, qFin_ret, qFin_normal, ints_append, ints_length, ← List.length_append]; (try ((refine okTr_and ?_ ?_); (· rfl))))
  (repeat ((with_reducible refine And.intro ?_ ?_); (· first | with_reducible assumption | omega | with_reducible rfl | (simp only [List.length_append, List.length_cons, List.length_nil, List.length_singleton]; omega) | (simp [ints_length, okEl_eq, AV.parts]; done) | (simp [ints_length, okEl_eq, AV.parts]; omega) | rfl)))
  refine loop_of (α := Nat) (fun k => [slA .u8 b, .any, .any, .ref 0 0, .any, ownA 1 (again (b ++ t.lit) t.off.toNat k), iA k, .any, .any, .any, .any, .any, .any, .any, .any, .any, .any, .any, .any, .any, .any, .any, .any, .any, .any, .any, .any, .any, .any, .any, .any, .any, .any, .any]) (fun k => [.cells [slA .u8 t.lit, iA t.off, iA t.len], .row 1 (again (b ++ t.lit) t.off.toNat k).length]) (fun k => k ≤ t.len.toNat) (fun k => t.len.toNat - k) 0 (by simp) (Wk.to (by simp [again]) (by simp [leT, again])) ?_
  intro k hk
  have hal := again_len t.off.toNat k (b ++ t.lit)
  rw [List.length_append] at hal
  (simp only [go_sem, Nat.reduceAdd, Nat.reduceMul, Int.reduceToNat, Nat.reduceLeDiff, Int.reduceLE, Int.reduceLT, ↓reduceIte, Int.reduceBEq, Int.reduceBNe, Int.reduceAdd, Int.reduceSub, Int.reduceMul, qFin_ret, qFin_normal, ints_length]; (try ((refine okTr_and ?_ ?_); (· rfl))))
  by_cases hlt : (k : Int) < t.len
  · have q : decide ((k : Int) < t.len) = true := by simpa using hlt
    obtain ⟨h1, h2⟩ := l3 (by omega)
    have ei := i64_succ k (by omega)
    have hs := again_snoc t.off.toNat k (b ++ t.lit)
    have hl0 : t.lit.length = 0 := by rw [h1]; rfl
    obtain ⟨m, hm⟩ : ∃ m : Nat, (again (b ++ t.lit) t.off.toNat k).length - t.off.toNat = m := ⟨_, rfl⟩
    rw [hm] at hs
    have e0 : IntKind.i64.wrap ((b.length : Int) + k) = b.length + k := IntWalk.i64_in _ (by omega)
    have e1 : IntKind.i64.wrap ((b.length : Int) + k - t.off) = (m : Int) := by rw [IntWalk.i64_in _ (by omega)]; omega
    have g := u8_get (again (b ++ t.lit) t.off.toNat k) m (by omega) (by omega)
    rw [Int.toNat_natCast] at g
    have hsl := congrArg List.length hs
    rw [List.length_append, List.length_singleton] at hsl
    (simp only [go_sem, Nat.reduceAdd, Nat.reduceMul, Int.reduceToNat, Nat.reduceLeDiff, Int.reduceLE, Int.reduceLT, ↓reduceIte, Int.reduceBEq, Int.reduceBNe, Int.reduceAdd, Int.reduceSub, Int.reduceMul, qFin_ret, qFin_normal, q, e0, e1, g, Int.toNat_natCast, ints_length, ints_snoc, ← hs, ei]; (try ((refine okTr_and ?_ ?_); (· rfl))))
    (repeat ((with_reducible refine And.intro ?_ ?_); (· first | with_reducible assumption | omega | with_reducible rfl | (simp only [List.length_append, List.length_cons, List.length_nil, List.length_singleton]; omega) | (simp [ints_length, okEl_eq, AV.parts]; done) | (simp [ints_length, okEl_eq, AV.parts]; omega) | rfl)))
    exact ⟨k + 1, by omega, by omega, Wk.to (by simp; omega) (by simp [leT])⟩
  · have q : decide ((k : Int) < t.len) = false := by simpa using hlt
    have ek : k = t.len.toNat := by omega
    (simp only [go_sem, Nat.reduceAdd, Nat.reduceMul, Int.reduceToNat, Nat.reduceLeDiff, Int.reduceLE, Int.reduceLT, ↓reduceIte, Int.reduceBEq, Int.reduceBNe, Int.reduceAdd, Int.reduceSub, Int.reduceMul, qFin_ret, qFin_normal, q]; (try ((refine okTr_and ?_ ?_); (· rfl))))
    ((refine FinK.fin r74 [1] ?_ ?_ ?_ ?_ ?_ ?_); (· decide); (· rfl); (· simp); (· rfl); (· first | with_reducible rfl | (simp [ints_nil, ren_lit, ren_ref, ren_any, ren_agg, ren_tup, ren_sl, ren_fn, tren_none, tren_full, tren_row, oren_cells, oren_row, oren_dead, ixs_z, ixs_1, ixs_2, ixs_3, ren_ints, List.map_cons, List.map_nil, ek, expW]; done) | rfl); (· simp [resAL, resA1, loadA, oneOr, ints_nil, ren_lit, ren_ref, ren_any, ren_agg, ren_tup, ren_sl, ren_fn, tren_none, tren_full, tren_row, oren_cells, oren_row, oren_dead, ixs_z, ixs_1, ixs_2, ixs_3, ren_ints, List.map_cons, List.map_nil, ek, expW]))
theorem ref12_With (b : List Int) (t : Tk) (hr : t.right = true) (hf : t.off ≤ b.length) (hb : b.length ≤ 100000000) : Ct Try.prog 74 [slA .u8 b, tkA t] [] (fun n => ownA n (expW b t)) [] (fun _ => [.row 1 (expW b t).length]) := Ct.n (ref12_With0 b t hr hf hb) (by intros; simp [ints_nil, ren_lit, ren_ref, ren_any, ren_agg, ren_tup, ren_sl, ren_fn, tren_none, tren_full, tren_row, oren_cells, oren_row, oren_dead, ixs_z, ixs_1, ixs_2, ixs_3, ren_ints, List.map_cons, List.map_nil, ixs, List.range'_succ, ren_ints]) (by intros; simp [ints_nil, ren_lit, ren_ref, ren_any, ren_agg, ren_tup, ren_sl, ren_fn, tren_none, tren_full, tren_row, oren_cells, oren_row, oren_dead, ixs_z, ixs_1, ixs_2, ixs_3, ren_ints, List.map_cons, List.map_nil, ixs, List.range'_succ, ren_ints]) (by intros; simp [ints_nil, ren_lit, ren_ref, ren_any, ren_agg, ren_tup, ren_sl, ren_fn, tren_none, tren_full, tren_row, oren_cells, oren_row, oren_dead, ixs_z, ixs_1, ixs_2, ixs_3, ren_ints, List.map_cons, List.map_nil, flt])
set_option maxRecDepth 100000 in
theorem ref12_Tokens0 (l : List Tk) (bound : Int) (b0 : -9223372036854775808 ≤ bound) (b1 : bound ≤ 100000000) (hl : l.length ≤ 1000000) : Does Try.prog 20 [slT l, iA bound] [] (expA (expT l bound)) [] := by
  refine Does.run Try.func20 b20 n20 Try.ntmps20 (by simp only [List.cons_append, List.nil_append, List.length_cons, List.length_nil, Nat.zero_add, Nat.reduceAdd, Nat.reduceSub, List.replicate]; rfl) ?_; simp only [c20, go_sem, Nat.reduceAdd, Nat.reduceMul, Int.reduceToNat, Nat.reduceLeDiff, Int.reduceLE, Int.reduceLT, ↓reduceIte, Int.reduceBEq, Int.reduceBNe, Int.reduceAdd, Int.reduceSub, Int.reduceMul, qFin_ret, qFin_normal]; (try ((refine okTr_and ?_ ?_); (· rfl)))
  refine loop_of (α := Nat × List Int) (fun a => [slT l, iA bound, .any, .any, .any, .ref 0 0, slA .u8 a.2, iA a.1, .any, .any, .any, .any, .any, .any, .any, .any, .any, .any, .any, .any, .any, .any, .any, .any, .any, .any, .any, .any, .any, .any, .any, .any, .any, .any, .any, .any, .any, .any, .any, .any, .any, .any, .any, .any, .any, .any, .any, .any, .any, .any, .any, .any]) (fun a => [.cells [iA 0, iA 0]]) (fun a => a.1 ≤ l.length ∧ (a.2.length : Int) ≤ max bound 0 ∧ expFrom bound (l.drop a.1) a.1 a.2 = expT l bound) (fun a => l.length - a.1) (0, []) ⟨by simp, by simp; omega, by simp [expT]⟩ ((Wk.nilk 6 1 rfl).trans (Wk.to (by simp) (by simp [leT, ints]))) ?_
  rintro ⟨k, out⟩ ⟨hk, ho, he⟩
  simp only at hk ho he
  (simp only [go_sem, Nat.reduceAdd, Nat.reduceMul, Int.reduceToNat, Nat.reduceLeDiff, Int.reduceLE, Int.reduceLT, ↓reduceIte, Int.reduceBEq, Int.reduceBNe, Int.reduceAdd, Int.reduceSub, Int.reduceMul, qFin_ret, qFin_normal, tks_length]; (try ((refine okTr_and ?_ ?_); (· rfl))))
  refine cdK_split (fun h => ?_) (fun h => ?_)
  · have hlt : k < l.length := by simpa using h
    have g := tks_get l k hlt
    have ei := i64_succ k (by omega)
    obtain ⟨t, ht⟩ : ∃ t, l.getD k tk0 = t := ⟨_, rfl⟩
    have st := exp_step (l := l) (bound := bound) (k := k) (out := out) hlt
    have sp := exp_stop (l := l) (bound := bound) (k := k) (out := out) hlt
    rw [ht] at g st sp
    (simp only [go_sem, Nat.reduceAdd, Nat.reduceMul, Int.reduceToNat, Nat.reduceLeDiff, Int.reduceLE, Int.reduceLT, ↓reduceIte, Int.reduceBEq, Int.reduceBNe, Int.reduceAdd, Int.reduceSub, Int.reduceMul, qFin_ret, qFin_normal, g, tks_length]; (try ((refine okTr_and ?_ ?_); (· rfl))))
    (repeat ((with_reducible refine And.intro ?_ ?_); (· first | with_reducible assumption | omega | with_reducible rfl | (simp only [List.length_append, List.length_cons, List.length_nil, List.length_singleton]; omega) | (simp [ints_length, okEl_eq, AV.parts]; done) | (simp [ints_length, okEl_eq, AV.parts]; omega) | rfl)))
    refine CallK.p (ref11_Right t) ?_
    cases hr : t.right
    · have hw : wrongT t out.length bound = 3 := by unfold wrongT; rw [hr]; rfl
      have sp' := sp (by rw [hw]; decide)
      rw [he, hw] at sp'
      (simp only [go_sem, Nat.reduceAdd, Nat.reduceMul, Int.reduceToNat, Nat.reduceLeDiff, Int.reduceLE, Int.reduceLT, ↓reduceIte, Int.reduceBEq, Int.reduceBNe, Int.reduceAdd, Int.reduceSub, Int.reduceMul, qFin_ret, qFin_normal, hr]; (try ((refine okTr_and ?_ ?_); (· rfl))))
      refine CallK.p (ref01_At 3 k) ?_; (simp only [go_sem, Nat.reduceAdd, Nat.reduceMul, Int.reduceToNat, Nat.reduceLeDiff, Int.reduceLE, Int.reduceLT, ↓reduceIte, Int.reduceBEq, Int.reduceBNe, Int.reduceAdd, Int.reduceSub, Int.reduceMul, qFin_ret, qFin_normal]; (try ((refine okTr_and ?_ ?_); (· rfl))))
      (refine FinK.untag 4 rfl ?_; simp only [untag1_sl, List.set_cons_zero, List.set_cons_succ])
      ((refine FinK.fin r20 [] ?_ ?_ ?_ ?_ ?_ ?_); (· decide); (· rfl); (· simp); (· rfl); (· first | with_reducible rfl | (simp [ints_nil, ren_lit, ren_ref, ren_any, ren_agg, ren_tup, ren_sl, ren_fn, tren_none, tren_full, tren_row, oren_cells, oren_row, oren_dead, ixs_z, ixs_1, ixs_2, ixs_3, ren_ints, List.map_cons, List.map_nil, sp', flt]; done) | rfl); (· simp [resAL, resA1, loadA, oneOr, ints_nil, ren_lit, ren_ref, ren_any, ren_agg, ren_tup, ren_sl, ren_fn, tren_none, tren_full, tren_row, oren_cells, oren_row, oren_dead, ixs_z, ixs_1, ixs_2, ixs_3, ren_ints, List.map_cons, List.map_nil, sp', flt]))
    · have hm := made_pos hr
      have e1 : IntKind.i64.wrap ((out.length : Int) + t.made) = out.length + t.made := IntWalk.i64_in _ (by omega)
      (simp only [go_sem, Nat.reduceAdd, Nat.reduceMul, Int.reduceToNat, Nat.reduceLeDiff, Int.reduceLE, Int.reduceLT, ↓reduceIte, Int.reduceBEq, Int.reduceBNe, Int.reduceAdd, Int.reduceSub, Int.reduceMul, qFin_ret, qFin_normal, hr, g, tks_length, ints_length]; (try ((refine okTr_and ?_ ?_); (· rfl))))
      (repeat ((with_reducible refine And.intro ?_ ?_); (· first | with_reducible assumption | omega | with_reducible rfl | (simp only [List.length_append, List.length_cons, List.length_nil, List.length_singleton]; omega) | (simp [ints_length, okEl_eq, AV.parts]; done) | (simp [ints_length, okEl_eq, AV.parts]; omega) | rfl)))
      refine CallK.p (ref11_Len t) ?_
      by_cases c1 : bound < (out.length : Int) + t.made
      · have q1 : decide (bound < (out.length : Int) + t.made) = true := by simpa using c1
        have hw : wrongT t out.length bound = 11 := by unfold wrongT; rw [hr, if_neg (by simp), if_pos c1]
        have sp' := sp (by rw [hw]; decide)
        rw [he, hw] at sp'
        (simp only [go_sem, Nat.reduceAdd, Nat.reduceMul, Int.reduceToNat, Nat.reduceLeDiff, Int.reduceLE, Int.reduceLT, ↓reduceIte, Int.reduceBEq, Int.reduceBNe, Int.reduceAdd, Int.reduceSub, Int.reduceMul, qFin_ret, qFin_normal, e1, q1]; (try ((refine okTr_and ?_ ?_); (· rfl))))
        refine CallK.p (ref01_At 11 k) ?_; (simp only [go_sem, Nat.reduceAdd, Nat.reduceMul, Int.reduceToNat, Nat.reduceLeDiff, Int.reduceLE, Int.reduceLT, ↓reduceIte, Int.reduceBEq, Int.reduceBNe, Int.reduceAdd, Int.reduceSub, Int.reduceMul, qFin_ret, qFin_normal]; (try ((refine okTr_and ?_ ?_); (· rfl))))
        (refine FinK.untag 4 rfl ?_; simp only [untag1_sl, List.set_cons_zero, List.set_cons_succ])
        ((refine FinK.fin r20 [] ?_ ?_ ?_ ?_ ?_ ?_); (· decide); (· rfl); (· simp); (· rfl); (· first | with_reducible rfl | (simp [ints_nil, ren_lit, ren_ref, ren_any, ren_agg, ren_tup, ren_sl, ren_fn, tren_none, tren_full, tren_row, oren_cells, oren_row, oren_dead, ixs_z, ixs_1, ixs_2, ixs_3, ren_ints, List.map_cons, List.map_nil, sp', flt]; done) | rfl); (· simp [resAL, resA1, loadA, oneOr, ints_nil, ren_lit, ren_ref, ren_any, ren_agg, ren_tup, ren_sl, ren_fn, tren_none, tren_full, tren_row, oren_cells, oren_row, oren_dead, ixs_z, ixs_1, ixs_2, ixs_3, ren_ints, List.map_cons, List.map_nil, sp', flt]))
      · have q1 : decide (bound < (out.length : Int) + t.made) = false := by simpa using c1
        (simp only [go_sem, Nat.reduceAdd, Nat.reduceMul, Int.reduceToNat, Nat.reduceLeDiff, Int.reduceLE, Int.reduceLT, ↓reduceIte, Int.reduceBEq, Int.reduceBNe, Int.reduceAdd, Int.reduceSub, Int.reduceMul, qFin_ret, qFin_normal, e1, q1, g, tks_length, ints_length]; (try ((refine okTr_and ?_ ?_); (· rfl))))
        (repeat ((with_reducible refine And.intro ?_ ?_); (· first | with_reducible assumption | omega | with_reducible rfl | (simp only [List.length_append, List.length_cons, List.length_nil, List.length_singleton]; omega) | (simp [ints_length, okEl_eq, AV.parts]; done) | (simp [ints_length, okEl_eq, AV.parts]; omega) | rfl)))
        by_cases c2 : (out.length : Int) < t.off
        · have q2 : decide ((out.length : Int) < t.off) = true := by simpa using c2
          have hw : wrongT t out.length bound = 10 := by unfold wrongT; rw [hr, if_neg (by simp), if_neg c1, if_pos c2]
          have sp' := sp (by rw [hw]; decide)
          rw [he, hw] at sp'
          (simp only [go_sem, Nat.reduceAdd, Nat.reduceMul, Int.reduceToNat, Nat.reduceLeDiff, Int.reduceLE, Int.reduceLT, ↓reduceIte, Int.reduceBEq, Int.reduceBNe, Int.reduceAdd, Int.reduceSub, Int.reduceMul, qFin_ret, qFin_normal, q2]; (try ((refine okTr_and ?_ ?_); (· rfl))))
          refine CallK.p (ref01_At 10 k) ?_; (simp only [go_sem, Nat.reduceAdd, Nat.reduceMul, Int.reduceToNat, Nat.reduceLeDiff, Int.reduceLE, Int.reduceLT, ↓reduceIte, Int.reduceBEq, Int.reduceBNe, Int.reduceAdd, Int.reduceSub, Int.reduceMul, qFin_ret, qFin_normal]; (try ((refine okTr_and ?_ ?_); (· rfl))))
          (refine FinK.untag 4 rfl ?_; simp only [untag1_sl, List.set_cons_zero, List.set_cons_succ])
          ((refine FinK.fin r20 [] ?_ ?_ ?_ ?_ ?_ ?_); (· decide); (· rfl); (· simp); (· rfl); (· first | with_reducible rfl | (simp [ints_nil, ren_lit, ren_ref, ren_any, ren_agg, ren_tup, ren_sl, ren_fn, tren_none, tren_full, tren_row, oren_cells, oren_row, oren_dead, ixs_z, ixs_1, ixs_2, ixs_3, ren_ints, List.map_cons, List.map_nil, sp', flt]; done) | rfl); (· simp [resAL, resA1, loadA, oneOr, ints_nil, ren_lit, ren_ref, ren_any, ren_agg, ren_tup, ren_sl, ren_fn, tren_none, tren_full, tren_row, oren_cells, oren_row, oren_dead, ixs_z, ixs_1, ixs_2, ixs_3, ren_ints, List.map_cons, List.map_nil, sp', flt]))
        · have q2 : decide ((out.length : Int) < t.off) = false := by simpa using c2
          have hw : wrongT t out.length bound = 0 := by unfold wrongT; rw [hr, if_neg (by simp), if_neg c1, if_neg c2]
          have st' := st hw
          rw [he] at st'
          have hlen := expW_len out hr
          (simp only [go_sem, Nat.reduceAdd, Nat.reduceMul, Int.reduceToNat, Nat.reduceLeDiff, Int.reduceLE, Int.reduceLT, ↓reduceIte, Int.reduceBEq, Int.reduceBNe, Int.reduceAdd, Int.reduceSub, Int.reduceMul, qFin_ret, qFin_normal, q2, g, tks_length]; (try ((refine okTr_and ?_ ?_); (· rfl))))
          (repeat ((with_reducible refine And.intro ?_ ?_); (· first | with_reducible assumption | omega | with_reducible rfl | (simp only [List.length_append, List.length_cons, List.length_nil, List.length_singleton]; omega) | (simp [ints_length, okEl_eq, AV.parts]; done) | (simp [ints_length, okEl_eq, AV.parts]; omega) | rfl)))
          refine CallK.n (ref12_With out t hr (by omega) (by omega)) ?_; (simp only [go_sem, Nat.reduceAdd, Nat.reduceMul, Int.reduceToNat, Nat.reduceLeDiff, Int.reduceLE, Int.reduceLT, ↓reduceIte, Int.reduceBEq, Int.reduceBNe, Int.reduceAdd, Int.reduceSub, Int.reduceMul, qFin_ret, qFin_normal, ei]; (try ((refine okTr_and ?_ ?_); (· rfl))))
          exact ⟨(k + 1, expW out t), ⟨hlt, by simp only; omega, st'.symm⟩, by simp only; omega, (Wk.untag 6 rfl).trans (Wk.sel [0] (by simp) rfl (by simp) rfl (by simp [ints_nil, ren_lit, ren_ref, ren_any, ren_agg, ren_tup, ren_sl, ren_fn, tren_none, tren_full, tren_row, oren_cells, oren_row, oren_dead, ixs_z, ixs_1, ixs_2, ixs_3, ren_ints, List.map_cons, List.map_nil]) (by simp [selT, ints_nil, ren_lit, ren_ref, ren_any, ren_agg, ren_tup, ren_sl, ren_fn, tren_none, tren_full, tren_row, oren_cells, oren_row, oren_dead, ixs_z, ixs_1, ixs_2, ixs_3, ren_ints, List.map_cons, List.map_nil, untag1_sl]))⟩
  · have ek : k = l.length := by simp at h; omega
    rw [ek, List.drop_length] at he
    have he' : expT l bound = (out, (0, 0)) := he.symm
    (simp only [go_sem, Nat.reduceAdd, Nat.reduceMul, Int.reduceToNat, Nat.reduceLeDiff, Int.reduceLE, Int.reduceLT, ↓reduceIte, Int.reduceBEq, Int.reduceBNe, Int.reduceAdd, Int.reduceSub, Int.reduceMul, qFin_ret, qFin_normal]; (try ((refine okTr_and ?_ ?_); (· rfl))))
    ((refine FinK.fin r20 [] ?_ ?_ ?_ ?_ ?_ ?_); (· decide); (· rfl); (· simp); (· rfl); (· first | with_reducible rfl | (simp [ints_nil, ren_lit, ren_ref, ren_any, ren_agg, ren_tup, ren_sl, ren_fn, tren_none, tren_full, tren_row, oren_cells, oren_row, oren_dead, ixs_z, ixs_1, ixs_2, ixs_3, ren_ints, List.map_cons, List.map_nil, he']; done) | rfl); (· simp [resAL, resA1, loadA, oneOr, ints_nil, ren_lit, ren_ref, ren_any, ren_agg, ren_tup, ren_sl, ren_fn, tren_none, tren_full, tren_row, oren_cells, oren_row, oren_dead, ixs_z, ixs_1, ixs_2, ixs_3, ren_ints, List.map_cons, List.map_nil, he']))
theorem ref12_Tokens (l : List Tk) (bound : Int) (b0 : -9223372036854775808 ≤ bound) (b1 : bound ≤ 100000000) (hl : l.length ≤ 1000000) : Ct Try.prog 20 [slT l, iA bound] [] (fun _ => expA (expT l bound)) [] (fun _ => []) := (ref12_Tokens0 l bound b0 b1 hl).toCt (by intros; simp [ints_nil, ren_lit, ren_ref, ren_any, ren_agg, ren_tup, ren_sl, ren_fn, tren_none, tren_full, tren_row, oren_cells, oren_row, oren_dead, ixs_z, ixs_1, ixs_2, ixs_3, ren_ints, List.map_cons, List.map_nil, ixs, List.range'_succ, ren_ints]) (by intros; simp [ints_nil, ren_lit, ren_ref, ren_any, ren_agg, ren_tup, ren_sl, ren_fn, tren_none, tren_full, tren_row, oren_cells, oren_row, oren_dead, ixs_z, ixs_1, ixs_2, ixs_3, ren_ints, List.map_cons, List.map_nil, ixs, List.range'_succ, ren_ints])
theorem live12_e : expT [⟨[7, 8], 0, 0⟩, ⟨[], 2, 5⟩] 9 = ([7, 8, 7, 8, 7, 8, 7], (0, 0)) := by kernel_rfl
theorem live12_0 : Does Try.prog 18 [] [] (bA true) [] := by
  have e1 : tks [⟨[7, 8], 0, 0⟩, ⟨[], 2, 5⟩] = [.agg [.sl .none 1 [u8A 7, u8A 8], iA 0, iA 0], .agg [.sl .none 1 [], iA 2, iA 5]] := rfl
  have e4 : ints .u8 [7, 8, 7, 8, 7, 8, 7] = [u8A 7, u8A 8, u8A 7, u8A 8, u8A 7, u8A 8, u8A 7] := rfl
  refine Does.run Try.func18 b18 n18 Try.ntmps18 (by simp only [List.cons_append, List.nil_append, List.length_cons, List.length_nil, Nat.zero_add, Nat.reduceAdd, Nat.reduceSub, List.replicate]; rfl) ?_; simp only [c18, go_sem, Nat.reduceAdd, Nat.reduceMul, Int.reduceToNat, Nat.reduceLeDiff, Int.reduceLE, Int.reduceLT, ↓reduceIte, Int.reduceBEq, Int.reduceBNe, Int.reduceAdd, Int.reduceSub, Int.reduceMul, qFin_ret, qFin_normal]; (try ((refine okTr_and ?_ ?_); (· rfl)))
  (repeat ((with_reducible refine And.intro ?_ ?_); (· first | with_reducible assumption | omega | with_reducible rfl | (simp only [List.length_append, List.length_cons, List.length_nil, List.length_singleton]; omega) | (simp [ints_length, okEl_eq, AV.parts]; done) | (simp [ints_length, okEl_eq, AV.parts]; omega) | rfl)))
  refine CallK.pd (expand_Tokens [⟨[7, 8], 0, 0⟩, ⟨[], 2, 5⟩] 9 (by decide) (by decide) (by decide)) (by simp [untD, tks, ints]) ?_
  (simp only [go_sem, Nat.reduceAdd, Nat.reduceMul, Int.reduceToNat, Nat.reduceLeDiff, Int.reduceLE, Int.reduceLT, ↓reduceIte, Int.reduceBEq, Int.reduceBNe, Int.reduceAdd, Int.reduceSub, Int.reduceMul, qFin_ret, qFin_normal, live12_e]; (try ((refine okTr_and ?_ ?_); (· rfl))))
  (repeat ((with_reducible refine And.intro ?_ ?_); (· first | with_reducible assumption | omega | with_reducible rfl | (simp only [List.length_append, List.length_cons, List.length_nil, List.length_singleton]; omega) | (simp [ints_length, okEl_eq, AV.parts]; done) | (simp [ints_length, okEl_eq, AV.parts]; omega) | rfl)))
  refine CallK.p (ref02_Same [7, 8, 7, 8, 7, 8, 7] [7, 8, 7, 8, 7, 8, 7] (by unfold Bys; decide) (by unfold Bys; decide)) ?_; (simp only [go_sem, Nat.reduceAdd, Nat.reduceMul, Int.reduceToNat, Nat.reduceLeDiff, Int.reduceLE, Int.reduceLT, ↓reduceIte, Int.reduceBEq, Int.reduceBNe, Int.reduceAdd, Int.reduceSub, Int.reduceMul, qFin_ret, qFin_normal, same_self]; (try ((refine okTr_and ?_ ?_); (· rfl))))
  ((refine FinK.fin r18 [] ?_ ?_ ?_ ?_ ?_ ?_); (· decide); (· rfl); (· simp); (· rfl); (· first | with_reducible rfl | (simp [ints_nil, ren_lit, ren_ref, ren_any, ren_agg, ren_tup, ren_sl, ren_fn, tren_none, tren_full, tren_row, oren_cells, oren_row, oren_dead, ixs_z, ixs_1, ixs_2, ixs_3, ren_ints, List.map_cons, List.map_nil]; done) | rfl); (· simp [resAL, resA1, loadA, oneOr, ints_nil, ren_lit, ren_ref, ren_any, ren_agg, ren_tup, ren_sl, ren_fn, tren_none, tren_full, tren_row, oren_cells, oren_row, oren_dead, ixs_z, ixs_1, ixs_2, ixs_3, ren_ints, List.map_cons, List.map_nil]))
theorem live12 : Ct Try.prog 18 [] [] (fun _ => bA true) [] (fun _ => []) := (live12_0).toCt (by intros; simp [ints_nil, ren_lit, ren_ref, ren_any, ren_agg, ren_tup, ren_sl, ren_fn, tren_none, tren_full, tren_row, oren_cells, oren_row, oren_dead, ixs_z, ixs_1, ixs_2, ixs_3, ren_ints, List.map_cons, List.map_nil, ixs, List.range'_succ, ren_ints]) (by intros; simp [ints_nil, ren_lit, ren_ref, ren_any, ren_agg, ren_tup, ren_sl, ren_fn, tren_none, tren_full, tren_row, oren_cells, oren_row, oren_dead, ixs_z, ixs_1, ixs_2, ixs_3, ren_ints, List.map_cons, List.map_nil, ixs, List.range'_succ, ren_ints])
end Go.Proofs.Ytpjkmidjjodplaa
