/-
  Contract of entry.Deal.
-/
import Derived.Test.YtkhnfleejgfhgaaK54
import Derived.Test.YtkhnfleejgfhgaaA4
set_option linter.all false
set_option linter.unusedSimpArgs false
set_option linter.unusedVariables false
set_option linter.unnecessarySimpa false
namespace Go.Proofs.Ytkhnfleejgfhgaa
open Go.RowKit

theorem ens_snoc (l : List En) (e : En) : ens (l ++ [e]) = ens l ++ [enA e] := by simp [ens]
set_option maxHeartbeats 2000000 in
set_option maxRecDepth 100000 in
theorem entry_Deal0 (hs : List En) (ns d : List Int) (hl : hs.length ≤ 1000000) (hd : d.length ≤ 100000000) (hm : ∀ e ∈ hs, e.lk.length ≤ 1000000 ∧ ∀ x ∈ e.lk, x.bk.length ≤ 1000000) (hns : ∀ n ∈ ns, n < 9223372036854775808) : Does Try.prog 22 [slE hs, slA .i64 ns, slA .u8 d] [] (.tup [slE (dealE hs ns d).1, bA (dealE hs ns d).2]) [] := by
  by_cases hh : hs.length = ns.length
  · have q : ((ns.length : Int) != (hs.length : Int)) = false := by rw [hh]; simp
    have e0 : dealE hs ns d = dealGo hs ns d [] := by unfold dealE; rw [if_pos hh]
    refine Does.run Try.func22 b22 n22 Try.ntmps22 (by simp only [List.cons_append, List.nil_append, List.length_cons, List.length_nil, Nat.zero_add, Nat.reduceAdd, Nat.reduceSub, List.replicate]; rfl) ?_; simp only [c22, go_sem, Nat.reduceAdd, Nat.reduceMul, Int.reduceToNat, Nat.reduceLeDiff, Int.reduceLE, Int.reduceLT, ↓reduceIte, Int.reduceBEq, Int.reduceBNe, Int.reduceAdd, Int.reduceSub, Int.reduceMul, qFin_ret, qFin_normal, ens_length, ints_length]; (try ((refine okTr_and ?_ ?_); (· rfl)))
    (simp only [go_sem, Nat.reduceAdd, Nat.reduceMul, Int.reduceToNat, Nat.reduceLeDiff, Int.reduceLE, Int.reduceLT, ↓reduceIte, Int.reduceBEq, Int.reduceBNe, Int.reduceAdd, Int.reduceSub, Int.reduceMul, qFin_ret, qFin_normal, q, List.nil_append, ints_length, ens_length]; (try ((refine okTr_and ?_ ?_); (· rfl))))
    (repeat ((with_reducible refine And.intro ?_ ?_); (· first | with_reducible assumption | omega | with_reducible rfl | (simp only [List.length_append, List.length_cons, List.length_nil, List.length_singleton]; omega) | (simp [ints_length, okEl_eq, AV.parts]; done) | (simp [ints_length, okEl_eq, AV.parts]; omega) | rfl)))
    refine loop_of (α := Nat × List Int × List En) (fun a => [.any, slA .i64 ns, .any, .any, .any, .any, .any, .any, slA .u8 a.2.1, .sl (.row 0) 2 (ens a.2.2), .any, .any, .any, .any, .any, .any, .any, .any, .any, .any, .any, slE hs, iA hs.length, iA a.1, .any, .any, .any, .any, .any, .any, .any, .any, .any, .any, .any, .any, .any, .any, .any, .any, .any, .any, .any, .any, .any, .any, .any, .any, .any, .any, .any, .any, .any, .any, .any, .any, .any, .any, .any, .any, .any]) (fun a => [.row 2 a.2.2.length]) (fun a => a.1 ≤ hs.length ∧ a.2.2.length = a.1 ∧ a.2.1.length ≤ d.length ∧ dealGo (hs.drop a.1) (ns.drop a.1) a.2.1 a.2.2 = dealE hs ns d) (fun a => hs.length - a.1) (0, d, []) ⟨by simp, rfl, Nat.le_refl _, by rw [e0]; rfl⟩ (((Wk.untag 8 rfl).trans (Wk.row 9 2 rfl (.inr rfl) (by decide))).trans (Wk.sel [1] (by simp) rfl (by simp) rfl (by simp [ints_nil, ren_lit, ren_ref, ren_any, ren_agg, ren_tup, ren_sl, ren_fn, tren_none, tren_full, tren_row, oren_cells, oren_row, oren_dead, ixs_z, ixs_1, ixs_2, ixs_3, ren_ints, List.map_cons, List.map_nil]) (by simp [selT, ints_nil, ren_lit, ren_ref, ren_any, ren_agg, ren_tup, ren_sl, ren_fn, tren_none, tren_full, tren_row, oren_cells, oren_row, oren_dead, ixs_z, ixs_1, ixs_2, ixs_3, ren_ints, List.map_cons, List.map_nil, untag1_sl, ens, ixs, ren_ints, ren_ens]))) ?_
    rintro ⟨k, rest, acc⟩ ⟨hk, hacc, hrl, hgo⟩
    simp only at hk hacc hrl hgo
    (simp only [go_sem, Nat.reduceAdd, Nat.reduceMul, Int.reduceToNat, Nat.reduceLeDiff, Int.reduceLE, Int.reduceLT, ↓reduceIte, Int.reduceBEq, Int.reduceBNe, Int.reduceAdd, Int.reduceSub, Int.reduceMul, qFin_ret, qFin_normal]; (try ((refine okTr_and ?_ ?_); (· rfl))))
    by_cases hlt : k < hs.length
    · have q1 : decide ((k : Int) < (hs.length : Int)) = true := decide_eq_true (by omega)
      have ek := i64_succ k (by omega)
      have g := ens_get hs k hlt
      have g2 : (ints .i64 ns).getD k .any = iA (ns.getD k 0) := ints_getD .i64 ns k (by omega)
      have hmm := hm (hs.getD k en0) (by simp [hlt])
      have d1 : hs.drop k = hs.getD k en0 :: hs.drop (k + 1) := by rw [List.drop_eq_getElem_cons hlt]; simp [hlt]
      have d2 : ns.drop k = ns.getD k 0 :: ns.drop (k + 1) := by
        have h2 : k < ns.length := by omega
        rw [List.drop_eq_getElem_cons h2]; simp [h2]
      rw [d1, d2, dealGo] at hgo
      obtain ⟨n, hn⟩ : ∃ n, ns.getD k 0 = n := ⟨_, rfl⟩
      have hnm : n < 9223372036854775808 := hns n (by rw [← hn]; have h2 : k < ns.length := by omega
                                                      simp [h2])
      obtain ⟨h, hh2⟩ : ∃ h, hs.getD k en0 = h := ⟨_, rfl⟩
      rw [hn] at hgo g2
      rw [hh2] at hgo g hmm
      by_cases c1 : n < 0
      · have q2 : decide (n < 0) = true := decide_eq_true c1
        rw [if_pos (.inl c1)] at hgo
        (simp only [go_sem, Nat.reduceAdd, Nat.reduceMul, Int.reduceToNat, Nat.reduceLeDiff, Int.reduceLE, Int.reduceLT, ↓reduceIte, Int.reduceBEq, Int.reduceBNe, Int.reduceAdd, Int.reduceSub, Int.reduceMul, qFin_ret, qFin_normal, q1, g, ens_length, Int.toNat_natCast, g2, ints_length, q2]; (try ((refine okTr_and ?_ ?_); (· rfl))))
        (repeat ((with_reducible refine And.intro ?_ ?_); (· first | with_reducible assumption | omega | with_reducible rfl | (simp only [List.length_append, List.length_cons, List.length_nil, List.length_singleton]; omega) | (simp [ints_length, okEl_eq, AV.parts]; done) | (simp [ints_length, okEl_eq, AV.parts]; omega) | rfl)))
        (refine FinK.nilk 6 2 rfl ?_; simp only [List.set_cons_zero, List.set_cons_succ])
        ((refine FinK.fin r22 [] ?_ ?_ ?_ ?_ ?_ ?_); (· decide); (· rfl); (· simp); (· rfl); (· first | with_reducible rfl | (simp [ints_nil, ren_lit, ren_ref, ren_any, ren_agg, ren_tup, ren_sl, ren_fn, tren_none, tren_full, tren_row, oren_cells, oren_row, oren_dead, ixs_z, ixs_1, ixs_2, ixs_3, ren_ints, List.map_cons, List.map_nil, ← hgo, ens]; done) | rfl); (· simp [resAL, resA1, loadA, oneOr, ints_nil, ren_lit, ren_ref, ren_any, ren_agg, ren_tup, ren_sl, ren_fn, tren_none, tren_full, tren_row, oren_cells, oren_row, oren_dead, ixs_z, ixs_1, ixs_2, ixs_3, ren_ints, List.map_cons, List.map_nil, ← hgo, ens]))
      · have q2 : decide (n < 0) = false := decide_eq_false c1
        by_cases c2 : (rest.length : Int) < n
        · have q3 : decide ((rest.length : Int) < n) = true := decide_eq_true c2
          rw [if_pos (.inr c2)] at hgo
          (simp only [go_sem, Nat.reduceAdd, Nat.reduceMul, Int.reduceToNat, Nat.reduceLeDiff, Int.reduceLE, Int.reduceLT, ↓reduceIte, Int.reduceBEq, Int.reduceBNe, Int.reduceAdd, Int.reduceSub, Int.reduceMul, qFin_ret, qFin_normal, q1, g, ens_length, Int.toNat_natCast, g2, ints_length, q2, q3]; (try ((refine okTr_and ?_ ?_); (· rfl))))
          (repeat ((with_reducible refine And.intro ?_ ?_); (· first | with_reducible assumption | omega | with_reducible rfl | (simp only [List.length_append, List.length_cons, List.length_nil, List.length_singleton]; omega) | (simp [ints_length, okEl_eq, AV.parts]; done) | (simp [ints_length, okEl_eq, AV.parts]; omega) | rfl)))
          (refine FinK.nilk 6 2 rfl ?_; simp only [List.set_cons_zero, List.set_cons_succ])
          ((refine FinK.fin r22 [] ?_ ?_ ?_ ?_ ?_ ?_); (· decide); (· rfl); (· simp); (· rfl); (· first | with_reducible rfl | (simp [ints_nil, ren_lit, ren_ref, ren_any, ren_agg, ren_tup, ren_sl, ren_fn, tren_none, tren_full, tren_row, oren_cells, oren_row, oren_dead, ixs_z, ixs_1, ixs_2, ixs_3, ren_ints, List.map_cons, List.map_nil, ← hgo, ens]; done) | rfl); (· simp [resAL, resA1, loadA, oneOr, ints_nil, ren_lit, ren_ref, ren_any, ren_agg, ren_tup, ren_sl, ren_fn, tren_none, tren_full, tren_row, oren_cells, oren_row, oren_dead, ixs_z, ixs_1, ixs_2, ixs_3, ren_ints, List.map_cons, List.map_nil, ← hgo, ens]))
        · have q3 : decide ((rest.length : Int) < n) = false := decide_eq_false c2
          rw [if_neg (by omega)] at hgo
          (simp only [go_sem, Nat.reduceAdd, Nat.reduceMul, Int.reduceToNat, Nat.reduceLeDiff, Int.reduceLE, Int.reduceLT, ↓reduceIte, Int.reduceBEq, Int.reduceBNe, Int.reduceAdd, Int.reduceSub, Int.reduceMul, qFin_ret, qFin_normal, q1, g, ens_length, Int.toNat_natCast, g2, ints_length, q2, q3]; (try ((refine okTr_and ?_ ?_); (· rfl))))
          (repeat ((with_reducible refine And.intro ?_ ?_); (· first | with_reducible assumption | omega | with_reducible rfl | (simp only [List.length_append, List.length_cons, List.length_nil, List.length_singleton]; omega) | (simp [ints_length, okEl_eq, AV.parts]; done) | (simp [ints_length, okEl_eq, AV.parts]; omega) | rfl)))
          refine CallK.p (link_Copy h.lk hmm.1 hmm.2) ?_; (simp only [go_sem, Nat.reduceAdd, Nat.reduceMul, Int.reduceToNat, Nat.reduceLeDiff, Int.reduceLE, Int.reduceLT, ↓reduceIte, Int.reduceBEq, Int.reduceBNe, Int.reduceAdd, Int.reduceSub, Int.reduceMul, qFin_ret, qFin_normal, sli_hm, ints_length, ints_take, ints_drop, ens_length, ek]; (try ((refine okTr_and ?_ ?_); (· rfl))))
          (repeat ((with_reducible refine And.intro ?_ ?_); (· first | with_reducible assumption | omega | with_reducible rfl | (simp only [List.length_append, List.length_cons, List.length_nil, List.length_singleton]; omega) | (simp [ints_length, okEl_eq, AV.parts]; done) | (simp [ints_length, okEl_eq, AV.parts]; omega) | rfl)))
          exact ⟨(k + 1, rest.drop n.toNat, acc ++ [⟨h.lk, rest.take n.toNat⟩]), ⟨hlt, by simp [hacc], by simp only [List.length_drop]; omega, hgo⟩, by simp only; omega, (Wk.wa 9 (y := .sl (.row 0) 2 (ens (acc ++ [⟨h.lk, rest.take n.toNat⟩]))) rfl (by rw [ens_snoc]; exact Wa.slS (WaL.app (WaL.refl _) (by repeat (first | exact Wa.refl _ | exact WaL.nil | exact Wa.nil | exact Wa.none | refine WaL.cons ?_ ?_ | refine Wa.agg ?_ | refine Wa.slN ?_ | refine Wa.slS ?_ | exact WaL.refl _))))).trans (Wk.sel [0] (by simp) rfl (by simp) rfl (by simp [ints_nil, ren_lit, ren_ref, ren_any, ren_agg, ren_tup, ren_sl, ren_fn, tren_none, tren_full, tren_row, oren_cells, oren_row, oren_dead, ixs_z, ixs_1, ixs_2, ixs_3, ren_ints, List.map_cons, List.map_nil]) (by simp [selT, ints_nil, ren_lit, ren_ref, ren_any, ren_agg, ren_tup, ren_sl, ren_fn, tren_none, tren_full, tren_row, oren_cells, oren_row, oren_dead, ixs_z, ixs_1, ixs_2, ixs_3, ren_ints, List.map_cons, List.map_nil, ixs, ren_ints, ren_ens]))⟩
    · have q1 : decide ((k : Int) < (hs.length : Int)) = false := decide_eq_false (by omega)
      have d1 : hs.drop k = [] := List.drop_eq_nil_of_le (by omega)
      rw [d1] at hgo
      simp only [dealGo] at hgo
      by_cases c3 : rest.length = 0
      · have q4 : decide ((0 : Int) < (rest.length : Int)) = false := decide_eq_false (by omega)
        rw [if_pos c3] at hgo
        (simp only [go_sem, Nat.reduceAdd, Nat.reduceMul, Int.reduceToNat, Nat.reduceLeDiff, Int.reduceLE, Int.reduceLT, ↓reduceIte, Int.reduceBEq, Int.reduceBNe, Int.reduceAdd, Int.reduceSub, Int.reduceMul, qFin_ret, qFin_normal, q1, ints_length, q4]; (try ((refine okTr_and ?_ ?_); (· rfl))))
        (refine FinK.untag 6 rfl ?_; simp only [untag1_sl, List.set_cons_zero, List.set_cons_succ])
        ((refine FinK.fin r22 [] ?_ ?_ ?_ ?_ ?_ ?_); (· decide); (· rfl); (· simp); (· rfl); (· first | with_reducible rfl | (simp [ints_nil, ren_lit, ren_ref, ren_any, ren_agg, ren_tup, ren_sl, ren_fn, tren_none, tren_full, tren_row, oren_cells, oren_row, oren_dead, ixs_z, ixs_1, ixs_2, ixs_3, ren_ints, List.map_cons, List.map_nil, ← hgo]; done) | rfl); (· simp [resAL, resA1, loadA, oneOr, ints_nil, ren_lit, ren_ref, ren_any, ren_agg, ren_tup, ren_sl, ren_fn, tren_none, tren_full, tren_row, oren_cells, oren_row, oren_dead, ixs_z, ixs_1, ixs_2, ixs_3, ren_ints, List.map_cons, List.map_nil, ← hgo]))
      · have q4 : decide ((0 : Int) < (rest.length : Int)) = true := decide_eq_true (by omega)
        rw [if_neg c3] at hgo
        (simp only [go_sem, Nat.reduceAdd, Nat.reduceMul, Int.reduceToNat, Nat.reduceLeDiff, Int.reduceLE, Int.reduceLT, ↓reduceIte, Int.reduceBEq, Int.reduceBNe, Int.reduceAdd, Int.reduceSub, Int.reduceMul, qFin_ret, qFin_normal, q1, ints_length, q4]; (try ((refine okTr_and ?_ ?_); (· rfl))))
        (refine FinK.nilk 6 2 rfl ?_; simp only [List.set_cons_zero, List.set_cons_succ])
        ((refine FinK.fin r22 [] ?_ ?_ ?_ ?_ ?_ ?_); (· decide); (· rfl); (· simp); (· rfl); (· first | with_reducible rfl | (simp [ints_nil, ren_lit, ren_ref, ren_any, ren_agg, ren_tup, ren_sl, ren_fn, tren_none, tren_full, tren_row, oren_cells, oren_row, oren_dead, ixs_z, ixs_1, ixs_2, ixs_3, ren_ints, List.map_cons, List.map_nil, ← hgo, ens]; done) | rfl); (· simp [resAL, resA1, loadA, oneOr, ints_nil, ren_lit, ren_ref, ren_any, ren_agg, ren_tup, ren_sl, ren_fn, tren_none, tren_full, tren_row, oren_cells, oren_row, oren_dead, ixs_z, ixs_1, ixs_2, ixs_3, ren_ints, List.map_cons, List.map_nil, ← hgo, ens]))
  · have q : ((ns.length : Int) != (hs.length : Int)) = true := by simp; omega
    have e : dealE hs ns d = ([], false) := by unfold dealE; rw [if_neg hh]
    refine Does.run Try.func22 b22 n22 Try.ntmps22 (by simp only [List.cons_append, List.nil_append, List.length_cons, List.length_nil, Nat.zero_add, Nat.reduceAdd, Nat.reduceSub, List.replicate]; rfl) ?_; simp only [c22, go_sem, Nat.reduceAdd, Nat.reduceMul, Int.reduceToNat, Nat.reduceLeDiff, Int.reduceLE, Int.reduceLT, ↓reduceIte, Int.reduceBEq, Int.reduceBNe, Int.reduceAdd, Int.reduceSub, Int.reduceMul, qFin_ret, qFin_normal, ens_length, ints_length]; (try ((refine okTr_and ?_ ?_); (· rfl)))
    (simp only [go_sem, Nat.reduceAdd, Nat.reduceMul, Int.reduceToNat, Nat.reduceLeDiff, Int.reduceLE, Int.reduceLT, ↓reduceIte, Int.reduceBEq, Int.reduceBNe, Int.reduceAdd, Int.reduceSub, Int.reduceMul, qFin_ret, qFin_normal, q]; (try ((refine okTr_and ?_ ?_); (· rfl))))
    (refine FinK.nilk 6 2 rfl ?_; simp only [List.set_cons_zero, List.set_cons_succ])
    ((refine FinK.fin r22 [] ?_ ?_ ?_ ?_ ?_ ?_); (· decide); (· rfl); (· simp); (· rfl); (· first | with_reducible rfl | (simp [ints_nil, ren_lit, ren_ref, ren_any, ren_agg, ren_tup, ren_sl, ren_fn, tren_none, tren_full, tren_row, oren_cells, oren_row, oren_dead, ixs_z, ixs_1, ixs_2, ixs_3, ren_ints, List.map_cons, List.map_nil, e, ens]; done) | rfl); (· simp [resAL, resA1, loadA, oneOr, ints_nil, ren_lit, ren_ref, ren_any, ren_agg, ren_tup, ren_sl, ren_fn, tren_none, tren_full, tren_row, oren_cells, oren_row, oren_dead, ixs_z, ixs_1, ixs_2, ixs_3, ren_ints, List.map_cons, List.map_nil, e, ens]))
theorem entry_Deal (hs : List En) (ns d : List Int) (hl : hs.length ≤ 1000000) (hd : d.length ≤ 100000000) (hm : ∀ e ∈ hs, e.lk.length ≤ 1000000 ∧ ∀ x ∈ e.lk, x.bk.length ≤ 1000000) (hns : ∀ n ∈ ns, n < 9223372036854775808) : Ct Try.prog 22 [slE hs, slA .i64 ns, slA .u8 d] [] (fun _ => .tup [slE (dealE hs ns d).1, bA (dealE hs ns d).2]) [] (fun _ => []) := (entry_Deal0 hs ns d hl hd hm hns).toCt (by intros; simp [ints_nil, ren_lit, ren_ref, ren_any, ren_agg, ren_tup, ren_sl, ren_fn, tren_none, tren_full, tren_row, oren_cells, oren_row, oren_dead, ixs_z, ixs_1, ixs_2, ixs_3, ren_ints, List.map_cons, List.map_nil, ixs, List.range'_succ, ren_ints]) (by intros; simp [ints_nil, ren_lit, ren_ref, ren_any, ren_agg, ren_tup, ren_sl, ren_fn, tren_none, tren_full, tren_row, oren_cells, oren_row, oren_dead, ixs_z, ixs_1, ixs_2, ixs_3, ren_ints, List.map_cons, List.map_nil, ixs, List.range'_succ, ren_ints])
end Go.Proofs.Ytkhnfleejgfhgaa
