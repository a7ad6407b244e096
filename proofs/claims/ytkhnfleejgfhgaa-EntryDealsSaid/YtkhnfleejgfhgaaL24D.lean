/-
  Chapter 24: EntryDeals.
-/
import Derived.Test.YtkhnfleejgfhgaaK55
import Derived.Test.YtkhnfleejgfhgaaP25
set_option linter.all false
set_option linter.unusedSimpArgs false
set_option linter.unusedVariables false
set_option linter.unnecessarySimpa false
namespace Go.Proofs.Ytkhnfleejgfhgaa
open Go.RowKit

def sizesE (l : List En) : List Int := l.map fun e => (e.data.length : Int)
theorem sizesE_take (l : List En) (k : Nat) (h : k < l.length) : sizesE (l.take k) ++ [((l.getD k en0).data.length : Int)] = sizesE (l.take (k + 1)) := by
  have e : l.take (k + 1) = l.take k ++ [l.getD k en0] := by rw [List.take_add_one]; simp [h]
  rw [e]; simp [sizesE]
theorem joinE_len : ∀ (l : List En), (∀ e ∈ l, e.data.length ≤ 500) → (joinE l).length ≤ 500 * l.length := by
  intro l
  induction l with
  | nil => intro _; simp [joinE]
  | cons e l ih =>
    intro h
    have h1 := h e (List.mem_cons_self ..)
    have h2 := ih fun x hx => h x (List.mem_cons_of_mem _ hx)
    have ej : joinE (e :: l) = e.data ++ joinE l := by simp [joinE]
    rw [ej, List.length_append, List.length_cons]; omega
theorem joinE_bys {l : List En} (h : Ens l) : Bys (joinE l) := by
  intro x hx
  unfold joinE at hx
  obtain ⟨e, he, hx⟩ := List.mem_flatMap.1 hx
  exact (h e he).data x hx
set_option maxHeartbeats 4000000 in
set_option maxRecDepth 100000 in
theorem law_EntryDeals (hs : List En) (ns d : List Int) (hh : Ens hs) (hns : ∀ n ∈ ns, -9223372036854775808 ≤ n ∧ n < 9223372036854775808) (hd : Bys d) : Does Try.prog 3 [slE hs, slA .i64 ns, slA .u8 d] [] (bA true) [] := by
  refine Does.run Try.func3 b3 n3 Try.ntmps3 (by simp only [List.cons_append, List.nil_append, List.length_cons, List.length_nil, Nat.zero_add, Nat.reduceAdd, Nat.reduceSub, List.replicate]; rfl) ?_; simp only [c3, go_sem, Nat.reduceAdd, Nat.reduceMul, Int.reduceToNat, Nat.reduceLeDiff, Int.reduceLE, Int.reduceLT, ↓reduceIte, Int.reduceBEq, Int.reduceBNe, Int.reduceAdd, Int.reduceSub, Int.reduceMul, qFin_ret, qFin_normal]; (try ((refine okTr_and ?_ ?_); (· rfl)))
  refine CallK.p (law24_Many hs) ?_
  by_cases hM : manyE hs = false
  · obtain ⟨m1, m2⟩ := manyE_no hM
    have m3 : ∀ e ∈ hs, smallE e ∧ e.data.length ≤ 500 := fun e he => longE_no (m2 e he)
    have m4 : ∀ e ∈ hs, e.lk.length ≤ 1000000 ∧ ∀ x ∈ e.lk, x.bk.length ≤ 1000000 := fun e he => by
      have := (m3 e he).1.1
      exact ⟨by have := this.1; omega, fun x hx => by have := this.2 x hx; omega⟩
    have jl := joinE_len hs fun e he => (m3 e he).2
    by_cases h5 : 50 < (ns.length : Int)
    · have q1 : decide (50 < (ns.length : Int)) = true := decide_eq_true h5
      (simp only [go_sem, Nat.reduceAdd, Nat.reduceMul, Int.reduceToNat, Nat.reduceLeDiff, Int.reduceLE, Int.reduceLT, ↓reduceIte, Int.reduceBEq, Int.reduceBNe, Int.reduceAdd, Int.reduceSub, Int.reduceMul, qFin_ret, qFin_normal, hM, ints_length, q1]; (try ((refine okTr_and ?_ ?_); (· rfl))))
      refine CallK.p (live24) ?_; (simp only [go_sem, Nat.reduceAdd, Nat.reduceMul, Int.reduceToNat, Nat.reduceLeDiff, Int.reduceLE, Int.reduceLT, ↓reduceIte, Int.reduceBEq, Int.reduceBNe, Int.reduceAdd, Int.reduceSub, Int.reduceMul, qFin_ret, qFin_normal]; (try ((refine okTr_and ?_ ?_); (· rfl))))
      ((refine FinK.fin r3 [] ?_ ?_ ?_ ?_ ?_ ?_); (· decide); (· rfl); (· simp); (· rfl); (· first | with_reducible rfl | (simp [ints_nil, ren_lit, ren_ref, ren_any, ren_agg, ren_tup, ren_sl, ren_fn, tren_none, tren_full, tren_row, oren_cells, oren_row, oren_dead, ixs_z, ixs_1, ixs_2, ixs_3, ren_ints, List.map_cons, List.map_nil]; done) | rfl); (· simp [resAL, resA1, loadA, oneOr, ints_nil, ren_lit, ren_ref, ren_any, ren_agg, ren_tup, ren_sl, ren_fn, tren_none, tren_full, tren_row, oren_cells, oren_row, oren_dead, ixs_z, ixs_1, ixs_2, ixs_3, ren_ints, List.map_cons, List.map_nil]))
    · have q1 : decide (50 < (ns.length : Int)) = false := decide_eq_false h5
      by_cases h6 : 500 < (d.length : Int)
      · have q2 : decide (500 < (d.length : Int)) = true := decide_eq_true h6
        (simp only [go_sem, Nat.reduceAdd, Nat.reduceMul, Int.reduceToNat, Nat.reduceLeDiff, Int.reduceLE, Int.reduceLT, ↓reduceIte, Int.reduceBEq, Int.reduceBNe, Int.reduceAdd, Int.reduceSub, Int.reduceMul, qFin_ret, qFin_normal, hM, ints_length, q1, q2]; (try ((refine okTr_and ?_ ?_); (· rfl))))
        refine CallK.p (live24) ?_; (simp only [go_sem, Nat.reduceAdd, Nat.reduceMul, Int.reduceToNat, Nat.reduceLeDiff, Int.reduceLE, Int.reduceLT, ↓reduceIte, Int.reduceBEq, Int.reduceBNe, Int.reduceAdd, Int.reduceSub, Int.reduceMul, qFin_ret, qFin_normal]; (try ((refine okTr_and ?_ ?_); (· rfl))))
        ((refine FinK.fin r3 [] ?_ ?_ ?_ ?_ ?_ ?_); (· decide); (· rfl); (· simp); (· rfl); (· first | with_reducible rfl | (simp [ints_nil, ren_lit, ren_ref, ren_any, ren_agg, ren_tup, ren_sl, ren_fn, tren_none, tren_full, tren_row, oren_cells, oren_row, oren_dead, ixs_z, ixs_1, ixs_2, ixs_3, ren_ints, List.map_cons, List.map_nil]; done) | rfl); (· simp [resAL, resA1, loadA, oneOr, ints_nil, ren_lit, ren_ref, ren_any, ren_agg, ren_tup, ren_sl, ren_fn, tren_none, tren_full, tren_row, oren_cells, oren_row, oren_dead, ixs_z, ixs_1, ixs_2, ixs_3, ren_ints, List.map_cons, List.map_nil]))
      · have q2 : decide (500 < (d.length : Int)) = false := decide_eq_false h6
        (simp only [go_sem, Nat.reduceAdd, Nat.reduceMul, Int.reduceToNat, Nat.reduceLeDiff, Int.reduceLE, Int.reduceLT, ↓reduceIte, Int.reduceBEq, Int.reduceBNe, Int.reduceAdd, Int.reduceSub, Int.reduceMul, qFin_ret, qFin_normal, hM, ints_length, q1, q2]; (try ((refine okTr_and ?_ ?_); (· rfl))))
        have hjb := joinE_bys hh
        have hdj : dealE hs (sizesE hs) (joinE hs) = (hs, true) := by
          unfold dealE; rw [if_pos (by simp [sizesE])]
          have := deal_join hs []
          rw [List.nil_append] at this; exact this
        have hns2 : ∀ n ∈ ns, n < 9223372036854775808 := fun n hn => (hns n hn).2
        have hsz : ∀ n ∈ sizesE hs, n < 9223372036854775808 := fun n hn => by
          unfold sizesE at hn
          obtain ⟨e, he, rfl⟩ := List.mem_map.1 hn
          have := (m3 e he).2
          omega
        obtain ⟨R, hR⟩ : ∃ R, dealE hs ns d = R := ⟨_, rfl⟩
        refine loop_of (α := Nat) (fun k => [slE hs, slA .i64 ns, slA .u8 d, .any, .any, .any, .any, .sl (.row 0) 1 (ints .i64 (sizesE (hs.take k))), iA k, .any, .any, .any, .any, .any, .any, .any, .any, .any, .any, .any, .any, .any, .any, .any, .any, .any, .any, .any, .any, .any, .any, .any, .any, .any, .any, .any, .any, .any, .any, .any, .any, .any, .any, .any, .any, .any, .any, .any, .any, .any, .any, .any, .any, .any, .any, .any, .any, .any, .any, .any, .any, .any, .any, .any, .any, .any, .any, .any, .any, .any, .any, .any, .any, .any, .any, .any, .any, .any, .any, .any, .any, .any, .any, .any, .any, .any, .any, .any, .any, .any, .any, .any, .any, .any, .any, .any, .any, .any, .any, .any, .any, .any, .any, .any, .any, .any, .any, .any, .any, .any, .any, .any, .any, .any, .any, .any, .any, .any, .any, .any, .any, .any, .any, .any, .any, .any, .any, .any, .any, .any, .any, .any, .any, .any, .any, .any, .any, .any, .any, .any, .any, .any, .any, .any, .any, .any, .any, .any, .any, .any, .any, .any, .any, .any, .any, .any, .any, .any, .any, .any, .any, .any, .any, .any, .any, .any, .any, .any, .any, .any, .any, .any, .any, .any, .any, .any, .any, .any, .any, .any, .any, .any, .any, .any]) (fun k => [.row 1 k]) (fun k => k ≤ hs.length) (fun k => hs.length - k) 0 (by simp) ((Wk.row 7 1 rfl (.inr rfl) (by decide)).trans (Wk.to (by simp) (by simp [leT, sizesE, ints]))) ?_
        intro k hk
        (simp only [go_sem, Nat.reduceAdd, Nat.reduceMul, Int.reduceToNat, Nat.reduceLeDiff, Int.reduceLE, Int.reduceLT, ↓reduceIte, Int.reduceBEq, Int.reduceBNe, Int.reduceAdd, Int.reduceSub, Int.reduceMul, qFin_ret, qFin_normal, ens_length]; (try ((refine okTr_and ?_ ?_); (· rfl))))
        by_cases hlt : k < hs.length
        · have p1 : decide ((k : Int) < (hs.length : Int)) = true := decide_eq_true (by omega)
          have ek := i64_succ k (by omega)
          have g := ens_get hs k hlt
          have st := sizesE_take hs k hlt
          have sl : (sizesE (hs.take k)).length = k := by simp [sizesE]; omega
          (simp only [go_sem, Nat.reduceAdd, Nat.reduceMul, Int.reduceToNat, Nat.reduceLeDiff, Int.reduceLE, Int.reduceLT, ↓reduceIte, Int.reduceBEq, Int.reduceBNe, Int.reduceAdd, Int.reduceSub, Int.reduceMul, qFin_ret, qFin_normal, p1, g, ens_length, Int.toNat_natCast, ints_length, sl, ints_snoc, st, ek]; (try ((refine okTr_and ?_ ?_); (· rfl))))
          (repeat ((with_reducible refine And.intro ?_ ?_); (· first | with_reducible assumption | omega | with_reducible rfl | (simp only [List.length_append, List.length_cons, List.length_nil, List.length_singleton]; omega) | (simp [ints_length, okEl_eq, AV.parts]; done) | (simp [ints_length, okEl_eq, AV.parts]; omega) | rfl)))
          exact ⟨k + 1, hlt, by omega, Wk.to (by simp) (by simp [leT])⟩
        · have p1 : decide ((k : Int) < (hs.length : Int)) = false := decide_eq_false (by omega)
          have e : hs.take k = hs := List.take_of_length_le (by omega)
          (simp only [go_sem, Nat.reduceAdd, Nat.reduceMul, Int.reduceToNat, Nat.reduceLeDiff, Int.reduceLE, Int.reduceLT, ↓reduceIte, Int.reduceBEq, Int.reduceBNe, Int.reduceAdd, Int.reduceSub, Int.reduceMul, qFin_ret, qFin_normal, p1, e]; (try ((refine okTr_and ?_ ?_); (· rfl))))
          refine CallK.n (entry_Join hs (by omega) (by omega)) ?_; (simp only [go_sem, Nat.reduceAdd, Nat.reduceMul, Int.reduceToNat, Nat.reduceLeDiff, Int.reduceLE, Int.reduceLT, ↓reduceIte, Int.reduceBEq, Int.reduceBNe, Int.reduceAdd, Int.reduceSub, Int.reduceMul, qFin_ret, qFin_normal]; (try ((refine okTr_and ?_ ?_); (· rfl))))
          refine CallK.p (entry_Deal hs (sizesE hs) (joinE hs) (by omega) (by omega) m4 hsz) ?_; (simp only [go_sem, Nat.reduceAdd, Nat.reduceMul, Int.reduceToNat, Nat.reduceLeDiff, Int.reduceLE, Int.reduceLT, ↓reduceIte, Int.reduceBEq, Int.reduceBNe, Int.reduceAdd, Int.reduceSub, Int.reduceMul, qFin_ret, qFin_normal, hdj]; (try ((refine okTr_and ?_ ?_); (· rfl))))
          refine CallK.n (ref24_Join hs (by omega) (by omega)) ?_; (simp only [go_sem, Nat.reduceAdd, Nat.reduceMul, Int.reduceToNat, Nat.reduceLeDiff, Int.reduceLE, Int.reduceLT, ↓reduceIte, Int.reduceBEq, Int.reduceBNe, Int.reduceAdd, Int.reduceSub, Int.reduceMul, qFin_ret, qFin_normal]; (try ((refine okTr_and ?_ ?_); (· rfl))))
          refine CallK.p (ref02_Same (joinE hs) (joinE hs) hjb hjb) ?_; (simp only [go_sem, Nat.reduceAdd, Nat.reduceMul, Int.reduceToNat, Nat.reduceLeDiff, Int.reduceLE, Int.reduceLT, ↓reduceIte, Int.reduceBEq, Int.reduceBNe, Int.reduceAdd, Int.reduceSub, Int.reduceMul, qFin_ret, qFin_normal, same_self, Bool.not_true]; (try ((refine okTr_and ?_ ?_); (· rfl))))
          refine CallK.p (entry_Total hs (by omega) (by omega)) ?_; (simp only [go_sem, Nat.reduceAdd, Nat.reduceMul, Int.reduceToNat, Nat.reduceLeDiff, Int.reduceLE, Int.reduceLT, ↓reduceIte, Int.reduceBEq, Int.reduceBNe, Int.reduceAdd, Int.reduceSub, Int.reduceMul, qFin_ret, qFin_normal, ints_length, bne_self_eq_false]; (try ((refine okTr_and ?_ ?_); (· rfl))))
          refine CallK.p (ref24_All hs hs (by omega) (fun e he => (m3 e he).1.1) hh hh) ?_; (simp only [go_sem, Nat.reduceAdd, Nat.reduceMul, Int.reduceToNat, Nat.reduceLeDiff, Int.reduceLE, Int.reduceLT, ↓reduceIte, Int.reduceBEq, Int.reduceBNe, Int.reduceAdd, Int.reduceSub, Int.reduceMul, qFin_ret, qFin_normal, allE_self, Bool.not_true]; (try ((refine okTr_and ?_ ?_); (· rfl))))
          refine CallK.p (entry_Deal hs ns d (by omega) (by omega) m4 hns2) ?_; (simp only [go_sem, Nat.reduceAdd, Nat.reduceMul, Int.reduceToNat, Nat.reduceLeDiff, Int.reduceLE, Int.reduceLT, ↓reduceIte, Int.reduceBEq, Int.reduceBNe, Int.reduceAdd, Int.reduceSub, Int.reduceMul, qFin_ret, qFin_normal, hR, ints_length, ens_length]; (try ((refine okTr_and ?_ ?_); (· rfl))))
          refine loop_of (α := Nat × Bool × Int) (fun a => [slE hs, slA .i64 ns, slA .u8 d, .any, .any, .any, .any, .any, .any, .any, .any, .any, slE R.1, bA R.2, bA a.2.1, iA a.2.2, iA a.1, .any, .any, .any, .any, .any, .any, .any, .any, .any, .any, .any, .any, .any, .any, .any, .any, .any, .any, .any, .any, .any, .any, .any, .any, .any, .any, .any, .any, .any, .any, .any, .any, .any, .any, .any, .any, .any, .any, .any, .any, .any, .any, .any, .any, .any, .any, .any, .any, .any, .any, .any, .any, .any, .any, .any, .any, .any, .any, .any, .any, .any, .any, .any, .any, .any, .any, .any, .any, .any, .any, .any, .any, .any, .any, .any, .any, .any, .any, .any, .any, .any, .any, .any, .any, .any, .any, .any, .any, .any, .any, .any, .any, .any, .any, .any, .any, .any, .any, .any, .any, .any, .any, .any, .any, .any, .any, .any, .any, .any, .any, .any, .any, .any, .any, .any, .any, .any, .any, .any, .any, .any, .any, .any, .any, .any, .any, .any, .any, .any, .any, .any, .any, .any, .any, .any, .any, .any, .any, .any, .any, .any, .any, .any, .any, .any, .any, .any, .any, .any, .any, .any, .any, .any, .any, .any, .any, .any, .any, .any, .any, .any, .any, .any, .any, .any, .any, .any]) (fun _ => []) (fun a => a.1 ≤ ns.length ∧ (a.2.1 = true → ∃ acc, Dl hs ns d a.1 a.2.2 acc) ∧ (a.2.1 = false → R = ([], false))) (fun a => ns.length - a.1) (0, ((ns.length : Int) == (hs.length : Int)), 0) ⟨by simp, fun h => ⟨[], Dl.start d (by simp at h; omega)⟩, fun h => by rw [← hR]; unfold dealE; rw [if_neg (by simp at h; omega)]⟩ (Wk.sel [] (by simp) rfl (by simp) rfl (by simp) (by simp [selT, ints_nil, ren_lit, ren_ref, ren_any, ren_agg, ren_tup, ren_sl, ren_fn, tren_none, tren_full, tren_row, oren_cells, oren_row, oren_dead, ixs_z, ixs_1, ixs_2, ixs_3, ren_ints, List.map_cons, List.map_nil, ren_ints, ren_ens])) ?_
          rintro ⟨i, ok, sum⟩ ⟨hi, hT, hF⟩
          simp only at hi hT hF
          (simp only [go_sem, Nat.reduceAdd, Nat.reduceMul, Int.reduceToNat, Nat.reduceLeDiff, Int.reduceLE, Int.reduceLT, ↓reduceIte, Int.reduceBEq, Int.reduceBNe, Int.reduceAdd, Int.reduceSub, Int.reduceMul, qFin_ret, qFin_normal, ints_length]; (try ((refine okTr_and ?_ ?_); (· rfl))))
          cases ok with
          | false =>
            have hRf := hF rfl
            have r1 : R.1 = [] := by rw [hRf]
            have r2 : R.2 = false := by rw [hRf]
            by_cases hlt2 : i < ns.length
            · have p2 : decide ((i : Int) < (ns.length : Int)) = true := decide_eq_true (by omega)
              (simp only [go_sem, Nat.reduceAdd, Nat.reduceMul, Int.reduceToNat, Nat.reduceLeDiff, Int.reduceLE, Int.reduceLT, ↓reduceIte, Int.reduceBEq, Int.reduceBNe, Int.reduceAdd, Int.reduceSub, Int.reduceMul, qFin_ret, qFin_normal, p2, r1, r2, ens_length, List.length_nil]; (try ((refine okTr_and ?_ ?_); (· rfl))))
              refine CallK.p (live24) ?_; (simp only [go_sem, Nat.reduceAdd, Nat.reduceMul, Int.reduceToNat, Nat.reduceLeDiff, Int.reduceLE, Int.reduceLT, ↓reduceIte, Int.reduceBEq, Int.reduceBNe, Int.reduceAdd, Int.reduceSub, Int.reduceMul, qFin_ret, qFin_normal]; (try ((refine okTr_and ?_ ?_); (· rfl))))
              ((refine FinK.fin r3 [] ?_ ?_ ?_ ?_ ?_ ?_); (· decide); (· rfl); (· simp); (· rfl); (· first | with_reducible rfl | (simp [ints_nil, ren_lit, ren_ref, ren_any, ren_agg, ren_tup, ren_sl, ren_fn, tren_none, tren_full, tren_row, oren_cells, oren_row, oren_dead, ixs_z, ixs_1, ixs_2, ixs_3, ren_ints, List.map_cons, List.map_nil]; done) | rfl); (· simp [resAL, resA1, loadA, oneOr, ints_nil, ren_lit, ren_ref, ren_any, ren_agg, ren_tup, ren_sl, ren_fn, tren_none, tren_full, tren_row, oren_cells, oren_row, oren_dead, ixs_z, ixs_1, ixs_2, ixs_3, ren_ints, List.map_cons, List.map_nil]))
            · have p2 : decide ((i : Int) < (ns.length : Int)) = false := decide_eq_false (by omega)
              (simp only [go_sem, Nat.reduceAdd, Nat.reduceMul, Int.reduceToNat, Nat.reduceLeDiff, Int.reduceLE, Int.reduceLT, ↓reduceIte, Int.reduceBEq, Int.reduceBNe, Int.reduceAdd, Int.reduceSub, Int.reduceMul, qFin_ret, qFin_normal, p2, r1, r2, ens_length, List.length_nil]; (try ((refine okTr_and ?_ ?_); (· rfl))))
              refine CallK.p (live24) ?_; (simp only [go_sem, Nat.reduceAdd, Nat.reduceMul, Int.reduceToNat, Nat.reduceLeDiff, Int.reduceLE, Int.reduceLT, ↓reduceIte, Int.reduceBEq, Int.reduceBNe, Int.reduceAdd, Int.reduceSub, Int.reduceMul, qFin_ret, qFin_normal]; (try ((refine okTr_and ?_ ?_); (· rfl))))
              ((refine FinK.fin r3 [] ?_ ?_ ?_ ?_ ?_ ?_); (· decide); (· rfl); (· simp); (· rfl); (· first | with_reducible rfl | (simp [ints_nil, ren_lit, ren_ref, ren_any, ren_agg, ren_tup, ren_sl, ren_fn, tren_none, tren_full, tren_row, oren_cells, oren_row, oren_dead, ixs_z, ixs_1, ixs_2, ixs_3, ren_ints, List.map_cons, List.map_nil]; done) | rfl); (· simp [resAL, resA1, loadA, oneOr, ints_nil, ren_lit, ren_ref, ren_any, ren_agg, ren_tup, ren_sl, ren_fn, tren_none, tren_full, tren_row, oren_cells, oren_row, oren_dead, ixs_z, ixs_1, ixs_2, ixs_3, ren_ints, List.map_cons, List.map_nil]))
          | true =>
            have hD := (hT rfl).choose_spec
            have z0 := hD.s0
            have z1 := hD.s1
            by_cases hlt2 : i < ns.length
            · have p2 : decide ((i : Int) < (ns.length : Int)) = true := decide_eq_true (by omega)
              have ei := i64_succ i (by omega)
              have gn : (ints .i64 ns).getD i .any = iA (ns.getD i 0) := ints_getD .i64 ns i hlt2
              have w1 : IntKind.i64.wrap ((d.length : Int) - sum) = (d.length : Int) - sum := IntWalk.i64_in _ (by omega)
              by_cases c0 : 0 ≤ ns.getD i 0
              · have q0 : decide (0 ≤ ns.getD i 0) = true := decide_eq_true c0
                have emx : (if 0 > ns.getD i 0 then 0 else ns.getD i 0) = ns.getD i 0 := if_neg (by omega)
                by_cases c1 : ns.getD i 0 ≤ (d.length : Int) - sum
                · have q3 : decide (ns.getD i 0 ≤ (d.length : Int) - sum) = true := decide_eq_true c1
                  have w2 : IntKind.i64.wrap (sum + ns.getD i 0) = sum + ns.getD i 0 := IntWalk.i64_in _ (by omega)
                  (simp only [go_sem, Nat.reduceAdd, Nat.reduceMul, Int.reduceToNat, Nat.reduceLeDiff, Int.reduceLE, Int.reduceLT, ↓reduceIte, Int.reduceBEq, Int.reduceBNe, Int.reduceAdd, Int.reduceSub, Int.reduceMul, qFin_ret, qFin_normal, p2, Int.toNat_natCast, gn, ints_length, q0, w1, q3, emx, w2, ei]; (try ((refine okTr_and ?_ ?_); (· rfl))))
                  (repeat ((with_reducible refine And.intro ?_ ?_); (· first | with_reducible assumption | omega | with_reducible rfl | (simp only [List.length_append, List.length_cons, List.length_nil, List.length_singleton]; omega) | (simp [ints_length, okEl_eq, AV.parts]; done) | (simp [ints_length, okEl_eq, AV.parts]; omega) | rfl)))
                  exact ⟨(i + 1, true, sum + ns.getD i 0), ⟨hlt2, fun _ => ⟨_, hD.step hlt2 c0 c1⟩, fun h => by cases h⟩, by simp only; omega, Wk.to (by simp) (by simp [leT])⟩
                · have q3 : decide (ns.getD i 0 ≤ (d.length : Int) - sum) = false := decide_eq_false c1
                  (simp only [go_sem, Nat.reduceAdd, Nat.reduceMul, Int.reduceToNat, Nat.reduceLeDiff, Int.reduceLE, Int.reduceLT, ↓reduceIte, Int.reduceBEq, Int.reduceBNe, Int.reduceAdd, Int.reduceSub, Int.reduceMul, qFin_ret, qFin_normal, p2, Int.toNat_natCast, gn, ints_length, q0, w1, q3, emx, ei]; (try ((refine okTr_and ?_ ?_); (· rfl))))
                  (repeat ((with_reducible refine And.intro ?_ ?_); (· first | with_reducible assumption | omega | with_reducible rfl | (simp only [List.length_append, List.length_cons, List.length_nil, List.length_singleton]; omega) | (simp [ints_length, okEl_eq, AV.parts]; done) | (simp [ints_length, okEl_eq, AV.parts]; omega) | rfl)))
                  exact ⟨(i + 1, false, IntKind.i64.wrap (sum + ns.getD i 0)), ⟨hlt2, (fun h => by cases h), fun _ => by rw [← hR]; exact hD.bad hlt2 (.inr (by omega))⟩, by simp only; omega, Wk.to (by simp) (by simp [leT])⟩
              · have q0 : decide (0 ≤ ns.getD i 0) = false := decide_eq_false c0
                have emx : (if 0 > ns.getD i 0 then 0 else ns.getD i 0) = 0 := if_pos (by omega)
                have w3 : IntKind.i64.wrap (sum + 0) = sum := by rw [IntWalk.i64_in _ (by omega)]; omega
                (simp only [go_sem, Nat.reduceAdd, Nat.reduceMul, Int.reduceToNat, Nat.reduceLeDiff, Int.reduceLE, Int.reduceLT, ↓reduceIte, Int.reduceBEq, Int.reduceBNe, Int.reduceAdd, Int.reduceSub, Int.reduceMul, qFin_ret, qFin_normal, p2, Int.toNat_natCast, gn, ints_length, q0, emx, w3, ei]; (try ((refine okTr_and ?_ ?_); (· rfl))))
                (repeat ((with_reducible refine And.intro ?_ ?_); (· first | with_reducible assumption | omega | with_reducible rfl | (simp only [List.length_append, List.length_cons, List.length_nil, List.length_singleton]; omega) | (simp [ints_length, okEl_eq, AV.parts]; done) | (simp [ints_length, okEl_eq, AV.parts]; omega) | rfl)))
                exact ⟨(i + 1, false, sum), ⟨hlt2, (fun h => by cases h), fun _ => by rw [← hR]; exact hD.bad hlt2 (.inl (by omega))⟩, by simp only; omega, Wk.to (by simp) (by simp [leT])⟩
            · have p2 : decide ((i : Int) < (ns.length : Int)) = false := decide_eq_false (by omega)
              have hie : i = ns.length := by omega
              have hex : ∃ acc, Dl hs ns d ns.length sum acc := by rw [← hie]; exact hT rfl
              have hD2 := hex.choose_spec
              have hdone := hD2.done
              rw [hR] at hdone
              by_cases cs : sum = (d.length : Int)
              · have q5 : (sum == (d.length : Int)) = true := by simpa using cs
                rw [if_pos cs] at hdone
                have hee := hD2.each
                have hal := hD2.al
                have hln := hD2.len
                have r1 : R.1 = hex.choose := by rw [hdone]
                have r2 : R.2 = true := by rw [hdone]
                generalize hex.choose = acc at *
                (simp only [go_sem, Nat.reduceAdd, Nat.reduceMul, Int.reduceToNat, Nat.reduceLeDiff, Int.reduceLE, Int.reduceLT, ↓reduceIte, Int.reduceBEq, Int.reduceBNe, Int.reduceAdd, Int.reduceSub, Int.reduceMul, qFin_ret, qFin_normal, p2, ints_length, q5, r1, r2]; (try ((refine okTr_and ?_ ?_); (· rfl))))
                refine loop_of (α := Nat) (fun k => [slE hs, slA .i64 ns, slA .u8 d, .any, .any, .any, .any, .any, .any, .any, .any, .any, slE acc, bA true, .any, iA (preS ns k), .any, iA k, .any, .any, .any, .any, .any, .any, .any, .any, .any, .any, .any, .any, .any, .any, .any, .any, .any, .any, .any, .any, .any, .any, .any, .any, .any, .any, .any, .any, .any, .any, .any, .any, .any, .any, .any, .any, .any, .any, .any, .any, .any, .any, .any, .any, .any, .any, .any, .any, .any, .any, .any, .any, .any, .any, .any, .any, .any, .any, .any, .any, .any, .any, .any, .any, .any, .any, .any, .any, .any, .any, .any, .any, .any, .any, .any, .any, .any, .any, .any, .any, .any, .any, .any, .any, .any, .any, .any, .any, .any, .any, .any, .any, .any, .any, .any, .any, .any, .any, .any, .any, .any, .any, .any, .any, .any, .any, .any, .any, .any, .any, .any, .any, .any, .any, .any, .any, .any, .any, .any, .any, .any, .any, .any, .any, .any, .any, .any, .any, .any, .any, .any, .any, .any, .any, .any, .any, .any, .any, .any, .any, .any, .any, .any, .any, .any, .any, .any, .any, .any, .any, .any, .any, .any, .any, .any, .any, .any, .any, .any, .any, .any, .any, .any, .any, .any, .any]) (fun _ => []) (fun k => k ≤ ns.length) (fun k => ns.length - k) 0 (by simp) (Wk.to (by simp) (by simp [leT, preS])) ?_
                intro k hk
                (simp only [go_sem, Nat.reduceAdd, Nat.reduceMul, Int.reduceToNat, Nat.reduceLeDiff, Int.reduceLE, Int.reduceLT, ↓reduceIte, Int.reduceBEq, Int.reduceBNe, Int.reduceAdd, Int.reduceSub, Int.reduceMul, qFin_ret, qFin_normal, ens_length]; (try ((refine okTr_and ?_ ?_); (· rfl))))
                by_cases hlt3 : k < ns.length
                · have p3 : decide ((k : Int) < (acc.length : Int)) = true := decide_eq_true (by omega)
                  have e1 := (hee k hlt3).1
                  have e2 := (hee k hlt3).2.1
                  have e3 := (hee k hlt3).2.2.1
                  have e4 := (hee k hlt3).2.2.2
                  have hps := preS_succ ns k hlt3
                  have ek := i64_succ k (by omega)
                  have ga := ens_get acc k (by omega)
                  have gh := ens_get hs k (by omega)
                  have gn : (ints .i64 ns).getD k .any = iA (ns.getD k 0) := ints_getD .i64 ns k hlt3
                  have wp : IntKind.i64.wrap (preS ns k + ns.getD k 0) = preS ns (k + 1) := by rw [IntWalk.i64_in _ (by omega)]; omega
                  have hsl : ints .u8 ((d.drop (preS ns k).toNat).take (preS ns (k + 1) - preS ns k).toNat) = ints .u8 ((d.drop (preS ns k).toNat).take (ns.getD k 0).toNat) := by rw [hps, show preS ns k + ns.getD k 0 - preS ns k = ns.getD k 0 by omega]
                  rw [e4] at ga
                  have hmh : hs.getD k en0 ∈ hs := by
                    have : k < hs.length := by omega
                    simp [this]
                  have hbd : Bys ((d.drop (preS ns k).toNat).take (ns.getD k 0).toNat) := fun x hx => hd x (List.mem_of_mem_drop (List.mem_of_mem_take hx))
                  have hsa := ref24_Same ⟨(hs.getD k en0).lk, (d.drop (preS ns k).toNat).take (ns.getD k 0).toNat⟩ ⟨(hs.getD k en0).lk, (d.drop (preS ns k).toNat).take (ns.getD k 0).toNat⟩ (m3 _ hmh).1.1 hbd hbd
                  (simp only [go_sem, Nat.reduceAdd, Nat.reduceMul, Int.reduceToNat, Nat.reduceLeDiff, Int.reduceLE, Int.reduceLT, ↓reduceIte, Int.reduceBEq, Int.reduceBNe, Int.reduceAdd, Int.reduceSub, Int.reduceMul, qFin_ret, qFin_normal, p3, Int.toNat_natCast, ga, gh, gn, ens_length, ints_length, wp, ints_drop, ints_take, hsl]; (try ((refine okTr_and ?_ ?_); (· rfl))))
                  (repeat ((with_reducible refine And.intro ?_ ?_); (· first | with_reducible assumption | omega | with_reducible rfl | (simp only [List.length_append, List.length_cons, List.length_nil, List.length_singleton]; omega) | (simp [ints_length, okEl_eq, AV.parts]; done) | (simp [ints_length, okEl_eq, AV.parts]; omega) | rfl)))
                  refine CallK.p (hsa) ?_; (simp only [go_sem, Nat.reduceAdd, Nat.reduceMul, Int.reduceToNat, Nat.reduceLeDiff, Int.reduceLE, Int.reduceLT, ↓reduceIte, Int.reduceBEq, Int.reduceBNe, Int.reduceAdd, Int.reduceSub, Int.reduceMul, qFin_ret, qFin_normal, sameE_self, Bool.not_true, Int.toNat_natCast, gn, ints_length, wp, ek]; (try ((refine okTr_and ?_ ?_); (· rfl))))
                  (repeat ((with_reducible refine And.intro ?_ ?_); (· first | with_reducible assumption | omega | with_reducible rfl | (simp only [List.length_append, List.length_cons, List.length_nil, List.length_singleton]; omega) | (simp [ints_length, okEl_eq, AV.parts]; done) | (simp [ints_length, okEl_eq, AV.parts]; omega) | rfl)))
                  exact ⟨k + 1, by omega, by omega, Wk.to (by simp) (by simp [leT])⟩
                · have p3 : decide ((k : Int) < (acc.length : Int)) = false := decide_eq_false (by omega)
                  have q7 : ((acc.length : Int) == (hs.length : Int)) = true := by simp; omega
                  (simp only [go_sem, Nat.reduceAdd, Nat.reduceMul, Int.reduceToNat, Nat.reduceLeDiff, Int.reduceLE, Int.reduceLT, ↓reduceIte, Int.reduceBEq, Int.reduceBNe, Int.reduceAdd, Int.reduceSub, Int.reduceMul, qFin_ret, qFin_normal, p3, ens_length, q7]; (try ((refine okTr_and ?_ ?_); (· rfl))))
                  refine CallK.p (live24) ?_; (simp only [go_sem, Nat.reduceAdd, Nat.reduceMul, Int.reduceToNat, Nat.reduceLeDiff, Int.reduceLE, Int.reduceLT, ↓reduceIte, Int.reduceBEq, Int.reduceBNe, Int.reduceAdd, Int.reduceSub, Int.reduceMul, qFin_ret, qFin_normal]; (try ((refine okTr_and ?_ ?_); (· rfl))))
                  ((refine FinK.fin r3 [] ?_ ?_ ?_ ?_ ?_ ?_); (· decide); (· rfl); (· simp); (· rfl); (· first | with_reducible rfl | (simp [ints_nil, ren_lit, ren_ref, ren_any, ren_agg, ren_tup, ren_sl, ren_fn, tren_none, tren_full, tren_row, oren_cells, oren_row, oren_dead, ixs_z, ixs_1, ixs_2, ixs_3, ren_ints, List.map_cons, List.map_nil]; done) | rfl); (· simp [resAL, resA1, loadA, oneOr, ints_nil, ren_lit, ren_ref, ren_any, ren_agg, ren_tup, ren_sl, ren_fn, tren_none, tren_full, tren_row, oren_cells, oren_row, oren_dead, ixs_z, ixs_1, ixs_2, ixs_3, ren_ints, List.map_cons, List.map_nil]))
              · have q5 : (sum == (d.length : Int)) = false := by simpa using cs
                rw [if_neg cs] at hdone
                have r1 : R.1 = [] := by rw [hdone]
                have r2 : R.2 = false := by rw [hdone]
                (simp only [go_sem, Nat.reduceAdd, Nat.reduceMul, Int.reduceToNat, Nat.reduceLeDiff, Int.reduceLE, Int.reduceLT, ↓reduceIte, Int.reduceBEq, Int.reduceBNe, Int.reduceAdd, Int.reduceSub, Int.reduceMul, qFin_ret, qFin_normal, p2, ints_length, q5, r1, r2, ens_length, List.length_nil]; (try ((refine okTr_and ?_ ?_); (· rfl))))
                refine CallK.p (live24) ?_; (simp only [go_sem, Nat.reduceAdd, Nat.reduceMul, Int.reduceToNat, Nat.reduceLeDiff, Int.reduceLE, Int.reduceLT, ↓reduceIte, Int.reduceBEq, Int.reduceBNe, Int.reduceAdd, Int.reduceSub, Int.reduceMul, qFin_ret, qFin_normal]; (try ((refine okTr_and ?_ ?_); (· rfl))))
                ((refine FinK.fin r3 [] ?_ ?_ ?_ ?_ ?_ ?_); (· decide); (· rfl); (· simp); (· rfl); (· first | with_reducible rfl | (simp [ints_nil, ren_lit, ren_ref, ren_any, ren_agg, ren_tup, ren_sl, ren_fn, tren_none, tren_full, tren_row, oren_cells, oren_row, oren_dead, ixs_z, ixs_1, ixs_2, ixs_3, ren_ints, List.map_cons, List.map_nil]; done) | rfl); (· simp [resAL, resA1, loadA, oneOr, ints_nil, ren_lit, ren_ref, ren_any, ren_agg, ren_tup, ren_sl, ren_fn, tren_none, tren_full, tren_row, oren_cells, oren_row, oren_dead, ixs_z, ixs_1, ixs_2, ixs_3, ren_ints, List.map_cons, List.map_nil]))
  · have hM' : manyE hs = true := by simpa using hM
    (simp only [go_sem, Nat.reduceAdd, Nat.reduceMul, Int.reduceToNat, Nat.reduceLeDiff, Int.reduceLE, Int.reduceLT, ↓reduceIte, Int.reduceBEq, Int.reduceBNe, Int.reduceAdd, Int.reduceSub, Int.reduceMul, qFin_ret, qFin_normal, hM']; (try ((refine okTr_and ?_ ?_); (· rfl))))
    refine CallK.p (live24) ?_; (simp only [go_sem, Nat.reduceAdd, Nat.reduceMul, Int.reduceToNat, Nat.reduceLeDiff, Int.reduceLE, Int.reduceLT, ↓reduceIte, Int.reduceBEq, Int.reduceBNe, Int.reduceAdd, Int.reduceSub, Int.reduceMul, qFin_ret, qFin_normal]; (try ((refine okTr_and ?_ ?_); (· rfl))))
    ((refine FinK.fin r3 [] ?_ ?_ ?_ ?_ ?_ ?_); (· decide); (· rfl); (· simp); (· rfl); (· first | with_reducible rfl | (simp [ints_nil, ren_lit, ren_ref, ren_any, ren_agg, ren_tup, ren_sl, ren_fn, tren_none, tren_full, tren_row, oren_cells, oren_row, oren_dead, ixs_z, ixs_1, ixs_2, ixs_3, ren_ints, List.map_cons, List.map_nil]; done) | rfl); (· simp [resAL, resA1, loadA, oneOr, ints_nil, ren_lit, ren_ref, ren_any, ren_agg, ren_tup, ren_sl, ren_fn, tren_none, tren_full, tren_row, oren_cells, oren_row, oren_dead, ixs_z, ixs_1, ixs_2, ixs_3, ren_ints, List.map_cons, List.map_nil]))
end Go.Proofs.Ytkhnfleejgfhgaa
