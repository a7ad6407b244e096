/-
  Chapter 31: HeaderCuts, HeaderTells.
-/
import Derived.Test.YtkhnfleejgfhgaaL31
import Derived.Test.YtkhnfleejgfhgaaP23
set_option linter.all false
set_option linter.unusedSimpArgs false
set_option linter.unusedVariables false
set_option linter.unnecessarySimpa false
namespace Go.Proofs.Ytkhnfleejgfhgaa
open Go.RowKit

theorem getH_cut {h : Hd} (hr : rightH h = true) (hb : 0 ≤ h.base) {k : Nat} (hk : k < (headerB h).length) : getH ((headerB h).take k) = (hd0, 0, (1, (k : Int))) := by
  obtain ⟨c1, c2, _⟩ := header_cut hr hb hk
  unfold getH
  rw [if_neg (by rw [c1]; decide), c1, c2]
theorem verH_cut {h : Hd} (hr : rightH h = true) (hb : 0 ≤ h.base) {k : Nat} (hk : k < (headerB h).length) : (k < 5 → verH ((headerB h).take k) = (0, (1, (k : Int)))) ∧ (5 ≤ k → verH ((headerB h).take k) = (h.ver, (0, 0))) := by
  obtain ⟨_, _, c3, c4⟩ := header_cut hr hb hk
  refine ⟨fun h5 => ?_, fun h5 => ?_⟩
  · obtain ⟨d1, d2⟩ := c3 h5
    unfold verH
    rw [if_neg (by rw [d1]; decide), d1, d2]
  · obtain ⟨d1, d2⟩ := c4 h5
    unfold verH
    rw [if_pos d1, d2]
set_option maxHeartbeats 1000000 in
set_option maxRecDepth 100000 in
theorem law_HeaderCuts (h : Hd) (n : Int) (hb : 0 ≤ h.base) : Does Try.prog 14 [hdA h, iA n] [] (bA true) [] := by
  refine Does.run Try.func14 b14 n14 Try.ntmps14 (by simp only [List.cons_append, List.nil_append, List.length_cons, List.length_nil, Nat.zero_add, Nat.reduceAdd, Nat.reduceSub, List.replicate]; rfl) ?_; simp only [c14, go_sem, Nat.reduceAdd, Nat.reduceMul, Int.reduceToNat, Nat.reduceLeDiff, Int.reduceLE, Int.reduceLT, ↓reduceIte, Int.reduceBEq, Int.reduceBNe, Int.reduceAdd, Int.reduceSub, Int.reduceMul, qFin_ret, qFin_normal]; (try ((refine okTr_and ?_ ?_); (· rfl)))
  refine CallK.p (header_Bytes h hb) ?_
  by_cases hrt : rightH h = true
  · have e1 : bytesH h = headerB h := by unfold bytesH; rw [if_pos hrt]
    have e2 : errH h = 0 := by unfold errH; rw [if_pos hrt]
    have hB := headerB_bys hrt hb
    have hlen := headerB_27 hrt
    have hpl := plainB_len h
    have hl4 := headerB_len h
    have q10 : decide (((headerB h).length : Int) < 10) = false := decide_eq_false (by omega)
    have ew : IntKind.i64.wrap (((headerB h).length : Int) - 1) = ((headerB h).length : Int) - 1 := IntWalk.i64_in _ (by omega)
    obtain ⟨k, hk⟩ : ∃ k : Nat, min (if 0 > n then 0 else n) (((headerB h).length : Int) - 1) = (k : Int) := ⟨(min (if 0 > n then 0 else n) (((headerB h).length : Int) - 1)).toNat, by split <;> omega⟩
    have kl : k < (headerB h).length := by omega
    have hcb : Bys ((headerB h).take k) := fun x hx => hB x (List.mem_of_mem_take hx)
    have hcl : ((headerB h).take k).length ≤ 140737488355328 := by rw [List.length_take]; omega
    have g := getH_cut hrt hb kl
    have v := verH_cut hrt hb kl
    (simp only [go_sem, Nat.reduceAdd, Nat.reduceMul, Int.reduceToNat, Nat.reduceLeDiff, Int.reduceLE, Int.reduceLT, ↓reduceIte, Int.reduceBEq, Int.reduceBNe, Int.reduceAdd, Int.reduceSub, Int.reduceMul, qFin_ret, qFin_normal, e1, e2, ints_length, q10, mn, ew, hk, Int.sub_zero, ints_take, Int.toNat_natCast]; (try ((refine okTr_and ?_ ?_); (· rfl))))
    (repeat ((with_reducible refine And.intro ?_ ?_); (· first | with_reducible assumption | omega | with_reducible rfl | (simp only [List.length_append, List.length_cons, List.length_nil, List.length_singleton]; omega) | (simp [ints_length, okEl_eq, AV.parts]; done) | (simp [ints_length, okEl_eq, AV.parts]; omega) | rfl)))
    refine CallK.p (header_Get ((headerB h).take k) hcb hcl) ?_; (simp only [go_sem, Nat.reduceAdd, Nat.reduceMul, Int.reduceToNat, Nat.reduceLeDiff, Int.reduceLE, Int.reduceLT, ↓reduceIte, Int.reduceBEq, Int.reduceBNe, Int.reduceAdd, Int.reduceSub, Int.reduceMul, qFin_ret, qFin_normal, g, ints_length, Int.sub_zero, ints_take, Int.toNat_natCast]; (try ((refine okTr_and ?_ ?_); (· rfl))))
    (repeat ((with_reducible refine And.intro ?_ ?_); (· first | with_reducible assumption | omega | with_reducible rfl | (simp only [List.length_append, List.length_cons, List.length_nil, List.length_singleton]; omega) | (simp [ints_length, okEl_eq, AV.parts]; done) | (simp [ints_length, okEl_eq, AV.parts]; omega) | rfl)))
    by_cases k5 : k < 5
    · have q5 : decide ((k : Int) < 5) = true := decide_eq_true (by omega)
      refine CallK.p (header_Version ((headerB h).take k) hcb hcl) ?_; (simp only [go_sem, Nat.reduceAdd, Nat.reduceMul, Int.reduceToNat, Nat.reduceLeDiff, Int.reduceLE, Int.reduceLT, ↓reduceIte, Int.reduceBEq, Int.reduceBNe, Int.reduceAdd, Int.reduceSub, Int.reduceMul, qFin_ret, qFin_normal, v.1 k5, q5, beq_self_eq_true, Bool.true_and]; (try ((refine okTr_and ?_ ?_); (· rfl))))
      refine CallK.p (live31) ?_; (simp only [go_sem, Nat.reduceAdd, Nat.reduceMul, Int.reduceToNat, Nat.reduceLeDiff, Int.reduceLE, Int.reduceLT, ↓reduceIte, Int.reduceBEq, Int.reduceBNe, Int.reduceAdd, Int.reduceSub, Int.reduceMul, qFin_ret, qFin_normal]; (try ((refine okTr_and ?_ ?_); (· rfl))))
      ((refine FinK.fin r14 [] ?_ ?_ ?_ ?_ ?_ ?_); (· decide); (· rfl); (· simp); (· rfl); (· first | with_reducible rfl | (simp [ints_nil, ren_lit, ren_ref, ren_any, ren_agg, ren_tup, ren_sl, ren_fn, tren_none, tren_full, tren_row, oren_cells, oren_row, oren_dead, ixs_z, ixs_1, ixs_2, ixs_3, ren_ints, List.map_cons, List.map_nil]; done) | rfl); (· simp [resAL, resA1, loadA, oneOr, ints_nil, ren_lit, ren_ref, ren_any, ren_agg, ren_tup, ren_sl, ren_fn, tren_none, tren_full, tren_row, oren_cells, oren_row, oren_dead, ixs_z, ixs_1, ixs_2, ixs_3, ren_ints, List.map_cons, List.map_nil]))
    · have q5 : decide ((k : Int) < 5) = false := decide_eq_false (by omega)
      have q6 : decide (5 ≤ (k : Int)) = true := decide_eq_true (by omega)
      refine CallK.p (header_Version ((headerB h).take k) hcb hcl) ?_; (simp only [go_sem, Nat.reduceAdd, Nat.reduceMul, Int.reduceToNat, Nat.reduceLeDiff, Int.reduceLE, Int.reduceLT, ↓reduceIte, Int.reduceBEq, Int.reduceBNe, Int.reduceAdd, Int.reduceSub, Int.reduceMul, qFin_ret, qFin_normal, v.2 (by omega), q5, q6, beq_self_eq_true, Bool.true_and]; (try ((refine okTr_and ?_ ?_); (· rfl))))
      refine CallK.p (live31) ?_; (simp only [go_sem, Nat.reduceAdd, Nat.reduceMul, Int.reduceToNat, Nat.reduceLeDiff, Int.reduceLE, Int.reduceLT, ↓reduceIte, Int.reduceBEq, Int.reduceBNe, Int.reduceAdd, Int.reduceSub, Int.reduceMul, qFin_ret, qFin_normal]; (try ((refine okTr_and ?_ ?_); (· rfl))))
      ((refine FinK.fin r14 [] ?_ ?_ ?_ ?_ ?_ ?_); (· decide); (· rfl); (· simp); (· rfl); (· first | with_reducible rfl | (simp [ints_nil, ren_lit, ren_ref, ren_any, ren_agg, ren_tup, ren_sl, ren_fn, tren_none, tren_full, tren_row, oren_cells, oren_row, oren_dead, ixs_z, ixs_1, ixs_2, ixs_3, ren_ints, List.map_cons, List.map_nil]; done) | rfl); (· simp [resAL, resA1, loadA, oneOr, ints_nil, ren_lit, ren_ref, ren_any, ren_agg, ren_tup, ren_sl, ren_fn, tren_none, tren_full, tren_row, oren_cells, oren_row, oren_dead, ixs_z, ixs_1, ixs_2, ixs_3, ren_ints, List.map_cons, List.map_nil]))
  · have e1 : bytesH h = [] := by unfold bytesH; rw [if_neg hrt]
    have e2 : errH h = 3 := by unfold errH; rw [if_neg hrt]
    (simp only [go_sem, Nat.reduceAdd, Nat.reduceMul, Int.reduceToNat, Nat.reduceLeDiff, Int.reduceLE, Int.reduceLT, ↓reduceIte, Int.reduceBEq, Int.reduceBNe, Int.reduceAdd, Int.reduceSub, Int.reduceMul, qFin_ret, qFin_normal, e1, e2]; (try ((refine okTr_and ?_ ?_); (· rfl))))
    refine CallK.p (live31) ?_; (simp only [go_sem, Nat.reduceAdd, Nat.reduceMul, Int.reduceToNat, Nat.reduceLeDiff, Int.reduceLE, Int.reduceLT, ↓reduceIte, Int.reduceBEq, Int.reduceBNe, Int.reduceAdd, Int.reduceSub, Int.reduceMul, qFin_ret, qFin_normal]; (try ((refine okTr_and ?_ ?_); (· rfl))))
    ((refine FinK.fin r14 [] ?_ ?_ ?_ ?_ ?_ ?_); (· decide); (· rfl); (· simp); (· rfl); (· first | with_reducible rfl | (simp [ints_nil, ren_lit, ren_ref, ren_any, ren_agg, ren_tup, ren_sl, ren_fn, tren_none, tren_full, tren_row, oren_cells, oren_row, oren_dead, ixs_z, ixs_1, ixs_2, ixs_3, ren_ints, List.map_cons, List.map_nil]; done) | rfl); (· simp [resAL, resA1, loadA, oneOr, ints_nil, ren_lit, ren_ref, ren_any, ren_agg, ren_tup, ren_sl, ren_fn, tren_none, tren_full, tren_row, oren_cells, oren_row, oren_dead, ixs_z, ixs_1, ixs_2, ixs_3, ren_ints, List.map_cons, List.map_nil]))
theorem u8_at (l : List Int) (i : Nat) (h : i < l.length) : (ints .u8 l).getD i .any = u8A (l.getD i 0) := u8_in_list i h
set_option maxHeartbeats 1000000 in
set_option maxRecDepth 100000 in
theorem law_HeaderTells (h : Hd) (n : Int) (d : Nat) (hb : 0 ≤ h.base) (hd : d < 4294967296) : Does Try.prog 10 [hdA h, iA n, wA d] [] (bA true) [] := by
  refine Does.run Try.func10 b10 n10 Try.ntmps10 (by simp only [List.cons_append, List.nil_append, List.length_cons, List.length_nil, Nat.zero_add, Nat.reduceAdd, Nat.reduceSub, List.replicate]; rfl) ?_; simp only [c10, go_sem, Nat.reduceAdd, Nat.reduceMul, Int.reduceToNat, Nat.reduceLeDiff, Int.reduceLE, Int.reduceLT, ↓reduceIte, Int.reduceBEq, Int.reduceBNe, Int.reduceAdd, Int.reduceSub, Int.reduceMul, qFin_ret, qFin_normal]; (try ((refine okTr_and ?_ ?_); (· rfl)))
  refine CallK.p (law31_as h) ?_; (simp only [go_sem, Nat.reduceAdd, Nat.reduceMul, Int.reduceToNat, Nat.reduceLeDiff, Int.reduceLE, Int.reduceLT, ↓reduceIte, Int.reduceBEq, Int.reduceBNe, Int.reduceAdd, Int.reduceSub, Int.reduceMul, qFin_ret, qFin_normal]; (try ((refine okTr_and ?_ ?_); (· rfl))))
  refine CallK.p (ref31_Right h) ?_
  by_cases hrt : rightH h = true
  · have e1 : bytesH h = headerB h := by unfold bytesH; rw [if_pos hrt]
    have e2 : errH h = 0 := by unfold errH; rw [if_pos hrt]
    have hB := headerB_bys hrt hb
    have hlen := headerB_27 hrt
    have hpl := plainB_len h
    have hl4 := headerB_len h
    have q10 : decide (((headerB h).length : Int) < 10) = false := decide_eq_false (by omega)
    have w1 : IntKind.i64.wrap (((headerB h).length : Int) - 5) = ((headerB h).length : Int) - 5 := IntWalk.i64_in _ (by omega)
    have w2 : IntKind.i64.wrap (8 * (((headerB h).length : Int) - 5)) = 8 * (((headerB h).length : Int) - 5) := IntWalk.i64_in _ (by omega)
    have w3 : IntKind.i64.wrap (8 * (((headerB h).length : Int) - 5) - 1) = 8 * (((headerB h).length : Int) - 5) - 1 := IntWalk.i64_in _ (by omega)
    have w4 : IntKind.i64.wrap (((headerB h).length : Int) - 4) = ((headerB h).length : Int) - 4 := IntWalk.i64_in _ (by omega)
    obtain ⟨a, ha⟩ : ∃ a : Nat, min (if 0 > n then 0 else n) (8 * (((headerB h).length : Int) - 5) - 1) = (a : Int) := ⟨(min (if 0 > n then 0 else n) (8 * (((headerB h).length : Int) - 5) - 1)).toNat, by split <;> omega⟩
    have hae : (a : Int) ≤ 8 * (((headerB h).length : Int) - 5) - 1 := by omega
    have hbd : Bys ((headerB h).drop 5) := fun y hy => hB y (List.mem_of_mem_drop hy)
    have hbt : Bys ((headerB h).take 5) := fun y hy => hB y (List.mem_of_mem_take hy)
    have ldr : ((headerB h).drop 5).length ≤ 22 := by rw [List.length_drop]; omega
    have lta : ((headerB h).take 5).length = 5 := by rw [List.length_take]; omega
    obtain ⟨z, hz⟩ : ∃ z, turnB ((headerB h).drop 5) (a : Int) d = z := ⟨_, rfl⟩
    have hzl : z.length = (headerB h).length - 5 := by rw [← hz, turnB_len, List.length_drop]
    have hzb : Bys z := by rw [← hz]; exact turnB_bys hbd _ _
    obtain ⟨x, hx⟩ : ∃ x, (headerB h).take 5 ++ z = x := ⟨_, rfl⟩
    have hxb : Bys x := by rw [← hx]; exact hbys_app hbt hzb
    have hxl : x.length = (headerB h).length := by rw [← hx, List.length_append, lta]; omega
    have hxs : ((headerB h).take 5).length + z.length = x.length := by rw [← hx, List.length_append]
    have gg := getH_is hxb (by omega)
    (simp only [go_sem, Nat.reduceAdd, Nat.reduceMul, Int.reduceToNat, Nat.reduceLeDiff, Int.reduceLE, Int.reduceLT, ↓reduceIte, Int.reduceBEq, Int.reduceBNe, Int.reduceAdd, Int.reduceSub, Int.reduceMul, qFin_ret, qFin_normal, hrt]; (try ((refine okTr_and ?_ ?_); (· rfl))))
    refine CallK.p (header_Bytes h hb) ?_; (simp only [go_sem, Nat.reduceAdd, Nat.reduceMul, Int.reduceToNat, Nat.reduceLeDiff, Int.reduceLE, Int.reduceLT, ↓reduceIte, Int.reduceBEq, Int.reduceBNe, Int.reduceAdd, Int.reduceSub, Int.reduceMul, qFin_ret, qFin_normal, e1, e2, ints_length, q10, mn, w1, w2, w3, ha, ints_take, ints_drop]; (try ((refine okTr_and ?_ ?_); (· rfl))))
    (repeat ((with_reducible refine And.intro ?_ ?_); (· first | with_reducible assumption | omega | with_reducible rfl | (simp only [List.length_append, List.length_cons, List.length_nil, List.length_singleton]; omega) | (simp [ints_length, okEl_eq, AV.parts]; done) | (simp [ints_length, okEl_eq, AV.parts]; omega) | rfl)))
    refine CallK.n (ref07_Turn ((headerB h).drop 5) (a : Int) d hbd (by omega) (by omega) (by omega) hd) ?_; (simp only [go_sem, Nat.reduceAdd, Nat.reduceMul, Int.reduceToNat, Nat.reduceLeDiff, Int.reduceLE, Int.reduceLT, ↓reduceIte, Int.reduceBEq, Int.reduceBNe, Int.reduceAdd, Int.reduceSub, Int.reduceMul, qFin_ret, qFin_normal, hz, ints_append, ints_length, hx, hxs]; (try ((refine okTr_and ?_ ?_); (· rfl))))
    (repeat ((with_reducible refine And.intro ?_ ?_); (· first | with_reducible assumption | omega | with_reducible rfl | (simp only [List.length_append, List.length_cons, List.length_nil, List.length_singleton]; omega) | (simp [ints_length, okEl_eq, AV.parts]; done) | (simp [ints_length, okEl_eq, AV.parts]; omega) | rfl)))
    obtain ⟨G, hG⟩ : ∃ G, getH x = G := ⟨_, rfl⟩
    refine CallK.p (header_Get x hxb (by omega)) ?_; (simp only [go_sem, Nat.reduceAdd, Nat.reduceMul, Int.reduceToNat, Nat.reduceLeDiff, Int.reduceLE, Int.reduceLT, ↓reduceIte, Int.reduceBEq, Int.reduceBNe, Int.reduceAdd, Int.reduceSub, Int.reduceMul, qFin_ret, qFin_normal, hG]; (try ((refine okTr_and ?_ ?_); (· rfl))))
    refine CallK.p (ref02_Same x (headerB h) hxb hB) ?_
    by_cases hs : x = headerB h
    · have g1 := getH_own (r := []) hrt hb (by rw [List.append_nil]; exact hB) (by rw [List.append_nil]; omega)
      rw [List.append_nil, ← hs, hG] at g1
      have g2 : G.1 = h := by rw [g1]
      have g3 : G.2.2.1 = 0 := by rw [g1]
      (simp only [go_sem, Nat.reduceAdd, Nat.reduceMul, Int.reduceToNat, Nat.reduceLeDiff, Int.reduceLE, Int.reduceLT, ↓reduceIte, Int.reduceBEq, Int.reduceBNe, Int.reduceAdd, Int.reduceSub, Int.reduceMul, qFin_ret, qFin_normal, hsame_yes hs, g2, g3, beq_self_eq_true, Bool.true_and]; (try ((refine okTr_and ?_ ?_); (· rfl))))
      refine CallK.p (live31) ?_; (simp only [go_sem, Nat.reduceAdd, Nat.reduceMul, Int.reduceToNat, Nat.reduceLeDiff, Int.reduceLE, Int.reduceLT, ↓reduceIte, Int.reduceBEq, Int.reduceBNe, Int.reduceAdd, Int.reduceSub, Int.reduceMul, qFin_ret, qFin_normal]; (try ((refine okTr_and ?_ ?_); (· rfl))))
      ((refine FinK.fin r10 [] ?_ ?_ ?_ ?_ ?_ ?_); (· decide); (· rfl); (· simp); (· rfl); (· first | with_reducible rfl | (simp [ints_nil, ren_lit, ren_ref, ren_any, ren_agg, ren_tup, ren_sl, ren_fn, tren_none, tren_full, tren_row, oren_cells, oren_row, oren_dead, ixs_z, ixs_1, ixs_2, ixs_3, ren_ints, List.map_cons, List.map_nil]; done) | rfl); (· simp [resAL, resA1, loadA, oneOr, ints_nil, ren_lit, ren_ref, ren_any, ren_agg, ren_tup, ren_sl, ren_fn, tren_none, tren_full, tren_row, oren_cells, oren_row, oren_dead, ixs_z, ixs_1, ixs_2, ixs_3, ren_ints, List.map_cons, List.map_nil]))
    · have hsf : sameB x (headerB h) = false := by simp [sameB, hs]
      have hxB : ∀ i, i < x.length → 0 ≤ x.getD i 0 ∧ x.getD i 0 < 256 := fun i hi => hxb _ (by rw [List.getD_eq_getElem?_getD, List.getElem?_eq_getElem hi]; exact List.getElem_mem hi)
      have hhB : ∀ i, i < (headerB h).length → 0 ≤ (headerB h).getD i 0 ∧ (headerB h).getD i 0 < 256 := fun i hi => hB _ (by rw [List.getD_eq_getElem?_getD, List.getElem?_eq_getElem hi]; exact List.getElem_mem hi)
      (simp only [go_sem, Nat.reduceAdd, Nat.reduceMul, Int.reduceToNat, Nat.reduceLeDiff, Int.reduceLE, Int.reduceLT, ↓reduceIte, Int.reduceBEq, Int.reduceBNe, Int.reduceAdd, Int.reduceSub, Int.reduceMul, qFin_ret, qFin_normal, hsf]; (try ((refine okTr_and ?_ ?_); (· rfl))))
      refine loop_of (α := Nat) (fun k => [.any, .any, .any, .any, .any, .any, .any, slA .u8 (headerB h), .any, slA .u8 x, .ref 0 0, .any, .ref 1 0, iA k, .any, .any, .any, .any, .any, .any, .any, .any, .any, .any, .any, .any, .any, .any, .any, .any, .any, .any, .any, .any, .any, .any, .any, .any, .any, .any, .any, .any, .any, .any, .any, .any, .any, .any, .any, .any, .any, .any, .any, .any, .any, .any, .any, .any, .any, .any, .any, .any, .any, .any, .any, .any, .any, .any, .any, .any, .any, .any, .any, .any, .any, .any, .any, .any, .any, .any, .any, .any, .any, .any, .any, .any, .any, .any, .any, .any, .any, .any, .any, .any, .any, .any, .any, .any, .any]) (fun _ => [.cells [iA G.1.ver, uA G.1.ep, uA G.1.base], .cells [iA G.2.2.1, iA G.2.2.2]]) (fun k => 5 ≤ k ∧ k ≤ (headerB h).length - 4 ∧ ∀ i, 5 ≤ i → i < k → x.getD i 0 / 128 = (headerB h).getD i 0 / 128) (fun k => (headerB h).length - k) 5 ⟨by omega, by omega, fun i a b => by omega⟩ ((Wk.untag 9 rfl).trans (Wk.sel [3, 4] (by simp) rfl (by simp) rfl (by simp [ints_nil, ren_lit, ren_ref, ren_any, ren_agg, ren_tup, ren_sl, ren_fn, tren_none, tren_full, tren_row, oren_cells, oren_row, oren_dead, ixs_z, ixs_1, ixs_2, ixs_3, ren_ints, List.map_cons, List.map_nil]) (by simp [selT, ints_nil, ren_lit, ren_ref, ren_any, ren_agg, ren_tup, ren_sl, ren_fn, tren_none, tren_full, tren_row, oren_cells, oren_row, oren_dead, ixs_z, ixs_1, ixs_2, ixs_3, ren_ints, List.map_cons, List.map_nil, untag1_sl]))) ?_
      rintro k ⟨k5, kl, hall⟩
      by_cases hlt : k < (headerB h).length - 4
      · have q1 : decide ((k : Int) < ((headerB h).length : Int) - 4) = true := decide_eq_true (by omega)
        have ek := i64_succ k (by omega)
        have gx := u8_at x k (by omega)
        have gh := u8_at (headerB h) k (by omega)
        have bx := hxB k (by omega)
        have bh := hhB k (by omega)
        have dx : IntKind.u8.wrap ((x.getD k 0).tdiv 128) = x.getD k 0 / 128 := by rw [Int.tdiv_eq_ediv_of_nonneg bx.1, IntWalk.u8_in _ (by omega)]
        have dh : IntKind.u8.wrap (((headerB h).getD k 0).tdiv 128) = (headerB h).getD k 0 / 128 := by rw [Int.tdiv_eq_ediv_of_nonneg bh.1, IntWalk.u8_in _ (by omega)]
        (simp only [go_sem, Nat.reduceAdd, Nat.reduceMul, Int.reduceToNat, Nat.reduceLeDiff, Int.reduceLE, Int.reduceLT, ↓reduceIte, Int.reduceBEq, Int.reduceBNe, Int.reduceAdd, Int.reduceSub, Int.reduceMul, qFin_ret, qFin_normal, ints_length, w4, q1, Int.toNat_natCast, gx, gh, dx, dh]; (try ((refine okTr_and ?_ ?_); (· rfl))))
        (repeat ((with_reducible refine And.intro ?_ ?_); (· first | with_reducible assumption | omega | with_reducible rfl | (simp only [List.length_append, List.length_cons, List.length_nil, List.length_singleton]; omega) | (simp [ints_length, okEl_eq, AV.parts]; done) | (simp [ints_length, okEl_eq, AV.parts]; omega) | rfl)))
        by_cases hq : x.getD k 0 / 128 = (headerB h).getD k 0 / 128
        · have q2 : (x.getD k 0 / 128 != (headerB h).getD k 0 / 128) = false := by rw [hq]; simp
          (simp only [go_sem, Nat.reduceAdd, Nat.reduceMul, Int.reduceToNat, Nat.reduceLeDiff, Int.reduceLE, Int.reduceLT, ↓reduceIte, Int.reduceBEq, Int.reduceBNe, Int.reduceAdd, Int.reduceSub, Int.reduceMul, qFin_ret, qFin_normal, q2, ek]; (try ((refine okTr_and ?_ ?_); (· rfl))))
          exact ⟨k + 1, ⟨by omega, by omega, fun i a b => by
            rcases Nat.lt_or_ge i k with h | h
            · exact hall i a h
            · obtain rfl : i = k := by omega
              exact hq⟩, by omega, Wk.to (by simp) (by simp [leT])⟩
        · have q2 : (x.getD k 0 / 128 != (headerB h).getD k 0 / 128) = true := by simpa using hq
          (simp only [go_sem, Nat.reduceAdd, Nat.reduceMul, Int.reduceToNat, Nat.reduceLeDiff, Int.reduceLE, Int.reduceLT, ↓reduceIte, Int.reduceBEq, Int.reduceBNe, Int.reduceAdd, Int.reduceSub, Int.reduceMul, qFin_ret, qFin_normal, q2]; (try ((refine okTr_and ?_ ?_); (· rfl))))
          refine CallK.p (live31) ?_; (simp only [go_sem, Nat.reduceAdd, Nat.reduceMul, Int.reduceToNat, Nat.reduceLeDiff, Int.reduceLE, Int.reduceLT, ↓reduceIte, Int.reduceBEq, Int.reduceBNe, Int.reduceAdd, Int.reduceSub, Int.reduceMul, qFin_ret, qFin_normal]; (try ((refine okTr_and ?_ ?_); (· rfl))))
          ((refine FinK.fin r10 [] ?_ ?_ ?_ ?_ ?_ ?_); (· decide); (· rfl); (· simp); (· rfl); (· first | with_reducible rfl | (simp [ints_nil, ren_lit, ren_ref, ren_any, ren_agg, ren_tup, ren_sl, ren_fn, tren_none, tren_full, tren_row, oren_cells, oren_row, oren_dead, ixs_z, ixs_1, ixs_2, ixs_3, ren_ints, List.map_cons, List.map_nil]; done) | rfl); (· simp [resAL, resA1, loadA, oneOr, ints_nil, ren_lit, ren_ref, ren_any, ren_agg, ren_tup, ren_sl, ren_fn, tren_none, tren_full, tren_row, oren_cells, oren_row, oren_dead, ixs_z, ixs_1, ixs_2, ixs_3, ren_ints, List.map_cons, List.map_nil]))
      · have q1 : decide ((k : Int) < ((headerB h).length : Int) - 4) = false := decide_eq_false (by omega)
        have hc := header_turn hrt hb (x := x) (at_ := a) (d := d) (by rw [hz, hx]) hs (fun i a b => hall i a (by omega))
        have g0 := getH_is hxb (by omega)
        rw [hG] at g0
        have z1 : G.1 = hd0 := by rw [g0.1, header_bad hc]
        have z2 : (G.2.2.1 != 0) = true := by rw [g0.2]; simpa using hc
        have z3 : hd0.ver = 0 := rfl
        have z4 : hd0.ep = 0 := rfl
        have z5 : hd0.base = 0 := rfl
        (simp only [go_sem, Nat.reduceAdd, Nat.reduceMul, Int.reduceToNat, Nat.reduceLeDiff, Int.reduceLE, Int.reduceLT, ↓reduceIte, Int.reduceBEq, Int.reduceBNe, Int.reduceAdd, Int.reduceSub, Int.reduceMul, qFin_ret, qFin_normal, ints_length, w4, q1, z1, z2, z3, z4, z5]; (try ((refine okTr_and ?_ ?_); (· rfl))))
        refine CallK.p (live31) ?_; (simp only [go_sem, Nat.reduceAdd, Nat.reduceMul, Int.reduceToNat, Nat.reduceLeDiff, Int.reduceLE, Int.reduceLT, ↓reduceIte, Int.reduceBEq, Int.reduceBNe, Int.reduceAdd, Int.reduceSub, Int.reduceMul, qFin_ret, qFin_normal]; (try ((refine okTr_and ?_ ?_); (· rfl))))
        ((refine FinK.fin r10 [] ?_ ?_ ?_ ?_ ?_ ?_); (· decide); (· rfl); (· simp); (· rfl); (· first | with_reducible rfl | (simp [ints_nil, ren_lit, ren_ref, ren_any, ren_agg, ren_tup, ren_sl, ren_fn, tren_none, tren_full, tren_row, oren_cells, oren_row, oren_dead, ixs_z, ixs_1, ixs_2, ixs_3, ren_ints, List.map_cons, List.map_nil]; done) | rfl); (· simp [resAL, resA1, loadA, oneOr, ints_nil, ren_lit, ren_ref, ren_any, ren_agg, ren_tup, ren_sl, ren_fn, tren_none, tren_full, tren_row, oren_cells, oren_row, oren_dead, ixs_z, ixs_1, ixs_2, ixs_3, ren_ints, List.map_cons, List.map_nil]))
  · have hrt' : rightH h = false := by simpa using hrt
    (simp only [go_sem, Nat.reduceAdd, Nat.reduceMul, Int.reduceToNat, Nat.reduceLeDiff, Int.reduceLE, Int.reduceLT, ↓reduceIte, Int.reduceBEq, Int.reduceBNe, Int.reduceAdd, Int.reduceSub, Int.reduceMul, qFin_ret, qFin_normal, hrt']; (try ((refine okTr_and ?_ ?_); (· rfl))))
    refine CallK.p (live31) ?_; (simp only [go_sem, Nat.reduceAdd, Nat.reduceMul, Int.reduceToNat, Nat.reduceLeDiff, Int.reduceLE, Int.reduceLT, ↓reduceIte, Int.reduceBEq, Int.reduceBNe, Int.reduceAdd, Int.reduceSub, Int.reduceMul, qFin_ret, qFin_normal]; (try ((refine okTr_and ?_ ?_); (· rfl))))
    ((refine FinK.fin r10 [] ?_ ?_ ?_ ?_ ?_ ?_); (· decide); (· rfl); (· simp); (· rfl); (· first | with_reducible rfl | (simp [ints_nil, ren_lit, ren_ref, ren_any, ren_agg, ren_tup, ren_sl, ren_fn, tren_none, tren_full, tren_row, oren_cells, oren_row, oren_dead, ixs_z, ixs_1, ixs_2, ixs_3, ren_ints, List.map_cons, List.map_nil]; done) | rfl); (· simp [resAL, resA1, loadA, oneOr, ints_nil, ren_lit, ren_ref, ren_any, ren_agg, ren_tup, ren_sl, ren_fn, tren_none, tren_full, tren_row, oren_cells, oren_row, oren_dead, ixs_z, ixs_1, ixs_2, ixs_3, ren_ints, List.map_cons, List.map_nil]))
theorem law_HeaderTells' (h : Hd) (n x : Int) (hb : 0 ≤ h.base) (x0 : 0 ≤ x) (x1 : x < 4294967296) : Does Try.prog 10 [hdA h, iA n, .lit (.int .u32 x)] [] (bA true) [] := by
  obtain ⟨d, rfl⟩ : ∃ d : Nat, x = (d : Int) := ⟨x.toNat, by omega⟩
  exact law_HeaderTells h n d hb (by omega)
end Go.Proofs.Ytkhnfleejgfhgaa
