/-
  Contracts of footer.Find.
-/
import Derived.Test.YtkhnfleejgfhgaaK49
import Derived.Test.YtkhnfleejgfhgaaP24
set_option linter.all false
set_option linter.unusedSimpArgs false
set_option linter.unusedVariables false
set_option linter.unnecessarySimpa false
namespace Go.Proofs.Ytkhnfleejgfhgaa
open Go.RowKit

theorem fault_Shift0 (c a n x : Int) (hx : IntKind.i64.wrap (a + n) = x) : Does Try.prog 155 [fltA (c, a), iA n] [] (fltA (flt c x)) [] := by
  refine Does.run Try.func155 b155 n155 Try.ntmps155 (by simp only [List.cons_append, List.nil_append, List.length_cons, List.length_nil, Nat.zero_add, Nat.reduceAdd, Nat.reduceSub, List.replicate]; rfl) ?_; simp only [c155, go_sem, Nat.reduceAdd, Nat.reduceMul, Int.reduceToNat, Nat.reduceLeDiff, Int.reduceLE, Int.reduceLT, ↓reduceIte, Int.reduceBEq, Int.reduceBNe, Int.reduceAdd, Int.reduceSub, Int.reduceMul, qFin_ret, qFin_normal, hx]; (try ((refine okTr_and ?_ ?_); (· rfl)))
  refine CallK.p (fault_At c x) ?_; (simp only [go_sem, Nat.reduceAdd, Nat.reduceMul, Int.reduceToNat, Nat.reduceLeDiff, Int.reduceLE, Int.reduceLT, ↓reduceIte, Int.reduceBEq, Int.reduceBNe, Int.reduceAdd, Int.reduceSub, Int.reduceMul, qFin_ret, qFin_normal]; (try ((refine okTr_and ?_ ?_); (· rfl))))
  ((refine FinK.fin r155 [] ?_ ?_ ?_ ?_ ?_ ?_); (· decide); (· rfl); (· simp); (· rfl); (· first | with_reducible rfl | (simp [ints_nil, ren_lit, ren_ref, ren_any, ren_agg, ren_tup, ren_sl, ren_fn, tren_none, tren_full, tren_row, oren_cells, oren_row, oren_dead, ixs_z, ixs_1, ixs_2, ixs_3, ren_ints, List.map_cons, List.map_nil]; done) | rfl); (· simp [resAL, resA1, loadA, oneOr, ints_nil, ren_lit, ren_ref, ren_any, ren_agg, ren_tup, ren_sl, ren_fn, tren_none, tren_full, tren_row, oren_cells, oren_row, oren_dead, ixs_z, ixs_1, ixs_2, ixs_3, ren_ints, List.map_cons, List.map_nil]))
theorem fault_Shift (c a n x : Int) (hx : IntKind.i64.wrap (a + n) = x) : Ct Try.prog 155 [fltA (c, a), iA n] [] (fun _ => fltA (flt c x)) [] (fun _ => []) := (fault_Shift0 c a n x hx).toCt (by intros; simp [ints_nil, ren_lit, ren_ref, ren_any, ren_agg, ren_tup, ren_sl, ren_fn, tren_none, tren_full, tren_row, oren_cells, oren_row, oren_dead, ixs_z, ixs_1, ixs_2, ixs_3, ren_ints, List.map_cons, List.map_nil, ixs, List.range'_succ, ren_ints]) (by intros; simp [ints_nil, ren_lit, ren_ref, ren_any, ren_agg, ren_tup, ren_sl, ren_fn, tren_none, tren_full, tren_row, oren_cells, oren_row, oren_dead, ixs_z, ixs_1, ixs_2, ixs_3, ren_ints, List.map_cons, List.map_nil, ixs, List.range'_succ, ren_ints])
def RS.part4 (s : RS) : RS := ⟨s.l.take (s.at_ + 4).toNat, s.at_, 0, 0⟩
theorem Reader_Part0 (s : RS) (hs : ROk s) (h4 : 4 ≤ s.left) : Does Try.prog 180 [.ref 0 0, iA 4] [rdr s] (.ref 1 0) [rdr s, rdr s.part4] := by
  have h0 := hs.at0
  have h1 := hs.at1
  have h2 := hs.len
  unfold RS.left at h4
  have hm0 : (if (0 : Int) > 4 then (0 : Int) else 4) = 4 := if_neg (by decide)
  have hm : min 4 s.left = 4 := by unfold RS.left; omega
  have hw : IntKind.i64.wrap (s.at_ + 4) = s.at_ + 4 := IntWalk.i64_in _ (by omega)
  refine Does.run Try.func180 b180 n180 Try.ntmps180 (by simp only [List.cons_append, List.nil_append, List.length_cons, List.length_nil, Nat.zero_add, Nat.reduceAdd, Nat.reduceSub, List.replicate]; rfl) ?_; simp only [c180, go_sem, Nat.reduceAdd, Nat.reduceMul, Int.reduceToNat, Nat.reduceLeDiff, Int.reduceLE, Int.reduceLT, ↓reduceIte, Int.reduceBEq, Int.reduceBNe, Int.reduceAdd, Int.reduceSub, Int.reduceMul, qFin_ret, qFin_normal]; (try ((refine okTr_and ?_ ?_); (· rfl)))
  refine CallK.r1 (Reader_Left s 0 hs.ok) rfl ?_
  (simp only [go_sem, Nat.reduceAdd, Nat.reduceMul, Int.reduceToNat, Nat.reduceLeDiff, Int.reduceLE, Int.reduceLT, ↓reduceIte, Int.reduceBEq, Int.reduceBNe, Int.reduceAdd, Int.reduceSub, Int.reduceMul, qFin_ret, qFin_normal, rdr, mn, hm0, hm, hw, ints_length, sli_hm, ints_take]; (try ((refine okTr_and ?_ ?_); (· rfl))))
  (repeat ((with_reducible refine And.intro ?_ ?_); (· first | with_reducible assumption | omega | with_reducible rfl | (simp only [List.length_append, List.length_cons, List.length_nil, List.length_singleton]; omega) | (simp [ints_length, okEl_eq, AV.parts]; done) | (simp [ints_length, okEl_eq, AV.parts]; omega) | rfl)))
  ((refine FinK.fin r180 [0, 1] ?_ ?_ ?_ ?_ ?_ ?_); (· decide); (· rfl); (· simp); (· rfl); (· first | with_reducible rfl | (simp [ints_nil, ren_lit, ren_ref, ren_any, ren_agg, ren_tup, ren_sl, ren_fn, tren_none, tren_full, tren_row, oren_cells, oren_row, oren_dead, ixs_z, ixs_1, ixs_2, ixs_3, ren_ints, List.map_cons, List.map_nil, rdr, RS.part4]; done) | rfl); (· simp [resAL, resA1, loadA, oneOr, ints_nil, ren_lit, ren_ref, ren_any, ren_agg, ren_tup, ren_sl, ren_fn, tren_none, tren_full, tren_row, oren_cells, oren_row, oren_dead, ixs_z, ixs_1, ixs_2, ixs_3, ren_ints, List.map_cons, List.map_nil, rdr, RS.part4]))
theorem Reader_Part (s : RS) (i : Nat) (hs : ROk s) (h4 : 4 ≤ s.left) : Ct Try.prog 180 [.ref i 0, iA 4] [(i, rdr s)] (fun n => .ref n 0) [(i, rdr s)] (fun _ => [rdr s.part4]) := Ct.un (Reader_Part0 s hs h4) i (by intros; simp [ints_nil, ren_lit, ren_ref, ren_any, ren_agg, ren_tup, ren_sl, ren_fn, tren_none, tren_full, tren_row, oren_cells, oren_row, oren_dead, ixs_z, ixs_1, ixs_2, ixs_3, ren_ints, List.map_cons, List.map_nil, ixs, List.range'_succ]) (fun ρ => rdr_ren ρ _) (fun ρ => rdr_ren ρ _) (rdr_dead _) (by intros; simp [ints_nil, ren_lit, ren_ref, ren_any, ren_agg, ren_tup, ren_sl, ren_fn, tren_none, tren_full, tren_row, oren_cells, oren_row, oren_dead, ixs_z, ixs_1, ixs_2, ixs_3, ren_ints, List.map_cons, List.map_nil, ixs, List.range'_succ]) (by intros; simp [rdr_ren])
theorem rs_take {l : List Int} {a n : Int} (n0 : 0 ≤ n) (h : a + n ≤ l.length) : (⟨l, a, 0, 0⟩ : RS).take n = (⟨l, a + n, 0, 0⟩, (l.drop a.toNat).take n.toNat) := by
  have h1 : ¬ n < 0 := by omega
  have h2 : ¬ (l.length : Int) - a < n := by omega
  unfold RS.take RS.skip RS.left
  simp only [if_true, if_neg h1, if_neg h2]
theorem rs_skip {b : List Int} {n : Int} (n0 : 0 ≤ n) (n1 : n ≤ b.length) : (RS.new b).skip n = (⟨b, n, 0, 0⟩, true) := by
  unfold RS.skip RS.left RS.new
  simp only [if_true]
  rw [if_neg (by omega), if_neg (by omega)]
  simp
set_option maxHeartbeats 2000000 in
set_option maxRecDepth 100000 in
theorem footer_size0 (b : List Int) (hb : Bys b) (hn : b.length ≤ 140737488355328) : Does Try.prog 153 [slA .u8 b] [] (.tup [iA (sizeT b).1, fltA (sizeT b).2]) [] := by
  have hok : ROk (RS.new b) := ROk.new hb hn
  refine Does.run Try.func153 b153 n153 Try.ntmps153 (by simp only [List.cons_append, List.nil_append, List.length_cons, List.length_nil, Nat.zero_add, Nat.reduceAdd, Nat.reduceSub, List.replicate]; rfl) ?_; simp only [c153, go_sem, Nat.reduceAdd, Nat.reduceMul, Int.reduceToNat, Nat.reduceLeDiff, Int.reduceLE, Int.reduceLT, ↓reduceIte, Int.reduceBEq, Int.reduceBNe, Int.reduceAdd, Int.reduceSub, Int.reduceMul, qFin_ret, qFin_normal, ints_length]; (try ((refine okTr_and ?_ ?_); (· rfl)))
  refine CallK.p (TrailerSize) ?_
  by_cases h12 : b.length < 12
  · have q : decide ((b.length : Int) < 12) = true := decide_eq_true (by omega)
    have e : sizeT b = (0, (1, (b.length : Int))) := by unfold sizeT; rw [if_pos h12]
    (simp only [go_sem, Nat.reduceAdd, Nat.reduceMul, Int.reduceToNat, Nat.reduceLeDiff, Int.reduceLE, Int.reduceLT, ↓reduceIte, Int.reduceBEq, Int.reduceBNe, Int.reduceAdd, Int.reduceSub, Int.reduceMul, qFin_ret, qFin_normal, q]; (try ((refine okTr_and ?_ ?_); (· rfl))))
    refine CallK.p (fault_At 1 b.length) ?_; (simp only [go_sem, Nat.reduceAdd, Nat.reduceMul, Int.reduceToNat, Nat.reduceLeDiff, Int.reduceLE, Int.reduceLT, ↓reduceIte, Int.reduceBEq, Int.reduceBNe, Int.reduceAdd, Int.reduceSub, Int.reduceMul, qFin_ret, qFin_normal]; (try ((refine okTr_and ?_ ?_); (· rfl))))
    ((refine FinK.fin r153 [] ?_ ?_ ?_ ?_ ?_ ?_); (· decide); (· rfl); (· simp); (· rfl); (· first | with_reducible rfl | (simp [ints_nil, ren_lit, ren_ref, ren_any, ren_agg, ren_tup, ren_sl, ren_fn, tren_none, tren_full, tren_row, oren_cells, oren_row, oren_dead, ixs_z, ixs_1, ixs_2, ixs_3, ren_ints, List.map_cons, List.map_nil, e, flt]; done) | rfl); (· simp [resAL, resA1, loadA, oneOr, ints_nil, ren_lit, ren_ref, ren_any, ren_agg, ren_tup, ren_sl, ren_fn, tren_none, tren_full, tren_row, oren_cells, oren_row, oren_dead, ixs_z, ixs_1, ixs_2, ixs_3, ren_ints, List.map_cons, List.map_nil, e, flt]))
  · have q : decide ((b.length : Int) < 12) = false := decide_eq_false (by omega)
    obtain ⟨m, hm⟩ : ∃ m : Nat, b.length = m + 12 := ⟨b.length - 12, by omega⟩
    have hm' : b.length - 12 = m := by omega
    have w1 : IntKind.i64.wrap ((b.length : Int) - 12) = (m : Int) := by rw [IntWalk.i64_in _ (by omega)]; omega
    have w4 : IntKind.i64.wrap ((b.length : Int) - 4) = (b.length : Int) - 4 := IntWalk.i64_in _ (by omega)
    have w8 : IntKind.i64.wrap ((b.length : Int) - 4 - 4) = (b.length : Int) - 8 := by rw [IntWalk.i64_in _ (by omega)]; omega
    have wu : IntKind.u64.wrap (m : Int) = m := IntWalk.u64_in _ (by omega)
    have hsk := rs_skip (b := b) (n := (m : Int)) (by omega) (by omega)
    have k0 : ROk ⟨b, (m : Int), 0, 0⟩ := ⟨by show (0 : Int) ≤ m; omega, by show (m : Int) ≤ (b.length : Int); omega, hn, hb⟩
    have k4 : ROk ⟨b, (m : Int) + 4, 0, 0⟩ := ⟨by show (0 : Int) ≤ m + 4; omega, by show (m : Int) + 4 ≤ (b.length : Int); omega, hn, hb⟩
    have k8 : ROk ⟨b, (m : Int) + 4 + 4, 0, 0⟩ := ⟨by show (0 : Int) ≤ m + 4 + 4; omega, by show (m : Int) + 4 + 4 ≤ (b.length : Int); omega, hn, hb⟩
    have hp4 : (RS.mk b (m : Int) 0 0).part4 = ⟨b.take (m + 4), (m : Int), 0, 0⟩ := by unfold RS.part4; simp only; rw [show ((m : Int) + 4).toNat = m + 4 by omega]
    have lp : (b.take (m + 4)).length = m + 4 := by rw [List.length_take]; omega
    have kp : ROk ⟨b.take (m + 4), (m : Int), 0, 0⟩ := ⟨by show (0 : Int) ≤ m; omega, by show (m : Int) ≤ ((b.take (m + 4)).length : Int); omega, by show (b.take (m + 4)).length ≤ _; omega, fun x hx => hb x (List.mem_of_mem_take hx)⟩
    have t1 := rs_take (l := b.take (m + 4)) (a := (m : Int)) (n := 4) (by decide) (by omega)
    have e1 : ((b.take (m + 4)).drop (m : Int).toNat).take (4 : Int).toNat = (b.drop m).take 4 := by
      rw [Int.toNat_natCast, List.drop_take, show m + 4 - m = 4 by omega, List.take_take]; rfl
    rw [e1] at t1
    have t2 := rs_take (l := b) (a := (m : Int)) (n := 4) (by decide) (by omega)
    have t3 := rs_take (l := b) (a := (m : Int) + 4) (n := 4) (by decide) (by omega)
    have t4 := rs_take (l := b) (a := (m : Int) + 4 + 4) (n := 4) (by decide) (by omega)
    obtain ⟨x1, hx1⟩ : ∃ x, (b.drop m).take 4 = x := ⟨_, rfl⟩
    obtain ⟨x2, hx2⟩ : ∃ x, ((b.drop m).drop 4).take 4 = x := ⟨_, rfl⟩
    obtain ⟨x3, hx3⟩ : ∃ x, (b.drop m).drop 8 = x := ⟨_, rfl⟩
    have e2 : (b.drop (m : Int).toNat).take (4 : Int).toNat = x1 := by rw [Int.toNat_natCast]; exact hx1
    have e3 : (b.drop ((m : Int) + 4).toNat).take (4 : Int).toNat = x2 := by rw [← hx2, List.drop_drop, show ((m : Int) + 4).toNat = m + 4 by omega]; rfl
    have e4 : (b.drop ((m : Int) + 4 + 4).toNat).take (4 : Int).toNat = x3 := by
      rw [← hx3, List.drop_drop, show ((m : Int) + 4 + 4).toNat = m + 8 by omega]
      exact List.take_of_length_le (by rw [List.length_drop]; show _ ≤ 4; omega)
    rw [hx1] at t1
    rw [e2] at t2
    rw [e3] at t3
    rw [e4] at t4
    have f2 : (RS.mk b (m : Int) 0 0).fixed (min (max 4 0) 8) = (⟨b, (m : Int) + 4, 0, 0⟩, fixOf x1) := by
      show (RS.mk b (m : Int) 0 0).fixed 4 = _
      unfold RS.fixed; rw [t2]
    have f3 : (RS.mk b ((m : Int) + 4) 0 0).fixed (min (max 4 0) 8) = (⟨b, (m : Int) + 4 + 4, 0, 0⟩, fixOf x2) := by
      show (RS.mk b ((m : Int) + 4) 0 0).fixed 4 = _
      unfold RS.fixed; rw [t3]
    have b1 : Bys x1 := fun y hy => hb y (by rw [← hx1] at hy; exact List.mem_of_mem_drop (List.mem_of_mem_take hy))
    have b3 : Bys x3 := fun y hy => hb y (by rw [← hx3] at hy; exact List.mem_of_mem_drop (List.mem_of_mem_drop hy))
    have lx1 : x1.length = 4 := by rw [← hx1, List.length_take, List.length_drop]; omega
    have eb := sum_u64 b1
    have hr1 := fixOf_range b1
    rw [lx1] at hr1
    have wi : IntKind.i64.wrap (fixOf x1) = fixOf x1 := IntWalk.i64_in _ (by omega)
    have e : sizeT b = if ¬ x3 = loht then (0, (14, (b.length : Int) - 4)) else if ¬ fixOf x2 = crcI x1 then (0, (6, (b.length : Int) - 8)) else if (b.length : Int) - 12 < fixOf x1 then (0, (3, (b.length : Int) - 12)) else (fixOf x1, (0, 0)) := by
      unfold sizeT; rw [if_neg h12, hm', hx1, hx2, hx3]
    (simp only [go_sem, Nat.reduceAdd, Nat.reduceMul, Int.reduceToNat, Nat.reduceLeDiff, Int.reduceLE, Int.reduceLT, ↓reduceIte, Int.reduceBEq, Int.reduceBNe, Int.reduceAdd, Int.reduceSub, Int.reduceMul, qFin_ret, qFin_normal, q]; (try ((refine okTr_and ?_ ?_); (· rfl))))
    refine CallK.n (cursor_New b) ?_; (simp only [go_sem, Nat.reduceAdd, Nat.reduceMul, Int.reduceToNat, Nat.reduceLeDiff, Int.reduceLE, Int.reduceLT, ↓reduceIte, Int.reduceBEq, Int.reduceBNe, Int.reduceAdd, Int.reduceSub, Int.reduceMul, qFin_ret, qFin_normal]; (try ((refine okTr_and ?_ ?_); (· rfl))))
    refine CallK.p (TrailerSize) ?_; (simp only [go_sem, Nat.reduceAdd, Nat.reduceMul, Int.reduceToNat, Nat.reduceLeDiff, Int.reduceLE, Int.reduceLT, ↓reduceIte, Int.reduceBEq, Int.reduceBNe, Int.reduceAdd, Int.reduceSub, Int.reduceMul, qFin_ret, qFin_normal, w1]; (try ((refine okTr_and ?_ ?_); (· rfl))))
    refine CallK.u1 (Reader_Skip (RS.new b) m _ hok.ok) rfl ?_; (simp only [go_sem, Nat.reduceAdd, Nat.reduceMul, Int.reduceToNat, Nat.reduceLeDiff, Int.reduceLE, Int.reduceLT, ↓reduceIte, Int.reduceBEq, Int.reduceBNe, Int.reduceAdd, Int.reduceSub, Int.reduceMul, qFin_ret, qFin_normal, hsk]; (try ((refine okTr_and ?_ ?_); (· rfl))))
    refine CallK.un (Reader_Part ⟨b, (m : Int), 0, 0⟩ _ k0 (by unfold RS.left; simp only; omega)) rfl ?_
    (simp only [go_sem, Nat.reduceAdd, Nat.reduceMul, Int.reduceToNat, Nat.reduceLeDiff, Int.reduceLE, Int.reduceLT, ↓reduceIte, Int.reduceBEq, Int.reduceBNe, Int.reduceAdd, Int.reduceSub, Int.reduceMul, qFin_ret, qFin_normal, hp4]; (try ((refine okTr_and ?_ ?_); (· rfl))))
    refine CallK.u1 (Reader_Take ⟨b.take (m + 4), (m : Int), 0, 0⟩ 4 _ kp.ok) rfl ?_; (simp only [go_sem, Nat.reduceAdd, Nat.reduceMul, Int.reduceToNat, Nat.reduceLeDiff, Int.reduceLE, Int.reduceLT, ↓reduceIte, Int.reduceBEq, Int.reduceBNe, Int.reduceAdd, Int.reduceSub, Int.reduceMul, qFin_ret, qFin_normal, t1]; (try ((refine okTr_and ?_ ?_); (· rfl))))
    refine CallK.p (crc_Sum x1 b1 (by omega)) ?_; (simp only [go_sem, Nat.reduceAdd, Nat.reduceMul, Int.reduceToNat, Nat.reduceLeDiff, Int.reduceLE, Int.reduceLT, ↓reduceIte, Int.reduceBEq, Int.reduceBNe, Int.reduceAdd, Int.reduceSub, Int.reduceMul, qFin_ret, qFin_normal, eb]; (try ((refine okTr_and ?_ ?_); (· rfl))))
    refine CallK.u1 (blob_ReadFixed ⟨b, (m : Int), 0, 0⟩ 4 _ k0) rfl ?_; (simp only [go_sem, Nat.reduceAdd, Nat.reduceMul, Int.reduceToNat, Nat.reduceLeDiff, Int.reduceLE, Int.reduceLT, ↓reduceIte, Int.reduceBEq, Int.reduceBNe, Int.reduceAdd, Int.reduceSub, Int.reduceMul, qFin_ret, qFin_normal, f2]; (try ((refine okTr_and ?_ ?_); (· rfl))))
    refine CallK.u1 (blob_ReadFixed ⟨b, (m : Int) + 4, 0, 0⟩ 4 _ k4) rfl ?_; (simp only [go_sem, Nat.reduceAdd, Nat.reduceMul, Int.reduceToNat, Nat.reduceLeDiff, Int.reduceLE, Int.reduceLT, ↓reduceIte, Int.reduceBEq, Int.reduceBNe, Int.reduceAdd, Int.reduceSub, Int.reduceMul, qFin_ret, qFin_normal, f3]; (try ((refine okTr_and ?_ ?_); (· rfl))))
    refine CallK.u1 (Reader_Take ⟨b, (m : Int) + 4 + 4, 0, 0⟩ 4 _ k8.ok) rfl ?_; (simp only [go_sem, Nat.reduceAdd, Nat.reduceMul, Int.reduceToNat, Nat.reduceLeDiff, Int.reduceLE, Int.reduceLT, ↓reduceIte, Int.reduceBEq, Int.reduceBNe, Int.reduceAdd, Int.reduceSub, Int.reduceMul, qFin_ret, qFin_normal, t4, ints_u8, loht_is b3]; (try ((refine okTr_and ?_ ?_); (· rfl))))
    by_cases c1 : x3 = loht
    · have q1 : sameB x3 loht = true := by rw [c1]; exact same_self _
      rw [if_neg (by simpa using c1)] at e
      by_cases c2 : fixOf x2 = crcI x1
      · have q2 : (fixOf x2 != crcI x1) = false := by simpa using c2
        rw [if_neg (by simpa using c2)] at e
        by_cases c3 : (m : Int) < fixOf x1
        · have q3 : decide ((m : Int) < fixOf x1) = true := decide_eq_true c3
          rw [if_pos (by omega)] at e
          have em : (b.length : Int) - 12 = m := by omega
          rw [em] at e
          (simp only [go_sem, Nat.reduceAdd, Nat.reduceMul, Int.reduceToNat, Nat.reduceLeDiff, Int.reduceLE, Int.reduceLT, ↓reduceIte, Int.reduceBEq, Int.reduceBNe, Int.reduceAdd, Int.reduceSub, Int.reduceMul, qFin_ret, qFin_normal, q1, q2, eb, wu, q3]; (try ((refine okTr_and ?_ ?_); (· rfl))))
          refine CallK.p (fault_At 3 m) ?_; (simp only [go_sem, Nat.reduceAdd, Nat.reduceMul, Int.reduceToNat, Nat.reduceLeDiff, Int.reduceLE, Int.reduceLT, ↓reduceIte, Int.reduceBEq, Int.reduceBNe, Int.reduceAdd, Int.reduceSub, Int.reduceMul, qFin_ret, qFin_normal]; (try ((refine okTr_and ?_ ?_); (· rfl))))
          ((refine FinK.fin r153 [] ?_ ?_ ?_ ?_ ?_ ?_); (· decide); (· rfl); (· simp); (· rfl); (· first | with_reducible rfl | (simp [ints_nil, ren_lit, ren_ref, ren_any, ren_agg, ren_tup, ren_sl, ren_fn, tren_none, tren_full, tren_row, oren_cells, oren_row, oren_dead, ixs_z, ixs_1, ixs_2, ixs_3, ren_ints, List.map_cons, List.map_nil, e, flt]; done) | rfl); (· simp [resAL, resA1, loadA, oneOr, ints_nil, ren_lit, ren_ref, ren_any, ren_agg, ren_tup, ren_sl, ren_fn, tren_none, tren_full, tren_row, oren_cells, oren_row, oren_dead, ixs_z, ixs_1, ixs_2, ixs_3, ren_ints, List.map_cons, List.map_nil, e, flt]))
        · have q3 : decide ((m : Int) < fixOf x1) = false := decide_eq_false c3
          rw [if_neg (by omega)] at e
          (simp only [go_sem, Nat.reduceAdd, Nat.reduceMul, Int.reduceToNat, Nat.reduceLeDiff, Int.reduceLE, Int.reduceLT, ↓reduceIte, Int.reduceBEq, Int.reduceBNe, Int.reduceAdd, Int.reduceSub, Int.reduceMul, qFin_ret, qFin_normal, q1, q2, eb, wu, q3, wi]; (try ((refine okTr_and ?_ ?_); (· rfl))))
          ((refine FinK.fin r153 [] ?_ ?_ ?_ ?_ ?_ ?_); (· decide); (· rfl); (· simp); (· rfl); (· first | with_reducible rfl | (simp [ints_nil, ren_lit, ren_ref, ren_any, ren_agg, ren_tup, ren_sl, ren_fn, tren_none, tren_full, tren_row, oren_cells, oren_row, oren_dead, ixs_z, ixs_1, ixs_2, ixs_3, ren_ints, List.map_cons, List.map_nil, e]; done) | rfl); (· simp [resAL, resA1, loadA, oneOr, ints_nil, ren_lit, ren_ref, ren_any, ren_agg, ren_tup, ren_sl, ren_fn, tren_none, tren_full, tren_row, oren_cells, oren_row, oren_dead, ixs_z, ixs_1, ixs_2, ixs_3, ren_ints, List.map_cons, List.map_nil, e]))
      · have q2 : (fixOf x2 != crcI x1) = true := by simpa using c2
        rw [if_pos c2] at e
        (simp only [go_sem, Nat.reduceAdd, Nat.reduceMul, Int.reduceToNat, Nat.reduceLeDiff, Int.reduceLE, Int.reduceLT, ↓reduceIte, Int.reduceBEq, Int.reduceBNe, Int.reduceAdd, Int.reduceSub, Int.reduceMul, qFin_ret, qFin_normal, q1, eb, q2, w4, w8]; (try ((refine okTr_and ?_ ?_); (· rfl))))
        refine CallK.p (fault_At 6 _) ?_; (simp only [go_sem, Nat.reduceAdd, Nat.reduceMul, Int.reduceToNat, Nat.reduceLeDiff, Int.reduceLE, Int.reduceLT, ↓reduceIte, Int.reduceBEq, Int.reduceBNe, Int.reduceAdd, Int.reduceSub, Int.reduceMul, qFin_ret, qFin_normal]; (try ((refine okTr_and ?_ ?_); (· rfl))))
        ((refine FinK.fin r153 [] ?_ ?_ ?_ ?_ ?_ ?_); (· decide); (· rfl); (· simp); (· rfl); (· first | with_reducible rfl | (simp [ints_nil, ren_lit, ren_ref, ren_any, ren_agg, ren_tup, ren_sl, ren_fn, tren_none, tren_full, tren_row, oren_cells, oren_row, oren_dead, ixs_z, ixs_1, ixs_2, ixs_3, ren_ints, List.map_cons, List.map_nil, e, flt]; done) | rfl); (· simp [resAL, resA1, loadA, oneOr, ints_nil, ren_lit, ren_ref, ren_any, ren_agg, ren_tup, ren_sl, ren_fn, tren_none, tren_full, tren_row, oren_cells, oren_row, oren_dead, ixs_z, ixs_1, ixs_2, ixs_3, ren_ints, List.map_cons, List.map_nil, e, flt]))
    · have q1 : sameB x3 loht = false := by simp [sameB, c1]
      rw [if_pos c1] at e
      (simp only [go_sem, Nat.reduceAdd, Nat.reduceMul, Int.reduceToNat, Nat.reduceLeDiff, Int.reduceLE, Int.reduceLT, ↓reduceIte, Int.reduceBEq, Int.reduceBNe, Int.reduceAdd, Int.reduceSub, Int.reduceMul, qFin_ret, qFin_normal, q1, w4]; (try ((refine okTr_and ?_ ?_); (· rfl))))
      refine CallK.p (fault_At 14 _) ?_; (simp only [go_sem, Nat.reduceAdd, Nat.reduceMul, Int.reduceToNat, Nat.reduceLeDiff, Int.reduceLE, Int.reduceLT, ↓reduceIte, Int.reduceBEq, Int.reduceBNe, Int.reduceAdd, Int.reduceSub, Int.reduceMul, qFin_ret, qFin_normal]; (try ((refine okTr_and ?_ ?_); (· rfl))))
      ((refine FinK.fin r153 [] ?_ ?_ ?_ ?_ ?_ ?_); (· decide); (· rfl); (· simp); (· rfl); (· first | with_reducible rfl | (simp [ints_nil, ren_lit, ren_ref, ren_any, ren_agg, ren_tup, ren_sl, ren_fn, tren_none, tren_full, tren_row, oren_cells, oren_row, oren_dead, ixs_z, ixs_1, ixs_2, ixs_3, ren_ints, List.map_cons, List.map_nil, e, flt]; done) | rfl); (· simp [resAL, resA1, loadA, oneOr, ints_nil, ren_lit, ren_ref, ren_any, ren_agg, ren_tup, ren_sl, ren_fn, tren_none, tren_full, tren_row, oren_cells, oren_row, oren_dead, ixs_z, ixs_1, ixs_2, ixs_3, ren_ints, List.map_cons, List.map_nil, e, flt]))
theorem footer_size (b : List Int) (hb : Bys b) (hn : b.length ≤ 140737488355328) : Ct Try.prog 153 [slA .u8 b] [] (fun _ => .tup [iA (sizeT b).1, fltA (sizeT b).2]) [] (fun _ => []) := (footer_size0 b hb hn).toCt (by intros; simp [ints_nil, ren_lit, ren_ref, ren_any, ren_agg, ren_tup, ren_sl, ren_fn, tren_none, tren_full, tren_row, oren_cells, oren_row, oren_dead, ixs_z, ixs_1, ixs_2, ixs_3, ren_ints, List.map_cons, List.map_nil, ixs, List.range'_succ, ren_ints]) (by intros; simp [ints_nil, ren_lit, ren_ref, ren_any, ren_agg, ren_tup, ren_sl, ren_fn, tren_none, tren_full, tren_row, oren_cells, oren_row, oren_dead, ixs_z, ixs_1, ixs_2, ixs_3, ren_ints, List.map_cons, List.map_nil, ixs, List.range'_succ, ren_ints])
end Go.Proofs.Ytkhnfleejgfhgaa
