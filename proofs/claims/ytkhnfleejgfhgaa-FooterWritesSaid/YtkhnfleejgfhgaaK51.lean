/-
  Contracts of footer.Find, and of the reference's.
-/
import Derived.Test.YtkhnfleejgfhgaaK50
set_option linter.all false
set_option linter.unusedSimpArgs false
set_option linter.unusedVariables false
set_option linter.unnecessarySimpa false
namespace Go.Proofs.Ytkhnfleejgfhgaa
open Go.RowKit

set_option maxHeartbeats 4000000 in
set_option maxRecDepth 100000 in
theorem footer_Find0 (b : List Int) (hb : Bys b) (hn : b.length ≤ 100000000) : Does Try.prog 85 [slA .u8 b] [] (.tup [ftA (findFt b).1, iA (findFt b).2.1, fltA (findFt b).2.2]) [] := by
  have hsz := fun h => sizeT_good hb h
  obtain ⟨S, hS⟩ : ∃ S, sizeT b = S := ⟨_, rfl⟩
  have e : findFt b = if S.2.1 = 0 then findAt b (b.length - 12 - S.1.toNat) (b.length - 12) else (ft0, 0, S.2) := by unfold findFt; rw [hS]
  rw [hS] at hsz
  by_cases hs : S.2.1 = 0
  · have q : (S.2.1 == 0) = true := by simpa using hs
    rw [if_pos hs] at e
    obtain ⟨z1, z2, z3, z4, _⟩ := hsz hs
    obtain ⟨m, hm⟩ : ∃ m : Nat, b.length = m + 12 := ⟨b.length - 12, by omega⟩
    obtain ⟨x, hx⟩ : ∃ x : Nat, S.1 = (x : Int) := ⟨S.1.toNat, by omega⟩
    rw [hx, Int.toNat_natCast] at e
    obtain ⟨a, ha⟩ : ∃ a : Nat, m = a + x := ⟨m - x, by omega⟩
    have ha' : m - x = a := by omega
    have hm2 : b.length - 12 = m := by omega
    obtain ⟨seg, hseg⟩ : ∃ seg, (b.take m).drop a = seg := ⟨_, rfl⟩
    have lseg : seg.length = x := by rw [← hseg, List.length_drop, List.length_take]; omega
    have bseg : Bys seg := fun y hy => hb y (by rw [← hseg] at hy; exact List.mem_of_mem_take (List.mem_of_mem_drop hy))
    have kseg : ROk (RS.new seg) := ROk.new bseg (by omega)
    have hfa := (Fa.new seg).frame kseg 2097152
    have hkp := frame_keep kseg 2097152
    have hfi := fun hc => frame_is kseg (m := 2097152) hc
    have hgf : getF seg 2097152 = if ((RS.new seg).frame 2097152).1.code = 0 then (((RS.new seg).frame 2097152).2, ((RS.new seg).frame 2097152).1.at_, (0, 0)) else ([], 0, (((RS.new seg).frame 2097152).1.code, ((RS.new seg).frame 2097152).1.fat)) := rfl
    have e0 : (RS.new seg).l.take (RS.new seg).at_.toNat = [] := by simp [RS.new]
    have e1 : (RS.new seg).l = seg := rfl
    unfold findAt at e
    rw [hm2, ha', hseg] at e
    obtain ⟨F, hF⟩ : ∃ F, (RS.new seg).frame 2097152 = F := ⟨_, rfl⟩
    rw [hF] at hfa hkp hgf hfi
    rw [hF] at e
    rw [e0, e1, List.nil_append] at hfi
    rw [e1] at hkp
    have hfl : F.1.l.length = x := by rw [hkp.2]; exact lseg
    have hat0 := hkp.1.at0
    have hat1 := hkp.1.at1
    have hfa1 := hfa.1
    have hfa2 := hfa.2
    have hpl : F.1.code = 0 → Bys F.2 ∧ (F.2.length : Int) + 5 ≤ F.1.at_ := fun hc => by
      obtain ⟨_, _, i3, _, i5⟩ := hfi hc
      have h1 := congrArg List.length i5
      rw [List.length_take] at h1
      have h2 := frameB_le' F.2
      exact ⟨i3, by omega⟩
    have w1 : IntKind.i64.wrap ((b.length : Int) - 12) = (m : Int) := by rw [IntWalk.i64_in _ (by omega)]; omega
    have w2 : IntKind.i64.wrap ((m : Int) - (x : Int)) = (a : Int) := by rw [IntWalk.i64_in _ (by omega)]; omega
    have hsl : ints .u8 ((b.drop (a : Int).toNat).take ((m : Int) - (a : Int)).toNat) = ints .u8 seg := by
      rw [← hseg, List.drop_take, Int.toNat_natCast, show ((m : Int) - (a : Int)).toNat = m - a by omega]
    have w3 : IntKind.i64.wrap ((a : Int) + F.1.at_) = (a : Int) + F.1.at_ := IntWalk.i64_in _ (by omega)
    have w4 : IntKind.i64.wrap (F.1.fat + (a : Int)) = F.1.fat + a := IntWalk.i64_in _ (by omega)
    refine Does.run Try.func85 b85 n85 Try.ntmps85 (by simp only [List.cons_append, List.nil_append, List.length_cons, List.length_nil, Nat.zero_add, Nat.reduceAdd, Nat.reduceSub, List.replicate]; rfl) ?_; simp only [c85, go_sem, Nat.reduceAdd, Nat.reduceMul, Int.reduceToNat, Nat.reduceLeDiff, Int.reduceLE, Int.reduceLT, ↓reduceIte, Int.reduceBEq, Int.reduceBNe, Int.reduceAdd, Int.reduceSub, Int.reduceMul, qFin_ret, qFin_normal]; (try ((refine okTr_and ?_ ?_); (· rfl)))
    refine CallK.p (footer_size b hb (by omega)) ?_; (simp only [go_sem, Nat.reduceAdd, Nat.reduceMul, Int.reduceToNat, Nat.reduceLeDiff, Int.reduceLE, Int.reduceLT, ↓reduceIte, Int.reduceBEq, Int.reduceBNe, Int.reduceAdd, Int.reduceSub, Int.reduceMul, qFin_ret, qFin_normal, hS, hx]; (try ((refine okTr_and ?_ ?_); (· rfl))))
    refine CallK.p (fault_Good S.2.1 S.2.2) ?_; (simp only [go_sem, Nat.reduceAdd, Nat.reduceMul, Int.reduceToNat, Nat.reduceLeDiff, Int.reduceLE, Int.reduceLT, ↓reduceIte, Int.reduceBEq, Int.reduceBNe, Int.reduceAdd, Int.reduceSub, Int.reduceMul, qFin_ret, qFin_normal, q]; (try ((refine okTr_and ?_ ?_); (· rfl))))
    refine CallK.p (TrailerSize) ?_; (simp only [go_sem, Nat.reduceAdd, Nat.reduceMul, Int.reduceToNat, Nat.reduceLeDiff, Int.reduceLE, Int.reduceLT, ↓reduceIte, Int.reduceBEq, Int.reduceBNe, Int.reduceAdd, Int.reduceSub, Int.reduceMul, qFin_ret, qFin_normal, ints_length, w1, w2, ints_drop, ints_take, hsl]; (try ((refine okTr_and ?_ ?_); (· rfl))))
    (repeat ((with_reducible refine And.intro ?_ ?_); (· first | with_reducible assumption | omega | with_reducible rfl | (simp only [List.length_append, List.length_cons, List.length_nil, List.length_singleton]; omega) | (simp [ints_length, okEl_eq, AV.parts]; done) | (simp [ints_length, okEl_eq, AV.parts]; omega) | rfl)))
    by_cases hc : F.1.code = 0
    · rw [if_pos hc] at hgf
      rw [if_pos hc] at e
      obtain ⟨p1, p2⟩ := hpl hc
      have hrf := readFt_fat p1 (by omega)
      obtain ⟨R, hR⟩ : ∃ R, readFt F.2 = R := ⟨_, rfl⟩
      rw [hR] at hrf
      rw [hR] at e
      have w5 : IntKind.i64.wrap ((a : Int) + F.1.at_ - 4) = (a : Int) + F.1.at_ - 4 := IntWalk.i64_in _ (by omega)
      have w6 : IntKind.i64.wrap ((a : Int) + F.1.at_ - 4 - (F.2.length : Int)) = (a : Int) + F.1.at_ - 4 - (F.2.length : Int) := IntWalk.i64_in _ (by omega)
      have w7 : IntKind.i64.wrap (R.2.2 + ((a : Int) + F.1.at_ - 4 - (F.2.length : Int))) = R.2.2 + ((a : Int) + F.1.at_ - 4 - (F.2.length : Int)) := IntWalk.i64_in _ (by omega)
      refine CallK.p (frame_Get seg 2097152 bseg (by omega) (by decide)) ?_; (simp only [go_sem, Nat.reduceAdd, Nat.reduceMul, Int.reduceToNat, Nat.reduceLeDiff, Int.reduceLE, Int.reduceLT, ↓reduceIte, Int.reduceBEq, Int.reduceBNe, Int.reduceAdd, Int.reduceSub, Int.reduceMul, qFin_ret, qFin_normal, hgf]; (try ((refine okTr_and ?_ ?_); (· rfl))))
      refine CallK.p (fault_Good 0 0) ?_; (simp only [go_sem, Nat.reduceAdd, Nat.reduceMul, Int.reduceToNat, Nat.reduceLeDiff, Int.reduceLE, Int.reduceLT, ↓reduceIte, Int.reduceBEq, Int.reduceBNe, Int.reduceAdd, Int.reduceSub, Int.reduceMul, qFin_ret, qFin_normal, beq_self_eq_true]; (try ((refine okTr_and ?_ ?_); (· rfl))))
      by_cases hlt : F.1.at_ < (x : Int)
      · have q2 : decide (F.1.at_ < (x : Int)) = true := decide_eq_true hlt
        rw [if_pos (by omega)] at e
        (simp only [go_sem, Nat.reduceAdd, Nat.reduceMul, Int.reduceToNat, Nat.reduceLeDiff, Int.reduceLE, Int.reduceLT, ↓reduceIte, Int.reduceBEq, Int.reduceBNe, Int.reduceAdd, Int.reduceSub, Int.reduceMul, qFin_ret, qFin_normal, q2, w3]; (try ((refine okTr_and ?_ ?_); (· rfl))))
        refine CallK.p (fault_At 9 ((a : Int) + F.1.at_)) ?_; (simp only [go_sem, Nat.reduceAdd, Nat.reduceMul, Int.reduceToNat, Nat.reduceLeDiff, Int.reduceLE, Int.reduceLT, ↓reduceIte, Int.reduceBEq, Int.reduceBNe, Int.reduceAdd, Int.reduceSub, Int.reduceMul, qFin_ret, qFin_normal]; (try ((refine okTr_and ?_ ?_); (· rfl))))
        ((refine FinK.fin r85 [] ?_ ?_ ?_ ?_ ?_ ?_); (· decide); (· rfl); (· simp); (· rfl); (· first | with_reducible rfl | (simp [ints_nil, ren_lit, ren_ref, ren_any, ren_agg, ren_tup, ren_sl, ren_fn, tren_none, tren_full, tren_row, oren_cells, oren_row, oren_dead, ixs_z, ixs_1, ixs_2, ixs_3, ren_ints, List.map_cons, List.map_nil, e, ft0, flt]; done) | rfl); (· simp [resAL, resA1, loadA, oneOr, ints_nil, ren_lit, ren_ref, ren_any, ren_agg, ren_tup, ren_sl, ren_fn, tren_none, tren_full, tren_row, oren_cells, oren_row, oren_dead, ixs_z, ixs_1, ixs_2, ixs_3, ren_ints, List.map_cons, List.map_nil, e, ft0, flt]))
      · have q2 : decide (F.1.at_ < (x : Int)) = false := decide_eq_false hlt
        rw [if_neg (by omega)] at e
        (simp only [go_sem, Nat.reduceAdd, Nat.reduceMul, Int.reduceToNat, Nat.reduceLeDiff, Int.reduceLE, Int.reduceLT, ↓reduceIte, Int.reduceBEq, Int.reduceBNe, Int.reduceAdd, Int.reduceSub, Int.reduceMul, qFin_ret, qFin_normal, q2]; (try ((refine okTr_and ?_ ?_); (· rfl))))
        refine CallK.p (footer_ReadPayload F.2 p1 (by omega)) ?_; (simp only [go_sem, Nat.reduceAdd, Nat.reduceMul, Int.reduceToNat, Nat.reduceLeDiff, Int.reduceLE, Int.reduceLT, ↓reduceIte, Int.reduceBEq, Int.reduceBNe, Int.reduceAdd, Int.reduceSub, Int.reduceMul, qFin_ret, qFin_normal, hR]; (try ((refine okTr_and ?_ ?_); (· rfl))))
        refine CallK.p (fault_Good R.2.1 R.2.2) ?_
        by_cases hz : R.2.1 = 0
        · have q3 : (R.2.1 == 0) = true := by simpa using hz
          rw [if_pos hz] at e
          (simp only [go_sem, Nat.reduceAdd, Nat.reduceMul, Int.reduceToNat, Nat.reduceLeDiff, Int.reduceLE, Int.reduceLT, ↓reduceIte, Int.reduceBEq, Int.reduceBNe, Int.reduceAdd, Int.reduceSub, Int.reduceMul, qFin_ret, qFin_normal, q3]; (try ((refine okTr_and ?_ ?_); (· rfl))))
          ((refine FinK.fin r85 [] ?_ ?_ ?_ ?_ ?_ ?_); (· decide); (· rfl); (· simp); (· rfl); (· first | with_reducible rfl | (simp [ints_nil, ren_lit, ren_ref, ren_any, ren_agg, ren_tup, ren_sl, ren_fn, tren_none, tren_full, tren_row, oren_cells, oren_row, oren_dead, ixs_z, ixs_1, ixs_2, ixs_3, ren_ints, List.map_cons, List.map_nil, e]; done) | rfl); (· simp [resAL, resA1, loadA, oneOr, ints_nil, ren_lit, ren_ref, ren_any, ren_agg, ren_tup, ren_sl, ren_fn, tren_none, tren_full, tren_row, oren_cells, oren_row, oren_dead, ixs_z, ixs_1, ixs_2, ixs_3, ren_ints, List.map_cons, List.map_nil, e]))
        · have q3 : (R.2.1 == 0) = false := by simpa using hz
          rw [if_neg hz] at e
          (simp only [go_sem, Nat.reduceAdd, Nat.reduceMul, Int.reduceToNat, Nat.reduceLeDiff, Int.reduceLE, Int.reduceLT, ↓reduceIte, Int.reduceBEq, Int.reduceBNe, Int.reduceAdd, Int.reduceSub, Int.reduceMul, qFin_ret, qFin_normal, q3, ints_length, w3, w5, w6]; (try ((refine okTr_and ?_ ?_); (· rfl))))
          refine CallK.p (fault_Shift R.2.1 R.2.2 _ _ w7) ?_; (simp only [go_sem, Nat.reduceAdd, Nat.reduceMul, Int.reduceToNat, Nat.reduceLeDiff, Int.reduceLE, Int.reduceLT, ↓reduceIte, Int.reduceBEq, Int.reduceBNe, Int.reduceAdd, Int.reduceSub, Int.reduceMul, qFin_ret, qFin_normal]; (try ((refine okTr_and ?_ ?_); (· rfl))))
          ((refine FinK.fin r85 [] ?_ ?_ ?_ ?_ ?_ ?_); (· decide); (· rfl); (· simp); (· rfl); (· first | with_reducible rfl | (simp [ints_nil, ren_lit, ren_ref, ren_any, ren_agg, ren_tup, ren_sl, ren_fn, tren_none, tren_full, tren_row, oren_cells, oren_row, oren_dead, ixs_z, ixs_1, ixs_2, ixs_3, ren_ints, List.map_cons, List.map_nil, e, ft0, flt, hz]; done) | rfl); (· simp [resAL, resA1, loadA, oneOr, ints_nil, ren_lit, ren_ref, ren_any, ren_agg, ren_tup, ren_sl, ren_fn, tren_none, tren_full, tren_row, oren_cells, oren_row, oren_dead, ixs_z, ixs_1, ixs_2, ixs_3, ren_ints, List.map_cons, List.map_nil, e, ft0, flt, hz]))
    · rw [if_neg hc] at hgf
      rw [if_neg hc] at e
      have q2 : (F.1.code == 0) = false := by simpa using hc
      refine CallK.p (frame_Get seg 2097152 bseg (by omega) (by decide)) ?_; (simp only [go_sem, Nat.reduceAdd, Nat.reduceMul, Int.reduceToNat, Nat.reduceLeDiff, Int.reduceLE, Int.reduceLT, ↓reduceIte, Int.reduceBEq, Int.reduceBNe, Int.reduceAdd, Int.reduceSub, Int.reduceMul, qFin_ret, qFin_normal, hgf]; (try ((refine okTr_and ?_ ?_); (· rfl))))
      refine CallK.p (fault_Good F.1.code F.1.fat) ?_; (simp only [go_sem, Nat.reduceAdd, Nat.reduceMul, Int.reduceToNat, Nat.reduceLeDiff, Int.reduceLE, Int.reduceLT, ↓reduceIte, Int.reduceBEq, Int.reduceBNe, Int.reduceAdd, Int.reduceSub, Int.reduceMul, qFin_ret, qFin_normal, q2]; (try ((refine okTr_and ?_ ?_); (· rfl))))
      refine CallK.p (fault_Shift F.1.code F.1.fat a _ w4) ?_; (simp only [go_sem, Nat.reduceAdd, Nat.reduceMul, Int.reduceToNat, Nat.reduceLeDiff, Int.reduceLE, Int.reduceLT, ↓reduceIte, Int.reduceBEq, Int.reduceBNe, Int.reduceAdd, Int.reduceSub, Int.reduceMul, qFin_ret, qFin_normal]; (try ((refine okTr_and ?_ ?_); (· rfl))))
      ((refine FinK.fin r85 [] ?_ ?_ ?_ ?_ ?_ ?_); (· decide); (· rfl); (· simp); (· rfl); (· first | with_reducible rfl | (simp [ints_nil, ren_lit, ren_ref, ren_any, ren_agg, ren_tup, ren_sl, ren_fn, tren_none, tren_full, tren_row, oren_cells, oren_row, oren_dead, ixs_z, ixs_1, ixs_2, ixs_3, ren_ints, List.map_cons, List.map_nil, e, ft0, flt, hc]; done) | rfl); (· simp [resAL, resA1, loadA, oneOr, ints_nil, ren_lit, ren_ref, ren_any, ren_agg, ren_tup, ren_sl, ren_fn, tren_none, tren_full, tren_row, oren_cells, oren_row, oren_dead, ixs_z, ixs_1, ixs_2, ixs_3, ren_ints, List.map_cons, List.map_nil, e, ft0, flt, hc]))
  · have q : (S.2.1 == 0) = false := by simpa using hs
    rw [if_neg hs] at e
    refine Does.run Try.func85 b85 n85 Try.ntmps85 (by simp only [List.cons_append, List.nil_append, List.length_cons, List.length_nil, Nat.zero_add, Nat.reduceAdd, Nat.reduceSub, List.replicate]; rfl) ?_; simp only [c85, go_sem, Nat.reduceAdd, Nat.reduceMul, Int.reduceToNat, Nat.reduceLeDiff, Int.reduceLE, Int.reduceLT, ↓reduceIte, Int.reduceBEq, Int.reduceBNe, Int.reduceAdd, Int.reduceSub, Int.reduceMul, qFin_ret, qFin_normal]; (try ((refine okTr_and ?_ ?_); (· rfl)))
    refine CallK.p (footer_size b hb (by omega)) ?_; (simp only [go_sem, Nat.reduceAdd, Nat.reduceMul, Int.reduceToNat, Nat.reduceLeDiff, Int.reduceLE, Int.reduceLT, ↓reduceIte, Int.reduceBEq, Int.reduceBNe, Int.reduceAdd, Int.reduceSub, Int.reduceMul, qFin_ret, qFin_normal, hS]; (try ((refine okTr_and ?_ ?_); (· rfl))))
    refine CallK.p (fault_Good S.2.1 S.2.2) ?_; (simp only [go_sem, Nat.reduceAdd, Nat.reduceMul, Int.reduceToNat, Nat.reduceLeDiff, Int.reduceLE, Int.reduceLT, ↓reduceIte, Int.reduceBEq, Int.reduceBNe, Int.reduceAdd, Int.reduceSub, Int.reduceMul, qFin_ret, qFin_normal, q]; (try ((refine okTr_and ?_ ?_); (· rfl))))
    ((refine FinK.fin r85 [] ?_ ?_ ?_ ?_ ?_ ?_); (· decide); (· rfl); (· simp); (· rfl); (· first | with_reducible rfl | (simp [ints_nil, ren_lit, ren_ref, ren_any, ren_agg, ren_tup, ren_sl, ren_fn, tren_none, tren_full, tren_row, oren_cells, oren_row, oren_dead, ixs_z, ixs_1, ixs_2, ixs_3, ren_ints, List.map_cons, List.map_nil, e, ft0]; done) | rfl); (· simp [resAL, resA1, loadA, oneOr, ints_nil, ren_lit, ren_ref, ren_any, ren_agg, ren_tup, ren_sl, ren_fn, tren_none, tren_full, tren_row, oren_cells, oren_row, oren_dead, ixs_z, ixs_1, ixs_2, ixs_3, ren_ints, List.map_cons, List.map_nil, e, ft0]))
theorem footer_Find (b : List Int) (hb : Bys b) (hn : b.length ≤ 100000000) : Ct Try.prog 85 [slA .u8 b] [] (fun _ => .tup [ftA (findFt b).1, iA (findFt b).2.1, fltA (findFt b).2.2]) [] (fun _ => []) := (footer_Find0 b hb hn).toCt (by intros; simp [ints_nil, ren_lit, ren_ref, ren_any, ren_agg, ren_tup, ren_sl, ren_fn, tren_none, tren_full, tren_row, oren_cells, oren_row, oren_dead, ixs_z, ixs_1, ixs_2, ixs_3, ren_ints, List.map_cons, List.map_nil, ixs, List.range'_succ, ren_ints]) (by intros; simp [ints_nil, ren_lit, ren_ref, ren_any, ren_agg, ren_tup, ren_sl, ren_fn, tren_none, tren_full, tren_row, oren_cells, oren_row, oren_dead, ixs_z, ixs_1, ixs_2, ixs_3, ren_ints, List.map_cons, List.map_nil, ixs, List.range'_succ, ren_ints])
end Go.Proofs.Ytkhnfleejgfhgaa
