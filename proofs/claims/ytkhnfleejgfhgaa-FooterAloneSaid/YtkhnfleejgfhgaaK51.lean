/-
  Contracts of footer.Find, and of the reference's.
-/
import Derived.Test.YtkhnfleejgfhgaaK50
set_option linter.all false
set_option linter.unusedSimpArgs false
set_option linter.unusedVariables false
set_option linter.unnecessarySimpa false
namespace Go.Proofs.Ytkhnfleejgfhgaa
open Go.RowKit

set_option maxHeartbeats 4000000 in
set_option maxRecDepth 100000 in
theorem footer_Find0 (b : List Int) (hb : Bys b) (hn : b.length ≤ 100000000) : Does Try.prog 85 [slA .u8 b] [] (.tup [ftA (findFt b).1, iA (findFt b).2.1, fltA (findFt b).2.2]) [] := by
  have hsz := fun h => sizeT_good hb h
  obtain ⟨S, hS⟩ : ∃ S, sizeT b = S := ⟨_, rfl⟩
  have e : findFt b = if S.2.1 = 0 then findAt b (b.length - 12 - S.1.toNat) (b.length - 12) else (ft0, 0, S.2) := by unfold findFt; rw [hS]
  rw [hS] at hsz
  by_cases hs : S.2.1 = 0
  · have q : (S.2.1 == 0) = true := by simpa using hs
    rw [if_pos hs] at e
    obtain ⟨z1, z2, z3, z4, _⟩ := hsz hs
    obtain ⟨m, hm⟩ : ∃ m : Nat, b.length = m + 12 := ⟨b.length - 12, by omega⟩
    obtain ⟨x, hx⟩ : ∃ x : Nat, S.1 = (x : Int) := ⟨S.1.toNat, by omega⟩
    rw [hx, Int.toNat_natCast] at e
    obtain ⟨a, ha⟩ : ∃ a : Nat, m = a + x := ⟨m - x, by omega⟩
    have ha' : m - x = a := by omega
    have hm2 : b.length - 12 = m := by omega
    obtain ⟨seg, hseg⟩ : ∃ seg, (b.take m).drop a = seg := ⟨_, rfl⟩
    have lseg : seg.length = x := by rw [← hseg, List.length_drop, List.length_take]; omega
    have bseg : Bys seg := fun y hy => hb y (by rw [← hseg] at hy; exact List.mem_of_mem_take (List.mem_of_mem_drop hy))
    have kseg : ROk (RS.new seg) := ROk.new bseg (by omega)
    have hfa := (Fa.new seg).frame kseg 2097152
    have hkp := frame_keep kseg 2097152
    have hfi := fun hc => frame_is kseg (m := 2097152) hc
    have hgf : getF seg 2097152 = if ((RS.new seg).frame 2097152).1.code = 0 then (((RS.new seg).frame 2097152).2, ((RS.new seg).frame 2097152).1.at_, (0, 0)) else ([], 0, (((RS.new seg).frame 2097152).1.code, ((RS.new seg).frame 2097152).1.fat)) := rfl
    have e0 : (RS.new seg).l.take (RS.new seg).at_.toNat = [] := by simp [RS.new]
    have e1 : (RS.new seg).l = seg := rfl
    unfold findAt at e
    rw [hm2, ha', hseg] at e
    obtain ⟨F, hF⟩ : ∃ F, (RS.new seg).frame 2097152 = F := ⟨_, rfl⟩
    rw [hF] at hfa hkp hgf hfi
    rw [hF] at e
    rw [e0, e1, List.nil_append] at hfi
    rw [e1] at hkp
    have hfl : F.1.l.length = x := by rw [hkp.2]; exact lseg
    have hat0 := hkp.1.at0
    have hat1 := hkp.1.at1
    have hfa1 := hfa.1
    have hfa2 := hfa.2
    have hpl : F.1.code = 0 → Bys F.2 ∧ (F.2.length : Int) + 5 ≤ F.1.at_ := fun hc => by
      obtain ⟨_, _, i3, _, i5⟩ := hfi hc
      have h1 := congrArg List.length i5
      rw [List.length_take] at h1
      have h2 := frameB_le' F.2
      exact ⟨i3, by omega⟩
    have w1 : IntKind.i64.wrap ((b.length : Int) - 12) = (m : Int) := by rw [IntWalk.i64_in _ (by omega)]; omega
    have w2 : IntKind.i64.wrap ((m : Int) - (x : Int)) = (a : Int) := by rw [IntWalk.i64_in _ (by omega)]; omega
    have hsl : ints .u8 ((b.drop (a : Int).toNat).take ((m : Int) - (a : Int)).toNat) = ints .u8 seg := by
      rw [← hseg, List.drop_take, Int.toNat_natCast, show ((m : Int) - (a : Int)).toNat = m - a by omega]
    have w3 : IntKind.i64.wrap ((a : Int) + F.1.at_) = (a : Int) + F.1.at_ := IntWalk.i64_in _ (by omega)
    have w4 : IntKind.i64.wrap (F.1.fat + (a : Int)) = F.1.fat + a := IntWalk.i64_in _ (by omega)
    refine Does.run Try.func85 b85 n85 Try.ntmps85 (by simp only [List.cons_append, List.nil_append, List.length_cons, List.length_nil, Nat.zero_add, Nat.reduceAdd, Nat.reduceSub, List.replicate]; rfl) ?_; simp only [c85, go_sem, Nat.reduceAdd, Nat.reduceMul, Int.reduceToNat, Nat.reduceLeDiff, Int.reduceLE, Int.reduceLT, ↓reduceIte, Int.reduceBEq, Int.reduceBNe, Int.reduceAdd, Int.reduceSub, Int.reduceMul, qFin_ret, qFin_normal]; (try ((refine okTr_and ?_ ?_); (· rfl)))
    refine CallK.p (footer_size b hb (by omega)) ?_; (simp only [go_sem, Nat.reduceAdd, Nat.reduceMul, Int.reduceToNat, Nat.reduceLeDiff, Int.reduceLE, Int.reduceLT, ↓reduceIte, Int.reduceBEq, Int.reduceBNe, Int.reduceAdd, Int.reduceSub, Int.reduceMul, qFin_ret, qFin_normal, hS, hx]; (try ((refine okTr_and ?_ ?_); (· rfl))))
    refine CallK.p (fault_Good S.2.1 S.2.2) ?_; (simp only [go_sem, Nat.reduceAdd, Nat.reduceMul, Int.reduceToNat, Nat.reduceLeDiff, Int.reduceLE, Int.reduceLT, ↓reduceIte, Int.reduceBEq, Int.reduceBNe, Int.reduceAdd, Int.reduceSub, Int.reduceMul, qFin_ret, qFin_normal, q]; (try ((refine okTr_and ?_ ?_); (· rfl))))
    refine CallK.p (TrailerSize) ?_; (simp only [go_sem, Nat.reduceAdd, Nat.reduceMul, Int.reduceToNat, Nat.reduceLeDiff, Int.reduceLE, Int.reduceLT, ↓reduceIte, Int.reduceBEq, Int.reduceBNe, Int.reduceAdd, Int.reduceSub, Int.reduceMul, qFin_ret, qFin_normal, ints_length, w1, w2, ints_drop, ints_take, hsl]; (try ((refine okTr_and ?_ ?_); (· rfl))))
    (repeat ((with_reducible refine And.intro ?_ ?_); (· first | with_reducible assumption | omega | with_reducible rfl | (simp only [List.length_append, List.length_cons, List.length_nil, List.length_singleton]; omega) | (simp [ints_length, okEl_eq, AV.parts]; done) | (simp [ints_length, okEl_eq, AV.parts]; omega) | rfl)))
    by_cases hc : F.1.code = 0
    · rw [if_pos hc] at hgf
      rw [if_pos hc] at e
      obtain ⟨p1, p2⟩ := hpl hc
      have hrf := readFt_fat p1 (by omega)
      obtain ⟨R, hR⟩ : ∃ R, readFt F.2 = R := ⟨_, rfl⟩
      rw [hR] at hrf
      rw [hR] at e
      have w5 : IntKind.i64.wrap ((a : Int) + F.1.at_ - 4) = (a : Int) + F.1.at_ - 4 := IntWalk.i64_in _ (by omega)
      have w6 : IntKind.i64.wrap ((a : Int) + F.1.at_ - 4 - (F.2.length : Int)) = (a : Int) + F.1.at_ - 4 - (F.2.length : Int) := IntWalk.i64_in _ (by omega)
      have w7 : IntKind.i64.wrap (R.2.2 + ((a : Int) + F.1.at_ - 4 - (F.2.length : Int))) = R.2.2 + ((a : Int) + F.1.at_ - 4 - (F.2.length : Int)) := IntWalk.i64_in _ (by omega)
      refine CallK.p (frame_Get seg 2097152 bseg (by omega) (by decide)) ?_; (simp only [go_sem, Nat.reduceAdd, Nat.reduceMul, Int.reduceToNat, Nat.reduceLeDiff, Int.reduceLE, Int.reduceLT, ↓reduceIte, Int.reduceBEq, Int.reduceBNe, Int.reduceAdd, Int.reduceSub, Int.reduceMul, qFin_ret, qFin_normal, hgf]; (try ((refine okTr_and ?_ ?_); (· rfl))))
      refine CallK.p (fault_Good 0 0) ?_; (simp only [go_sem, Nat.reduceAdd, Nat.reduceMul, Int.reduceToNat, Nat.reduceLeDiff, Int.reduceLE, Int.reduceLT, ↓reduceIte, Int.reduceBEq, Int.reduceBNe, Int.reduceAdd, Int.reduceSub, Int.reduceMul, qFin_ret, qFin_normal, beq_self_eq_true]; (try ((refine okTr_and ?_ ?_); (· rfl))))
      by_cases hlt : F.1.at_ < (x : Int)
      · have q2 : decide (F.1.at_ < (x : Int)) = true := decide_eq_true hlt
        rw [if_pos (by omega)] at e
        (simp only [go_sem, Nat.reduceAdd, Nat.reduceMul, Int.reduceToNat, Nat.reduceLeDiff, Int.reduceLE, Int.reduceLT, ↓reduceIte, Int.reduceBEq, Int.reduceBNe, Int.reduceAdd, Int.reduceSub, Int.reduceMul, qFin_ret, qFin_normal, q2, w3]; (try ((refine okTr_and ?_ ?_); (· rfl))))
        refine CallK.p (fault_At 9 ((a : Int) + F.1.at_)) ?_; (simp only [go_sem, Nat.reduceAdd, Nat.reduceMul, Int.reduceToNat, Nat.reduceLeDiff, Int.reduceLE, Int.reduceLT, ↓reduceIte, Int.reduceBEq, Int.reduceBNe, Int.reduceAdd, Int.reduceSub, Int.reduceMul, qFin_ret, qFin_normal]; (try ((refine okTr_and ?_ ?_); (· rfl))))
        ((refine FinK.fin r85 [] ?_ ?_ ?_ ?_ ?_ ?_); (· decide); (· rfl); (· simp); (· rfl); (· first | with_reducible rfl | (simp [ints_nil, ren_lit, ren_ref, ren_any, ren_agg, ren_tup, ren_sl, ren_fn, tren_none, tren_full, tren_row, oren_cells, oren_row, oren_dead, ixs_z, ixs_1, ixs_2, ixs_3, ren_ints, List.map_cons, List.map_nil, e, ft0, flt]; done) | rfl); (· simp [resAL, resA1, loadA, oneOr, ints_nil, ren_lit, ren_ref, ren_any, ren_agg, ren_tup, ren_sl, ren_fn, tren_none, tren_full, tren_row, oren_cells, oren_row, oren_dead, ixs_z, ixs_1, ixs_2, ixs_3, ren_ints, List.map_cons, List.map_nil, e, ft0, flt]))
      · have q2 : decide (F.1.at_ < (x : Int)) = false := decide_eq_false hlt
        rw [if_neg (by omega)] at e
        (simp only [go_sem, Nat.reduceAdd, Nat.reduceMul, Int.reduceToNat, Nat.reduceLeDiff, Int.reduceLE, Int.reduceLT, ↓reduceIte, Int.reduceBEq, Int.reduceBNe, Int.reduceAdd, Int.reduceSub, Int.reduceMul, qFin_ret, qFin_normal, q2]; (try ((refine okTr_and ?_ ?_); (· rfl))))
        refine CallK.p (footer_ReadPayload F.2 p1 (by omega)) ?_; (simp only [go_sem, Nat.reduceAdd, Nat.reduceMul, Int.reduceToNat, Nat.reduceLeDiff, Int.reduceLE, Int.reduceLT, ↓reduceIte, Int.reduceBEq, Int.reduceBNe, Int.reduceAdd, Int.reduceSub, Int.reduceMul, qFin_ret, qFin_normal, hR]; (try ((refine okTr_and ?_ ?_); (· rfl))))
        refine CallK.p (fault_Good R.2.1 R.2.2) ?_
        by_cases hz : R.2.1 = 0
        · have q3 : (R.2.1 == 0) = true := by simpa using hz
          rw [if_pos hz] at e
          (simp only [go_sem, Nat.reduceAdd, Nat.reduceMul, Int.reduceToNat, Nat.reduceLeDiff, Int.reduceLE, Int.reduceLT, ↓reduceIte, Int.reduceBEq, Int.reduceBNe, Int.reduceAdd, Int.reduceSub, Int.reduceMul, qFin_ret, qFin_normal, q3]; (try ((refine okTr_and ?_ ?_); (· rfl))))
          ((refine FinK.fin r85 [] ?_ ?_ ?_ ?_ ?_ ?_); (· decide); (· rfl); (· simp); (· rfl); (· first | with_reducible rfl | (simp [ints_nil, ren_lit, ren_ref, ren_any, ren_agg, ren_tup, ren_sl, ren_fn, tren_none, tren_full, tren_row, oren_cells, oren_row, oren_dead, ixs_z, ixs_1, ixs_2, ixs_3, ren_ints, List.map_cons, List.map_nil, e]; done) | rfl); (· simp [resAL, resA1, loadA, oneOr, ints_nil, ren_lit, ren_ref, ren_any, ren_agg, ren_tup, ren_sl, ren_fn, tren_none, tren_full, tren_row, oren_cells, oren_row, oren_dead, ixs_z, ixs_1, ixs_2, ixs_3, ren_ints, List.map_cons, List.map_nil, e]))
        · have q3 : (R.2.1 == 0) = false := by simpa using hz
          rw [if_neg hz] at e
          (simp only [go_sem, Nat.reduceAdd, Nat.reduceMul, Int.reduceToNat, Nat.reduceLeDiff, Int.reduceLE, Int.reduceLT, ↓reduceIte, Int.reduceBEq, Int.reduceBNe, Int.reduceAdd, Int.reduceSub, Int.reduceMul, qFin_ret, qFin_normal, q3, ints_length, w3, w5, w6]; (try ((refine okTr_and ?_ ?_); (· rfl))))
          refine CallK.p (fault_Shift R.2.1 R.2.2 _ _ w7) ?_; (simp only [go_sem, Nat.reduceAdd, Nat.reduceMul, Int.reduceToNat, Nat.reduceLeDiff, Int.reduceLE, Int.reduceLT, ↓reduceIte, Int.reduceBEq, Int.reduceBNe, Int.reduceAdd, Int.reduceSub, Int.reduceMul, qFin_ret, qFin_normal]; (try ((refine okTr_and ?_ ?_); (· rfl))))
          ((refine FinK.fin r85 [] ?_ ?_ ?_ ?_ ?_ ?_); (· decide); (· rfl); (· simp); (· rfl); (· first | with_reducible rfl | (simp [ints_nil, ren_lit, ren_ref, ren_any, ren_agg, ren_tup, ren_sl, ren_fn, tren_none, tren_full, tren_row, oren_cells, oren_row, oren_dead, ixs_z, ixs_1, ixs_2, ixs_3, ren_ints, List.map_cons, List.map_nil, e, ft0, flt, hz]; done) | rfl); (· simp [resAL, resA1, loadA, oneOr, ints_nil, ren_lit, ren_ref, ren_any, ren_agg, ren_tup, ren_sl, ren_fn, tren_none, tren_full, tren_row, oren_cells, oren_row, oren_dead, ixs_z, ixs_1, ixs_2, ixs_3, ren_ints, List.map_cons, List.map_nil, e, ft0, flt, hz]))
    · rw [if_neg hc] at hgf
      rw [if_neg hc] at e
      have q2 : (F.1.code == 0) = false := by simpa using hc
      refine CallK.p (frame_Get seg 2097152 bseg (by omega) (by decide)) ?_; (simp only [go_sem, Nat.reduceAdd, Nat.reduceMul, Int.reduceToNat, Nat.reduceLeDiff, Int.reduceLE, Int.reduceLT, ↓reduceIte, Int.reduceBEq, Int.reduceBNe, Int.reduceAdd, Int.reduceSub, Int.reduceMul, qFin_ret, qFin_normal, hgf]; (try ((refine okTr_and ?_ ?_); (· rfl))))
      refine CallK.p (fault_Good F.1.code F.1.fat) ?_; (simp only [go_sem, Nat.reduceAdd, Nat.reduceMul, Int.reduceToNat, Nat.reduceLeDiff, Int.reduceLE, Int.reduceLT, ↓reduceIte, Int.reduceBEq, Int.reduceBNe, Int.reduceAdd, Int.reduceSub, Int.reduceMul, qFin_ret, qFin_normal, q2]; (try ((refine okTr_and ?_ ?_); (· rfl))))
      refine CallK.p (fault_Shift F.1.code F.1.fat a _ w4) ?_; (simp only [go_sem, Nat.reduceAdd, Nat.reduceMul, Int.reduceToNat, Nat.reduceLeDiff, Int.reduceLE, Int.reduceLT, ↓reduceIte, Int.reduceBEq, Int.reduceBNe, Int.reduceAdd, Int.reduceSub, Int.reduceMul, qFin_ret, qFin_normal]; (try ((refine okTr_and ?_ ?_); (· rfl))))
      ((refine FinK.fin r85 [] ?_ ?_ ?_ ?_ ?_ ?_); (· decide); (· rfl); (· simp); (· rfl); (· first | with_reducible rfl | (simp [ints_nil, ren_lit, ren_ref, ren_any, ren_agg, ren_tup, ren_sl, ren_fn, tren_none, tren_full, tren_row, oren_cells, oren_row, oren_dead, ixs_z, ixs_1, ixs_2, ixs_3, ren_ints, List.map_cons, List.map_nil, e, ft0, flt, hc]; done) | rfl); (· simp [resAL, resA1, loadA, oneOr, ints_nil, ren_lit, ren_ref, ren_any, ren_agg, ren_tup, ren_sl, ren_fn, tren_none, tren_full, tren_row, oren_cells, oren_row, oren_dead, ixs_z, ixs_1, ixs_2, ixs_3, ren_ints, List.map_cons, List.map_nil, e, ft0, flt, hc]))
  · have q : (S.2.1 == 0) = false := by simpa using hs
    rw [if_neg hs] at e
    refine Does.run Try.func85 b85 n85 Try.ntmps85 (by simp only [List.cons_append, List.nil_append, List.length_cons, List.length_nil, Nat.zero_add, Nat.reduceAdd, Nat.reduceSub, List.replicate]; rfl) ?_; simp only [c85, go_sem, Nat.reduceAdd, Nat.reduceMul, Int.reduceToNat, Nat.reduceLeDiff, Int.reduceLE, Int.reduceLT, ↓reduceIte, Int.reduceBEq, Int.reduceBNe, Int.reduceAdd, Int.reduceSub, Int.reduceMul, qFin_ret, qFin_normal]; (try ((refine okTr_and ?_ ?_); (· rfl)))
    refine CallK.p (footer_size b hb (by omega)) ?_; (simp only [go_sem, Nat.reduceAdd, Nat.reduceMul, Int.reduceToNat, Nat.reduceLeDiff, Int.reduceLE, Int.reduceLT, ↓reduceIte, Int.reduceBEq, Int.reduceBNe, Int.reduceAdd, Int.reduceSub, Int.reduceMul, qFin_ret, qFin_normal, hS]; (try ((refine okTr_and ?_ ?_); (· rfl))))
    refine CallK.p (fault_Good S.2.1 S.2.2) ?_; (simp only [go_sem, Nat.reduceAdd, Nat.reduceMul, Int.reduceToNat, Nat.reduceLeDiff, Int.reduceLE, Int.reduceLT, ↓reduceIte, Int.reduceBEq, Int.reduceBNe, Int.reduceAdd, Int.reduceSub, Int.reduceMul, qFin_ret, qFin_normal, q]; (try ((refine okTr_and ?_ ?_); (· rfl))))
    ((refine FinK.fin r85 [] ?_ ?_ ?_ ?_ ?_ ?_); (· decide); (· rfl); (· simp); (· rfl); (· first | with_reducible rfl | (simp [ints_nil, ren_lit, ren_ref, ren_any, ren_agg, ren_tup, ren_sl, ren_fn, tren_none, tren_full, tren_row, oren_cells, oren_row, oren_dead, ixs_z, ixs_1, ixs_2, ixs_3, ren_ints, List.map_cons, List.map_nil, e, ft0]; done) | rfl); (· simp [resAL, resA1, loadA, oneOr, ints_nil, ren_lit, ren_ref, ren_any, ren_agg, ren_tup, ren_sl, ren_fn, tren_none, tren_full, tren_row, oren_cells, oren_row, oren_dead, ixs_z, ixs_1, ixs_2, ixs_3, ren_ints, List.map_cons, List.map_nil, e, ft0]))
theorem footer_Find (b : List Int) (hb : Bys b) (hn : b.length ≤ 100000000) : Ct Try.prog 85 [slA .u8 b] [] (fun _ => .tup [ftA (findFt b).1, iA (findFt b).2.1, fltA (findFt b).2.2]) [] (fun _ => []) := (footer_Find0 b hb hn).toCt (by intros; simp [ints_nil, ren_lit, ren_ref, ren_any, ren_agg, ren_tup, ren_sl, ren_fn, tren_none, tren_full, tren_row, oren_cells, oren_row, oren_dead, ixs_z, ixs_1, ixs_2, ixs_3, ren_ints, List.map_cons, List.map_nil, ixs, List.range'_succ, ren_ints]) (by intros; simp [ints_nil, ren_lit, ren_ref, ren_any, ren_agg, ren_tup, ren_sl, ren_fn, tren_none, tren_full, tren_row, oren_cells, oren_row, oren_dead, ixs_z, ixs_1, ixs_2, ixs_3, ren_ints, List.map_cons, List.map_nil, ixs, List.range'_succ, ren_ints])
set_option maxHeartbeats 4000000 in
set_option maxRecDepth 100000 in
theorem ref33_Find0 (b : List Int) (hb : Bys b) (hn : b.length ≤ 100000000) : Does Try.prog 86 [slA .u8 b] [] (.tup [ftA (findFt b).1, iA (findFt b).2.1, fltA (findFt b).2.2]) [] := by
  by_cases h12 : b.length < 12
  · have q : decide ((b.length : Int) < 12) = true := decide_eq_true (by omega)
    have es : sizeT b = (0, (1, (b.length : Int))) := by unfold sizeT; rw [if_pos h12]
    have e : findFt b = (ft0, 0, (1, (b.length : Int))) := by unfold findFt; rw [es]; rfl
    refine Does.run Try.func86 b86 n86 Try.ntmps86 (by simp only [List.cons_append, List.nil_append, List.length_cons, List.length_nil, Nat.zero_add, Nat.reduceAdd, Nat.reduceSub, List.replicate]; rfl) ?_; simp only [c86, go_sem, Nat.reduceAdd, Nat.reduceMul, Int.reduceToNat, Nat.reduceLeDiff, Int.reduceLE, Int.reduceLT, ↓reduceIte, Int.reduceBEq, Int.reduceBNe, Int.reduceAdd, Int.reduceSub, Int.reduceMul, qFin_ret, qFin_normal, ints_length, q]; (try ((refine okTr_and ?_ ?_); (· rfl)))
    refine CallK.p (ref01_At 1 b.length) ?_; (simp only [go_sem, Nat.reduceAdd, Nat.reduceMul, Int.reduceToNat, Nat.reduceLeDiff, Int.reduceLE, Int.reduceLT, ↓reduceIte, Int.reduceBEq, Int.reduceBNe, Int.reduceAdd, Int.reduceSub, Int.reduceMul, qFin_ret, qFin_normal]; (try ((refine okTr_and ?_ ?_); (· rfl))))
    ((refine FinK.fin r86 [] ?_ ?_ ?_ ?_ ?_ ?_); (· decide); (· rfl); (· simp); (· rfl); (· first | with_reducible rfl | (simp [ints_nil, ren_lit, ren_ref, ren_any, ren_agg, ren_tup, ren_sl, ren_fn, tren_none, tren_full, tren_row, oren_cells, oren_row, oren_dead, ixs_z, ixs_1, ixs_2, ixs_3, ren_ints, List.map_cons, List.map_nil, e, ft0, flt]; done) | rfl); (· simp [resAL, resA1, loadA, oneOr, ints_nil, ren_lit, ren_ref, ren_any, ren_agg, ren_tup, ren_sl, ren_fn, tren_none, tren_full, tren_row, oren_cells, oren_row, oren_dead, ixs_z, ixs_1, ixs_2, ixs_3, ren_ints, List.map_cons, List.map_nil, e, ft0, flt]))
  · have q : decide ((b.length : Int) < 12) = false := decide_eq_false (by omega)
    obtain ⟨m, hm⟩ : ∃ m : Nat, b.length = m + 12 := ⟨b.length - 12, by omega⟩
    have hm' : b.length - 12 = m := by omega
    have k0 : ROk ⟨b, (m : Int), 0, 0⟩ := ⟨by show (0 : Int) ≤ m; omega, by show (m : Int) ≤ (b.length : Int); omega, by show b.length ≤ _; omega, hb⟩
    have k4 : ROk ⟨b, (m : Int) + 4, 0, 0⟩ := ⟨by show (0 : Int) ≤ m + 4; omega, by show (m : Int) + 4 ≤ (b.length : Int); omega, by show b.length ≤ _; omega, hb⟩
    have t2 := rs_take (l := b) (a := (m : Int)) (n := 4) (by decide) (by omega)
    have t3 := rs_take (l := b) (a := (m : Int) + 4) (n := 4) (by decide) (by omega)
    obtain ⟨x1, hx1⟩ : ∃ x, (b.drop m).take 4 = x := ⟨_, rfl⟩
    obtain ⟨x2, hx2⟩ : ∃ x, ((b.drop m).drop 4).take 4 = x := ⟨_, rfl⟩
    obtain ⟨x3, hx3⟩ : ∃ x, (b.drop m).drop 8 = x := ⟨_, rfl⟩
    have e2 : (b.drop (m : Int).toNat).take (4 : Int).toNat = x1 := by rw [Int.toNat_natCast]; exact hx1
    have e3 : (b.drop ((m : Int) + 4).toNat).take (4 : Int).toNat = x2 := by rw [← hx2, List.drop_drop, show ((m : Int) + 4).toNat = m + 4 by omega]; rfl
    rw [e2] at t2
    rw [e3] at t3
    have f2 : (RS.mk b (m : Int) 0 0).fixed (min (max 4 0) 8) = (⟨b, (m : Int) + 4, 0, 0⟩, fixOf x1) := by
      show (RS.mk b (m : Int) 0 0).fixed 4 = _
      unfold RS.fixed; rw [t2]
    have f3 : (RS.mk b ((m : Int) + 4) 0 0).fixed (min (max 4 0) 8) = (⟨b, (m : Int) + 4 + 4, 0, 0⟩, fixOf x2) := by
      show (RS.mk b ((m : Int) + 4) 0 0).fixed 4 = _
      unfold RS.fixed; rw [t3]
    have b1 : Bys x1 := fun y hy => hb y (by rw [← hx1] at hy; exact List.mem_of_mem_drop (List.mem_of_mem_take hy))
    have b3 : Bys x3 := fun y hy => hb y (by rw [← hx3] at hy; exact List.mem_of_mem_drop (List.mem_of_mem_drop hy))
    have lx1 : x1.length = 4 := by rw [← hx1, List.length_take, List.length_drop]; omega
    have eb := sum_u64 b1
    have hr1 := fixOf_range b1
    rw [lx1] at hr1
    have es : sizeT b = if ¬ x3 = loht then (0, (14, (b.length : Int) - 4)) else if ¬ fixOf x2 = crcI x1 then (0, (6, (b.length : Int) - 8)) else if (b.length : Int) - 12 < fixOf x1 then (0, (3, (b.length : Int) - 12)) else (fixOf x1, (0, 0)) := by
      unfold sizeT; rw [if_neg h12, hm', hx1, hx2, hx3]
    have w4 : IntKind.i64.wrap ((b.length : Int) - 4) = (m : Int) + 8 := by rw [IntWalk.i64_in _ (by omega)]; omega
    have w8 : IntKind.i64.wrap ((b.length : Int) - 8) = (m : Int) + 4 := by rw [IntWalk.i64_in _ (by omega)]; omega
    have w12 : IntKind.i64.wrap ((b.length : Int) - 12) = (m : Int) := by rw [IntWalk.i64_in _ (by omega)]; omega
    have wu : IntKind.u64.wrap (m : Int) = m := IntWalk.u64_in _ (by omega)
    have hd3 : ints .u8 (b.drop ((m : Int) + 8).toNat) = ints .u8 x3 := by rw [← hx3, List.drop_drop, show ((m : Int) + 8).toNat = m + 8 by omega]
    have hd1 : ints .u8 ((b.drop (m : Int).toNat).take ((m : Int) + 4 - (m : Int)).toNat) = ints .u8 x1 := by rw [← hx1, Int.toNat_natCast, show ((m : Int) + 4 - (m : Int)).toNat = 4 by omega]
    have b14 : (b.length : Int) - 4 = m + 8 := by omega
    have b18 : (b.length : Int) - 8 = m + 4 := by omega
    have b112 : (b.length : Int) - 12 = m := by omega
    rw [b14, b18, b112] at es
    refine Does.run Try.func86 b86 n86 Try.ntmps86 (by simp only [List.cons_append, List.nil_append, List.length_cons, List.length_nil, Nat.zero_add, Nat.reduceAdd, Nat.reduceSub, List.replicate]; rfl) ?_; simp only [c86, go_sem, Nat.reduceAdd, Nat.reduceMul, Int.reduceToNat, Nat.reduceLeDiff, Int.reduceLE, Int.reduceLT, ↓reduceIte, Int.reduceBEq, Int.reduceBNe, Int.reduceAdd, Int.reduceSub, Int.reduceMul, qFin_ret, qFin_normal, ints_length, q, w4, ints_drop, hd3, ints_u8, loht_is b3]; (try ((refine okTr_and ?_ ?_); (· rfl)))
    (repeat ((with_reducible refine And.intro ?_ ?_); (· first | with_reducible assumption | omega | with_reducible rfl | (simp only [List.length_append, List.length_cons, List.length_nil, List.length_singleton]; omega) | (simp [ints_length, okEl_eq, AV.parts]; done) | (simp [ints_length, okEl_eq, AV.parts]; omega) | rfl)))
    by_cases c1 : x3 = loht
    · have q1 : sameB x3 loht = true := by rw [c1]; exact same_self _
      rw [if_neg (by simpa using c1)] at es
      (simp only [go_sem, Nat.reduceAdd, Nat.reduceMul, Int.reduceToNat, Nat.reduceLeDiff, Int.reduceLE, Int.reduceLT, ↓reduceIte, Int.reduceBEq, Int.reduceBNe, Int.reduceAdd, Int.reduceSub, Int.reduceMul, qFin_ret, qFin_normal, q1, w8]; (try ((refine okTr_and ?_ ?_); (· rfl))))
      refine CallK.p (ref06_Fixed ⟨b, (m : Int) + 4, 0, 0⟩ 4 k4) ?_; (simp only [go_sem, Nat.reduceAdd, Nat.reduceMul, Int.reduceToNat, Nat.reduceLeDiff, Int.reduceLE, Int.reduceLT, ↓reduceIte, Int.reduceBEq, Int.reduceBNe, Int.reduceAdd, Int.reduceSub, Int.reduceMul, qFin_ret, qFin_normal, f3, ints_length, w8, w12, ints_drop, ints_take, hd1]; (try ((refine okTr_and ?_ ?_); (· rfl))))
      (repeat ((with_reducible refine And.intro ?_ ?_); (· first | with_reducible assumption | omega | with_reducible rfl | (simp only [List.length_append, List.length_cons, List.length_nil, List.length_singleton]; omega) | (simp [ints_length, okEl_eq, AV.parts]; done) | (simp [ints_length, okEl_eq, AV.parts]; omega) | rfl)))
      refine CallK.p (ref07_Sum x1 b1 (by omega)) ?_
      by_cases c2 : fixOf x2 = crcI x1
      · have q2 : (fixOf x2 != crcI x1) = false := by simpa using c2
        rw [if_neg (by simpa using c2)] at es
        (simp only [go_sem, Nat.reduceAdd, Nat.reduceMul, Int.reduceToNat, Nat.reduceLeDiff, Int.reduceLE, Int.reduceLT, ↓reduceIte, Int.reduceBEq, Int.reduceBNe, Int.reduceAdd, Int.reduceSub, Int.reduceMul, qFin_ret, qFin_normal, eb, q2, ints_length, w12]; (try ((refine okTr_and ?_ ?_); (· rfl))))
        refine CallK.p (ref06_Fixed ⟨b, (m : Int), 0, 0⟩ 4 k0) ?_
        by_cases c3 : (m : Int) < fixOf x1
        · have q3 : decide ((m : Int) < fixOf x1) = true := decide_eq_true c3
          rw [if_pos c3] at es
          have e : findFt b = (ft0, 0, (3, (m : Int))) := by unfold findFt; rw [es]; rfl
          (simp only [go_sem, Nat.reduceAdd, Nat.reduceMul, Int.reduceToNat, Nat.reduceLeDiff, Int.reduceLE, Int.reduceLT, ↓reduceIte, Int.reduceBEq, Int.reduceBNe, Int.reduceAdd, Int.reduceSub, Int.reduceMul, qFin_ret, qFin_normal, f2, ints_length, w12, wu, q3]; (try ((refine okTr_and ?_ ?_); (· rfl))))
          refine CallK.p (ref01_At 3 m) ?_; (simp only [go_sem, Nat.reduceAdd, Nat.reduceMul, Int.reduceToNat, Nat.reduceLeDiff, Int.reduceLE, Int.reduceLT, ↓reduceIte, Int.reduceBEq, Int.reduceBNe, Int.reduceAdd, Int.reduceSub, Int.reduceMul, qFin_ret, qFin_normal]; (try ((refine okTr_and ?_ ?_); (· rfl))))
          ((refine FinK.fin r86 [] ?_ ?_ ?_ ?_ ?_ ?_); (· decide); (· rfl); (· simp); (· rfl); (· first | with_reducible rfl | (simp [ints_nil, ren_lit, ren_ref, ren_any, ren_agg, ren_tup, ren_sl, ren_fn, tren_none, tren_full, tren_row, oren_cells, oren_row, oren_dead, ixs_z, ixs_1, ixs_2, ixs_3, ren_ints, List.map_cons, List.map_nil, e, ft0, flt]; done) | rfl); (· simp [resAL, resA1, loadA, oneOr, ints_nil, ren_lit, ren_ref, ren_any, ren_agg, ren_tup, ren_sl, ren_fn, tren_none, tren_full, tren_row, oren_cells, oren_row, oren_dead, ixs_z, ixs_1, ixs_2, ixs_3, ren_ints, List.map_cons, List.map_nil, e, ft0, flt]))
        · have q3 : decide ((m : Int) < fixOf x1) = false := decide_eq_false c3
          rw [if_neg c3] at es
          have e : findFt b = findAt b (b.length - 12 - (fixOf x1).toNat) (b.length - 12) := by unfold findFt; rw [es]; rfl
          (simp only [go_sem, Nat.reduceAdd, Nat.reduceMul, Int.reduceToNat, Nat.reduceLeDiff, Int.reduceLE, Int.reduceLT, ↓reduceIte, Int.reduceBEq, Int.reduceBNe, Int.reduceAdd, Int.reduceSub, Int.reduceMul, qFin_ret, qFin_normal, f2, ints_length, w12, wu, q3]; (try ((refine okTr_and ?_ ?_); (· rfl))))
          (repeat ((with_reducible refine And.intro ?_ ?_); (· first | with_reducible assumption | omega | with_reducible rfl | (simp only [List.length_append, List.length_cons, List.length_nil, List.length_singleton]; omega) | (simp [ints_length, okEl_eq, AV.parts]; done) | (simp [ints_length, okEl_eq, AV.parts]; omega) | rfl)))
          obtain ⟨x, hx⟩ : ∃ x : Nat, fixOf x1 = (x : Int) := ⟨(fixOf x1).toNat, by omega⟩
          rw [hx, Int.toNat_natCast] at e
          obtain ⟨a, ha⟩ : ∃ a : Nat, m = a + x := ⟨m - x, by omega⟩
          have ha' : m - x = a := by omega
          have hm2 : b.length - 12 = m := by omega
          obtain ⟨seg, hseg⟩ : ∃ seg, (b.take m).drop a = seg := ⟨_, rfl⟩
          have lseg : seg.length = x := by rw [← hseg, List.length_drop, List.length_take]; omega
          have bseg : Bys seg := fun y hy => hb y (by rw [← hseg] at hy; exact List.mem_of_mem_take (List.mem_of_mem_drop hy))
          have kseg : ROk (RS.new seg) := ROk.new bseg (by omega)
          have hfa := (Fa.new seg).frame kseg 2097152
          have hkp := frame_keep kseg 2097152
          have hfi := fun hc => frame_is kseg (m := 2097152) hc
          have hgf : getF seg 2097152 = if ((RS.new seg).frame 2097152).1.code = 0 then (((RS.new seg).frame 2097152).2, ((RS.new seg).frame 2097152).1.at_, (0, 0)) else ([], 0, (((RS.new seg).frame 2097152).1.code, ((RS.new seg).frame 2097152).1.fat)) := rfl
          have e0 : (RS.new seg).l.take (RS.new seg).at_.toNat = [] := by simp [RS.new]
          have e1 : (RS.new seg).l = seg := rfl
          unfold findAt at e
          rw [hm2, ha', hseg] at e
          obtain ⟨F, hF⟩ : ∃ F, (RS.new seg).frame 2097152 = F := ⟨_, rfl⟩
          rw [hF] at hfa hkp hgf hfi
          rw [hF] at e
          rw [e0, e1, List.nil_append] at hfi
          rw [e1] at hkp
          have hfl : F.1.l.length = x := by rw [hkp.2]; exact lseg
          have hat0 := hkp.1.at0
          have hat1 := hkp.1.at1
          have hfa1 := hfa.1
          have hfa2 := hfa.2
          have hpl : F.1.code = 0 → Bys F.2 ∧ (F.2.length : Int) + 5 ≤ F.1.at_ := fun hc => by
            obtain ⟨_, _, i3, _, i5⟩ := hfi hc
            have h1 := congrArg List.length i5
            rw [List.length_take] at h1
            have h2 := frameB_le' F.2
            exact ⟨i3, by omega⟩
          have wx : IntKind.i64.wrap (x : Int) = x := IntWalk.i64_in _ (by omega)
          have wa : IntKind.i64.wrap ((m : Int) - (x : Int)) = (a : Int) := by rw [IntWalk.i64_in _ (by omega)]; omega
          have htm : ints .u8 (b.take (m : Int).toNat) = ints .u8 (b.take m) := by rw [Int.toNat_natCast]
          have lm : (b.take m).length = m := by rw [List.length_take]; omega
          have lpre : ((b.take m).take a).length = a := by rw [List.length_take]; omega
          have kp : ROk ⟨b.take m, (a : Int), 0, 0⟩ := ⟨by show (0 : Int) ≤ a; omega, by show (a : Int) ≤ ((b.take m).length : Int); omega, by show (b.take m).length ≤ _; omega, fun y hy => hb y (List.mem_of_mem_take hy)⟩
          have hsh : (RS.mk (b.take m) (a : Int) 0 0).frame 2097152 = (F.1.sh ((b.take m).take a), F.2) := by
            rw [at_sh (b.take m) a (by omega), hseg, sh_frame kseg, hF]
          obtain ⟨Q, hQ⟩ : ∃ Q, F.1.sh ((b.take m).take a) = Q := ⟨_, rfl⟩
          rw [hQ] at hsh
          have Qc : Q.code = F.1.code := by rw [← hQ]; rfl
          have Qa : Q.at_ = (a : Int) + F.1.at_ := by rw [← hQ, sh_at, lpre]
          have Ql : Q.left = (x : Int) - F.1.at_ := by rw [← hQ, sh_left]; unfold RS.left; rw [hfl]
          have Qf : ¬ F.1.code = 0 → Q.fat = F.1.fat + a := fun h => by rw [← hQ]; unfold RS.sh; simp only; rw [if_neg h, lpre]
          (simp only [go_sem, Nat.reduceAdd, Nat.reduceMul, Int.reduceToNat, Nat.reduceLeDiff, Int.reduceLE, Int.reduceLT, ↓reduceIte, Int.reduceBEq, Int.reduceBNe, Int.reduceAdd, Int.reduceSub, Int.reduceMul, qFin_ret, qFin_normal, hx, wx, w12, wa, ints_length, Int.sub_zero, ints_take, htm]; (try ((refine okTr_and ?_ ?_); (· rfl))))
          (repeat ((with_reducible refine And.intro ?_ ?_); (· first | with_reducible assumption | omega | with_reducible rfl | (simp only [List.length_append, List.length_cons, List.length_nil, List.length_singleton]; omega) | (simp [ints_length, okEl_eq, AV.parts]; done) | (simp [ints_length, okEl_eq, AV.parts]; omega) | rfl)))
          refine CallK.p (ref08_Read ⟨b.take m, (a : Int), 0, 0⟩ 2097152 kp (by decide)) ?_; (simp only [go_sem, Nat.reduceAdd, Nat.reduceMul, Int.reduceToNat, Nat.reduceLeDiff, Int.reduceLE, Int.reduceLT, ↓reduceIte, Int.reduceBEq, Int.reduceBNe, Int.reduceAdd, Int.reduceSub, Int.reduceMul, qFin_ret, qFin_normal, hsh]; (try ((refine okTr_and ?_ ?_); (· rfl))))
          refine CallK.p (ref02_End Q) ?_
          by_cases hc : F.1.code = 0
          · rw [if_pos hc] at e
            by_cases hlt : F.1.at_ < (x : Int)
            · rw [if_pos (by omega)] at e
              have r1 : Q.rest9.code = 9 := by unfold RS.rest9; rw [if_pos (by omega)]; unfold RS.fail; rw [if_pos (by omega)]; rfl
              have r2 : Q.rest9.fat = (a : Int) + F.1.at_ := by unfold RS.rest9; rw [if_pos (by omega)]; unfold RS.fail; rw [if_pos (by omega), Qa]; rfl
              (simp only [go_sem, Nat.reduceAdd, Nat.reduceMul, Int.reduceToNat, Nat.reduceLeDiff, Int.reduceLE, Int.reduceLT, ↓reduceIte, Int.reduceBEq, Int.reduceBNe, Int.reduceAdd, Int.reduceSub, Int.reduceMul, qFin_ret, qFin_normal, r1, r2]; (try ((refine okTr_and ?_ ?_); (· rfl))))
              ((refine FinK.fin r86 [] ?_ ?_ ?_ ?_ ?_ ?_); (· decide); (· rfl); (· simp); (· rfl); (· first | with_reducible rfl | (simp [ints_nil, ren_lit, ren_ref, ren_any, ren_agg, ren_tup, ren_sl, ren_fn, tren_none, tren_full, tren_row, oren_cells, oren_row, oren_dead, ixs_z, ixs_1, ixs_2, ixs_3, ren_ints, List.map_cons, List.map_nil, e, ft0, r1, r2]; done) | rfl); (· simp [resAL, resA1, loadA, oneOr, ints_nil, ren_lit, ren_ref, ren_any, ren_agg, ren_tup, ren_sl, ren_fn, tren_none, tren_full, tren_row, oren_cells, oren_row, oren_dead, ixs_z, ixs_1, ixs_2, ixs_3, ren_ints, List.map_cons, List.map_nil, e, ft0, r1, r2]))
            · rw [if_neg (by omega)] at e
              have r0 : Q.rest9 = Q := by unfold RS.rest9; rw [if_neg (by omega)]
              have q9 : (Q.code != 0) = false := by rw [Qc]; simpa using hc
              obtain ⟨p1, p2⟩ := hpl hc
              have hrf := readFt_fat p1 (by omega)
              (simp only [go_sem, Nat.reduceAdd, Nat.reduceMul, Int.reduceToNat, Nat.reduceLeDiff, Int.reduceLE, Int.reduceLT, ↓reduceIte, Int.reduceBEq, Int.reduceBNe, Int.reduceAdd, Int.reduceSub, Int.reduceMul, qFin_ret, qFin_normal, r0, q9]; (try ((refine okTr_and ?_ ?_); (· rfl))))
              obtain ⟨R, hR⟩ : ∃ R, readFt F.2 = R := ⟨_, rfl⟩
              rw [hR] at hrf
              rw [hR] at e
              have v1 : IntKind.i64.wrap (R.2.2 + ((a : Int) + F.1.at_)) = R.2.2 + ((a : Int) + F.1.at_) := IntWalk.i64_in _ (by omega)
              have v2 : IntKind.i64.wrap (R.2.2 + ((a : Int) + F.1.at_) - 4) = R.2.2 + ((a : Int) + F.1.at_) - 4 := IntWalk.i64_in _ (by omega)
              have v3 : IntKind.i64.wrap (R.2.2 + ((a : Int) + F.1.at_) - 4 - (F.2.length : Int)) = R.2.2 + ((a : Int) + F.1.at_ - 4 - (F.2.length : Int)) := by rw [IntWalk.i64_in _ (by omega)]; omega
              refine CallK.p (ref33_Read F.2 p1 (by omega)) ?_
              by_cases hz : R.2.1 = 0
              · have q3 : (R.2.1 != 0) = false := by simpa using hz
                rw [if_pos hz] at e
                (simp only [go_sem, Nat.reduceAdd, Nat.reduceMul, Int.reduceToNat, Nat.reduceLeDiff, Int.reduceLE, Int.reduceLT, ↓reduceIte, Int.reduceBEq, Int.reduceBNe, Int.reduceAdd, Int.reduceSub, Int.reduceMul, qFin_ret, qFin_normal, hR, q3, ints_length, hx, wx, w12, wa]; (try ((refine okTr_and ?_ ?_); (· rfl))))
                ((refine FinK.fin r86 [] ?_ ?_ ?_ ?_ ?_ ?_); (· decide); (· rfl); (· simp); (· rfl); (· first | with_reducible rfl | (simp [ints_nil, ren_lit, ren_ref, ren_any, ren_agg, ren_tup, ren_sl, ren_fn, tren_none, tren_full, tren_row, oren_cells, oren_row, oren_dead, ixs_z, ixs_1, ixs_2, ixs_3, ren_ints, List.map_cons, List.map_nil, e]; done) | rfl); (· simp [resAL, resA1, loadA, oneOr, ints_nil, ren_lit, ren_ref, ren_any, ren_agg, ren_tup, ren_sl, ren_fn, tren_none, tren_full, tren_row, oren_cells, oren_row, oren_dead, ixs_z, ixs_1, ixs_2, ixs_3, ren_ints, List.map_cons, List.map_nil, e]))
              · have q3 : (R.2.1 != 0) = true := by simpa using hz
                rw [if_neg hz] at e
                (simp only [go_sem, Nat.reduceAdd, Nat.reduceMul, Int.reduceToNat, Nat.reduceLeDiff, Int.reduceLE, Int.reduceLT, ↓reduceIte, Int.reduceBEq, Int.reduceBNe, Int.reduceAdd, Int.reduceSub, Int.reduceMul, qFin_ret, qFin_normal, hR, q3, Qa, ints_length, v1, v2, v3]; (try ((refine okTr_and ?_ ?_); (· rfl))))
                refine CallK.p (ref01_At R.2.1 (R.2.2 + ((a : Int) + F.1.at_ - 4 - (F.2.length : Int)))) ?_; (simp only [go_sem, Nat.reduceAdd, Nat.reduceMul, Int.reduceToNat, Nat.reduceLeDiff, Int.reduceLE, Int.reduceLT, ↓reduceIte, Int.reduceBEq, Int.reduceBNe, Int.reduceAdd, Int.reduceSub, Int.reduceMul, qFin_ret, qFin_normal]; (try ((refine okTr_and ?_ ?_); (· rfl))))
                ((refine FinK.fin r86 [] ?_ ?_ ?_ ?_ ?_ ?_); (· decide); (· rfl); (· simp); (· rfl); (· first | with_reducible rfl | (simp [ints_nil, ren_lit, ren_ref, ren_any, ren_agg, ren_tup, ren_sl, ren_fn, tren_none, tren_full, tren_row, oren_cells, oren_row, oren_dead, ixs_z, ixs_1, ixs_2, ixs_3, ren_ints, List.map_cons, List.map_nil, e, ft0, flt, hz]; done) | rfl); (· simp [resAL, resA1, loadA, oneOr, ints_nil, ren_lit, ren_ref, ren_any, ren_agg, ren_tup, ren_sl, ren_fn, tren_none, tren_full, tren_row, oren_cells, oren_row, oren_dead, ixs_z, ixs_1, ixs_2, ixs_3, ren_ints, List.map_cons, List.map_nil, e, ft0, flt, hz]))
          · rw [if_neg hc] at e
            have r0 : Q.rest9 = Q := by
              unfold RS.rest9; split
              · exact fail_bad (by rw [Qc]; exact hc) _ _
              · rfl
            have q9 : (F.1.code != 0) = true := by simpa using hc
            have qf := Qf hc
            (simp only [go_sem, Nat.reduceAdd, Nat.reduceMul, Int.reduceToNat, Nat.reduceLeDiff, Int.reduceLE, Int.reduceLT, ↓reduceIte, Int.reduceBEq, Int.reduceBNe, Int.reduceAdd, Int.reduceSub, Int.reduceMul, qFin_ret, qFin_normal, r0, Qc, qf, q9]; (try ((refine okTr_and ?_ ?_); (· rfl))))
            ((refine FinK.fin r86 [] ?_ ?_ ?_ ?_ ?_ ?_); (· decide); (· rfl); (· simp); (· rfl); (· first | with_reducible rfl | (simp [ints_nil, ren_lit, ren_ref, ren_any, ren_agg, ren_tup, ren_sl, ren_fn, tren_none, tren_full, tren_row, oren_cells, oren_row, oren_dead, ixs_z, ixs_1, ixs_2, ixs_3, ren_ints, List.map_cons, List.map_nil, e, ft0, r0, Qc, qf]; done) | rfl); (· simp [resAL, resA1, loadA, oneOr, ints_nil, ren_lit, ren_ref, ren_any, ren_agg, ren_tup, ren_sl, ren_fn, tren_none, tren_full, tren_row, oren_cells, oren_row, oren_dead, ixs_z, ixs_1, ixs_2, ixs_3, ren_ints, List.map_cons, List.map_nil, e, ft0, r0, Qc, qf]))
      · have q2 : (fixOf x2 != crcI x1) = true := by simpa using c2
        rw [if_pos c2] at es
        have e : findFt b = (ft0, 0, (6, (m : Int) + 4)) := by unfold findFt; rw [es]; rfl
        (simp only [go_sem, Nat.reduceAdd, Nat.reduceMul, Int.reduceToNat, Nat.reduceLeDiff, Int.reduceLE, Int.reduceLT, ↓reduceIte, Int.reduceBEq, Int.reduceBNe, Int.reduceAdd, Int.reduceSub, Int.reduceMul, qFin_ret, qFin_normal, eb, q2, ints_length, w8]; (try ((refine okTr_and ?_ ?_); (· rfl))))
        refine CallK.p (ref01_At 6 _) ?_; (simp only [go_sem, Nat.reduceAdd, Nat.reduceMul, Int.reduceToNat, Nat.reduceLeDiff, Int.reduceLE, Int.reduceLT, ↓reduceIte, Int.reduceBEq, Int.reduceBNe, Int.reduceAdd, Int.reduceSub, Int.reduceMul, qFin_ret, qFin_normal]; (try ((refine okTr_and ?_ ?_); (· rfl))))
        ((refine FinK.fin r86 [] ?_ ?_ ?_ ?_ ?_ ?_); (· decide); (· rfl); (· simp); (· rfl); (· first | with_reducible rfl | (simp [ints_nil, ren_lit, ren_ref, ren_any, ren_agg, ren_tup, ren_sl, ren_fn, tren_none, tren_full, tren_row, oren_cells, oren_row, oren_dead, ixs_z, ixs_1, ixs_2, ixs_3, ren_ints, List.map_cons, List.map_nil, e, ft0, flt]; done) | rfl); (· simp [resAL, resA1, loadA, oneOr, ints_nil, ren_lit, ren_ref, ren_any, ren_agg, ren_tup, ren_sl, ren_fn, tren_none, tren_full, tren_row, oren_cells, oren_row, oren_dead, ixs_z, ixs_1, ixs_2, ixs_3, ren_ints, List.map_cons, List.map_nil, e, ft0, flt]))
    · have q1 : sameB x3 loht = false := by simp [sameB, c1]
      rw [if_pos c1] at es
      have e : findFt b = (ft0, 0, (14, (m : Int) + 8)) := by unfold findFt; rw [es]; rfl
      (simp only [go_sem, Nat.reduceAdd, Nat.reduceMul, Int.reduceToNat, Nat.reduceLeDiff, Int.reduceLE, Int.reduceLT, ↓reduceIte, Int.reduceBEq, Int.reduceBNe, Int.reduceAdd, Int.reduceSub, Int.reduceMul, qFin_ret, qFin_normal, q1, w4]; (try ((refine okTr_and ?_ ?_); (· rfl))))
      refine CallK.p (ref01_At 14 _) ?_; (simp only [go_sem, Nat.reduceAdd, Nat.reduceMul, Int.reduceToNat, Nat.reduceLeDiff, Int.reduceLE, Int.reduceLT, ↓reduceIte, Int.reduceBEq, Int.reduceBNe, Int.reduceAdd, Int.reduceSub, Int.reduceMul, qFin_ret, qFin_normal]; (try ((refine okTr_and ?_ ?_); (· rfl))))
      ((refine FinK.fin r86 [] ?_ ?_ ?_ ?_ ?_ ?_); (· decide); (· rfl); (· simp); (· rfl); (· first | with_reducible rfl | (simp [ints_nil, ren_lit, ren_ref, ren_any, ren_agg, ren_tup, ren_sl, ren_fn, tren_none, tren_full, tren_row, oren_cells, oren_row, oren_dead, ixs_z, ixs_1, ixs_2, ixs_3, ren_ints, List.map_cons, List.map_nil, e, ft0, flt]; done) | rfl); (· simp [resAL, resA1, loadA, oneOr, ints_nil, ren_lit, ren_ref, ren_any, ren_agg, ren_tup, ren_sl, ren_fn, tren_none, tren_full, tren_row, oren_cells, oren_row, oren_dead, ixs_z, ixs_1, ixs_2, ixs_3, ren_ints, List.map_cons, List.map_nil, e, ft0, flt]))
theorem ref33_Find (b : List Int) (hb : Bys b) (hn : b.length ≤ 100000000) : Ct Try.prog 86 [slA .u8 b] [] (fun _ => .tup [ftA (findFt b).1, iA (findFt b).2.1, fltA (findFt b).2.2]) [] (fun _ => []) := (ref33_Find0 b hb hn).toCt (by intros; simp [ints_nil, ren_lit, ren_ref, ren_any, ren_agg, ren_tup, ren_sl, ren_fn, tren_none, tren_full, tren_row, oren_cells, oren_row, oren_dead, ixs_z, ixs_1, ixs_2, ixs_3, ren_ints, List.map_cons, List.map_nil, ixs, List.range'_succ, ren_ints]) (by intros; simp [ints_nil, ren_lit, ren_ref, ren_any, ren_agg, ren_tup, ren_sl, ren_fn, tren_none, tren_full, tren_row, oren_cells, oren_row, oren_dead, ixs_z, ixs_1, ixs_2, ixs_3, ren_ints, List.map_cons, List.map_nil, ixs, List.range'_succ, ren_ints])
end Go.Proofs.Ytkhnfleejgfhgaa
