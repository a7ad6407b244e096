/-
  Chapter 8: FrameTells, FrameScans, FrameFinds.
-/
import Derived.Test.YtpjkmidjjodplaaL08
import Derived.Test.YtpjkmidjjodplaaI64
set_option linter.all false
set_option linter.unusedSimpArgs false
set_option linter.unusedVariables false
set_option linter.unnecessarySimpa false
namespace Go.Proofs.Ytpjkmidjjodplaa
open Go.RowKit

theorem frameB_drop (p : List Int) : (frameB p).drop (vb (p.length : Int)).length = p ++ lowBytes 4 (crcI p) := by
  unfold frameB blobB; rw [List.append_assoc, List.drop_left]
theorem frameB_take (p : List Int) : (frameB p).take (vb (p.length : Int)).length = vb (p.length : Int) := by
  unfold frameB blobB; rw [List.append_assoc, List.take_left]
set_option maxHeartbeats 1000000 in
set_option maxRecDepth 100000 in
theorem law_FrameTells (p r : List Int) (x y : Nat) (hp : Bys p) (hr : Bys r) (hx : x < 4294967296) (hy : y < 4294967296) : Does Try.prog 13 [slA .u8 p, slA .u8 r, .agg [wA x, wA y]] [] (bA true) [] := by
  refine Does.run Try.func13 b13 n13 Try.ntmps13 (by simp only [List.cons_append, List.nil_append, List.length_cons, List.length_nil, Nat.zero_add, Nat.reduceAdd, Nat.reduceSub, List.replicate]; rfl) ?_; simp only [c13, go_sem, Nat.reduceAdd, Nat.reduceMul, Int.reduceToNat, Nat.reduceLeDiff, Int.reduceLE, Int.reduceLT, ↓reduceIte, Int.reduceBEq, Int.reduceBNe, Int.reduceAdd, Int.reduceSub, Int.reduceMul, qFin_ret, qFin_normal, ints_length]; (try ((refine okTr_and ?_ ?_); (· rfl)))
  by_cases hl : 500 < (p.length : Int) ∨ 500 < (r.length : Int)
  · by_cases h1 : 500 < (p.length : Int)
    · have q1 : decide (500 < (p.length : Int)) = true := by simpa using h1
      (simp only [go_sem, Nat.reduceAdd, Nat.reduceMul, Int.reduceToNat, Nat.reduceLeDiff, Int.reduceLE, Int.reduceLT, ↓reduceIte, Int.reduceBEq, Int.reduceBNe, Int.reduceAdd, Int.reduceSub, Int.reduceMul, qFin_ret, qFin_normal, q1]; (try ((refine okTr_and ?_ ?_); (· rfl))))
      refine CallK.p (live08) ?_; (simp only [go_sem, Nat.reduceAdd, Nat.reduceMul, Int.reduceToNat, Nat.reduceLeDiff, Int.reduceLE, Int.reduceLT, ↓reduceIte, Int.reduceBEq, Int.reduceBNe, Int.reduceAdd, Int.reduceSub, Int.reduceMul, qFin_ret, qFin_normal]; (try ((refine okTr_and ?_ ?_); (· rfl))))
      ((refine FinK.fin r13 [] ?_ ?_ ?_ ?_ ?_ ?_); (· decide); (· rfl); (· simp); (· rfl); (· first | with_reducible rfl | (simp [ints_nil, ren_lit, ren_ref, ren_any, ren_agg, ren_tup, ren_sl, ren_fn, tren_none, tren_full, tren_row, oren_cells, oren_row, oren_dead, ixs_z, ixs_1, ixs_2, ixs_3, ren_ints, List.map_cons, List.map_nil]; done) | rfl); (· simp [resAL, resA1, loadA, oneOr, ints_nil, ren_lit, ren_ref, ren_any, ren_agg, ren_tup, ren_sl, ren_fn, tren_none, tren_full, tren_row, oren_cells, oren_row, oren_dead, ixs_z, ixs_1, ixs_2, ixs_3, ren_ints, List.map_cons, List.map_nil]))
    · have q1 : decide (500 < (p.length : Int)) = false := by simpa using h1
      have q2 : decide (500 < (r.length : Int)) = true := by simp; omega
      (simp only [go_sem, Nat.reduceAdd, Nat.reduceMul, Int.reduceToNat, Nat.reduceLeDiff, Int.reduceLE, Int.reduceLT, ↓reduceIte, Int.reduceBEq, Int.reduceBNe, Int.reduceAdd, Int.reduceSub, Int.reduceMul, qFin_ret, qFin_normal, q1, ints_length, q2]; (try ((refine okTr_and ?_ ?_); (· rfl))))
      refine CallK.p (live08) ?_; (simp only [go_sem, Nat.reduceAdd, Nat.reduceMul, Int.reduceToNat, Nat.reduceLeDiff, Int.reduceLE, Int.reduceLT, ↓reduceIte, Int.reduceBEq, Int.reduceBNe, Int.reduceAdd, Int.reduceSub, Int.reduceMul, qFin_ret, qFin_normal]; (try ((refine okTr_and ?_ ?_); (· rfl))))
      ((refine FinK.fin r13 [] ?_ ?_ ?_ ?_ ?_ ?_); (· decide); (· rfl); (· simp); (· rfl); (· first | with_reducible rfl | (simp [ints_nil, ren_lit, ren_ref, ren_any, ren_agg, ren_tup, ren_sl, ren_fn, tren_none, tren_full, tren_row, oren_cells, oren_row, oren_dead, ixs_z, ixs_1, ixs_2, ixs_3, ren_ints, List.map_cons, List.map_nil]; done) | rfl); (· simp [resAL, resA1, loadA, oneOr, ints_nil, ren_lit, ren_ref, ren_any, ren_agg, ren_tup, ren_sl, ren_fn, tren_none, tren_full, tren_row, oren_cells, oren_row, oren_dead, ixs_z, ixs_1, ixs_2, ixs_3, ren_ints, List.map_cons, List.map_nil]))
  · have q1 : decide (500 < (p.length : Int)) = false := by simp; omega
    have q2 : decide (500 < (r.length : Int)) = false := by simp; omega
    have hfl := frameB_le p
    have hfb := frameB_bys hp (by omega)
    have hm : (p.length : Int) ≤ mfr 500 := by unfold mfr; omega
    have h4 := lowBytes_len 4 (crcI p)
    have hfe : (frameB p).length = (vb (p.length : Int)).length + p.length + 4 := by rw [frameB_len]; unfold blobB; rw [List.length_append]
    have hv := vb_len (p.length : Int)
    have hdr := frameB_drop p
    have htk := frameB_take p
    have hyb : Bys (p ++ lowBytes 4 (crcI p)) := bys_app hp (lowBytes_bys 4 _)
    obtain ⟨h, hh⟩ : ∃ h, (vb (p.length : Int)).length = h := ⟨_, rfl⟩
    rw [hh] at hfe hv hdr htk
    have e0 : IntKind.i64.wrap (((frameB p).length : Int) - (p.length : Int)) = (h : Int) + 4 := by rw [IntWalk.i64_in _ (by omega)]; omega
    have e1 : IntKind.i64.wrap ((h : Int) + 4 - 4) = (h : Int) := by rw [IntWalk.i64_in _ (by omega)]; omega
    have q3 : decide ((h : Int) < 1) = false := by simp; omega
    have e2 : IntKind.i64.wrap (x : Int) = x := IntWalk.i64_in _ (by omega)
    have e3 : IntKind.i64.wrap ((p.length : Int) + 4) = ((p.length + 4 : Nat) : Int) := by rw [IntWalk.i64_in _ (by omega)]; omega
    have e4 : IntKind.i64.wrap (8 * ((p.length + 4 : Nat) : Int)) = ((8 * (p.length + 4) : Nat) : Int) := by rw [IntWalk.i64_in _ (by omega)]; omega
    have e5 : (x : Int).tmod ((8 * (p.length + 4) : Nat) : Int) = ((x % (8 * (p.length + 4)) : Nat) : Int) := by rw [Int.tmod_eq_emod_of_nonneg (by omega)]; omega
    obtain ⟨a, ha⟩ : ∃ a, x % (8 * (p.length + 4)) = a := ⟨_, rfl⟩
    rw [ha] at e5
    have ha8 : a < 8 * (p.length + 4) := by rw [← ha]; exact Nat.mod_lt _ (by omega)
    obtain ⟨z, hz⟩ : ∃ z, turnB (p ++ lowBytes 4 (crcI p)) (a : Int) y = z := ⟨_, rfl⟩
    have hzb : Bys z := by rw [← hz]; exact turnB_bys hyb _ _
    have hzl : z.length = p.length + 4 := by rw [← hz, turnB_len, List.length_append, h4]
    have hvb := vb_by (x := (p.length : Int)) (by omega) (by omega)
    have hall : Bys (vb (p.length : Int) ++ z ++ r) := bys_app (bys_app hvb hzb) hr
    have hal : (vb (p.length : Int) ++ z ++ r).length ≤ 1100 := by simp only [List.length_append]; omega
    (simp only [go_sem, Nat.reduceAdd, Nat.reduceMul, Int.reduceToNat, Nat.reduceLeDiff, Int.reduceLE, Int.reduceLT, ↓reduceIte, Int.reduceBEq, Int.reduceBNe, Int.reduceAdd, Int.reduceSub, Int.reduceMul, qFin_ret, qFin_normal, q1, ints_length, q2]; (try ((refine okTr_and ?_ ?_); (· rfl))))
    refine CallK.p (frame_Bytes p hp (by omega)) ?_; (simp only [go_sem, Nat.reduceAdd, Nat.reduceMul, Int.reduceToNat, Nat.reduceLeDiff, Int.reduceLE, Int.reduceLT, ↓reduceIte, Int.reduceBEq, Int.reduceBNe, Int.reduceAdd, Int.reduceSub, Int.reduceMul, qFin_ret, qFin_normal, ints_length, e0, e1, q3, e2, e3, e4, e5, Int.toNat_natCast, ints_drop, hdr]; (try ((refine okTr_and ?_ ?_); (· rfl))))
    (repeat ((with_reducible refine And.intro ?_ ?_); (· first | with_reducible assumption | omega | with_reducible rfl | (simp only [List.length_append, List.length_cons, List.length_nil, List.length_singleton]; omega) | (simp [ints_length, okEl_eq, AV.parts]; done) | (simp [ints_length, okEl_eq, AV.parts]; omega) | rfl)))
    refine CallK.n (ref07_Turn (p ++ lowBytes 4 (crcI p)) (a : Int) y hyb (by simp only [List.length_append]; omega) (by omega) (by omega) hy) ?_; (simp only [go_sem, Nat.reduceAdd, Nat.reduceMul, Int.reduceToNat, Nat.reduceLeDiff, Int.reduceLE, Int.reduceLT, ↓reduceIte, Int.reduceBEq, Int.reduceBNe, Int.reduceAdd, Int.reduceSub, Int.reduceMul, qFin_ret, qFin_normal, hz, ints_length, Int.toNat_natCast, ints_drop, hdr]; (try ((refine okTr_and ?_ ?_); (· rfl))))
    (repeat ((with_reducible refine And.intro ?_ ?_); (· first | with_reducible assumption | omega | with_reducible rfl | (simp only [List.length_append, List.length_cons, List.length_nil, List.length_singleton]; omega) | (simp [ints_length, okEl_eq, AV.parts]; done) | (simp [ints_length, okEl_eq, AV.parts]; omega) | rfl)))
    refine CallK.p (ref02_Same z (p ++ lowBytes 4 (crcI p)) hzb hyb) ?_
    by_cases hs : z = p ++ lowBytes 4 (crcI p)
    · have g1 := getF_own (m := 500) hp hr (by rw [List.length_append]; omega) hm
      have hfa : vb (p.length : Int) ++ z ++ r = frameB p ++ r := by rw [hs]; unfold frameB blobB; simp only [List.append_assoc]
      have r1 : (((frameB p).length : Int) == ((frameB p).length : Int)) = true := by simp
      (simp only [go_sem, Nat.reduceAdd, Nat.reduceMul, Int.reduceToNat, Nat.reduceLeDiff, Int.reduceLE, Int.reduceLT, ↓reduceIte, Int.reduceBEq, Int.reduceBNe, Int.reduceAdd, Int.reduceSub, Int.reduceMul, qFin_ret, qFin_normal, same_yes hs, ints_length, Int.toNat_natCast, Int.sub_zero, ints_take, ints_append, htk]; (try ((refine okTr_and ?_ ?_); (· rfl))))
      (repeat ((with_reducible refine And.intro ?_ ?_); (· first | with_reducible assumption | omega | with_reducible rfl | (simp only [List.length_append, List.length_cons, List.length_nil, List.length_singleton]; omega) | (simp [ints_length, okEl_eq, AV.parts]; done) | (simp [ints_length, okEl_eq, AV.parts]; omega) | rfl)))
      rw [hfa] at hall hal
      (simp only [go_sem, Nat.reduceAdd, Nat.reduceMul, Int.reduceToNat, Nat.reduceLeDiff, Int.reduceLE, Int.reduceLT, ↓reduceIte, Int.reduceBEq, Int.reduceBNe, Int.reduceAdd, Int.reduceSub, Int.reduceMul, qFin_ret, qFin_normal, hfa]; (try ((refine okTr_and ?_ ?_); (· rfl))))
      refine CallK.p (frame_Get (frameB p ++ r) 500 hall (by omega) (by decide)) ?_; (simp only [go_sem, Nat.reduceAdd, Nat.reduceMul, Int.reduceToNat, Nat.reduceLeDiff, Int.reduceLE, Int.reduceLT, ↓reduceIte, Int.reduceBEq, Int.reduceBNe, Int.reduceAdd, Int.reduceSub, Int.reduceMul, qFin_ret, qFin_normal, g1, ints_length, r1]; (try ((refine okTr_and ?_ ?_); (· rfl))))
      refine CallK.p (live08) ?_; (simp only [go_sem, Nat.reduceAdd, Nat.reduceMul, Int.reduceToNat, Nat.reduceLeDiff, Int.reduceLE, Int.reduceLT, ↓reduceIte, Int.reduceBEq, Int.reduceBNe, Int.reduceAdd, Int.reduceSub, Int.reduceMul, qFin_ret, qFin_normal]; (try ((refine okTr_and ?_ ?_); (· rfl))))
      ((refine FinK.fin r13 [] ?_ ?_ ?_ ?_ ?_ ?_); (· decide); (· rfl); (· simp); (· rfl); (· first | with_reducible rfl | (simp [ints_nil, ren_lit, ren_ref, ren_any, ren_agg, ren_tup, ren_sl, ren_fn, tren_none, tren_full, tren_row, oren_cells, oren_row, oren_dead, ixs_z, ixs_1, ixs_2, ixs_3, ren_ints, List.map_cons, List.map_nil]; done) | rfl); (· simp [resAL, resA1, loadA, oneOr, ints_nil, ren_lit, ren_ref, ren_any, ren_agg, ren_tup, ren_sl, ren_fn, tren_none, tren_full, tren_row, oren_cells, oren_row, oren_dead, ixs_z, ixs_1, ixs_2, ixs_3, ren_ints, List.map_cons, List.map_nil]))
    · have g1 := frame_turn (m := 500) (at_ := a) (d := y) hp hr hm (by rw [List.length_append]; omega) (by rw [hz]; exact hs)
      rw [hz, hh] at g1
      have hsf : sameB z (p ++ lowBytes 4 (crcI p)) = false := by simp [sameB, hs]
      have e6 : IntKind.i64.wrap ((h : Int) + (p.length : Int)) = (h : Int) + p.length := IntWalk.i64_in _ (by omega)
      (simp only [go_sem, Nat.reduceAdd, Nat.reduceMul, Int.reduceToNat, Nat.reduceLeDiff, Int.reduceLE, Int.reduceLT, ↓reduceIte, Int.reduceBEq, Int.reduceBNe, Int.reduceAdd, Int.reduceSub, Int.reduceMul, qFin_ret, qFin_normal, hsf, ints_length, Int.toNat_natCast, Int.sub_zero, ints_take, ints_append, htk]; (try ((refine okTr_and ?_ ?_); (· rfl))))
      (repeat ((with_reducible refine And.intro ?_ ?_); (· first | with_reducible assumption | omega | with_reducible rfl | (simp only [List.length_append, List.length_cons, List.length_nil, List.length_singleton]; omega) | (simp [ints_length, okEl_eq, AV.parts]; done) | (simp [ints_length, okEl_eq, AV.parts]; omega) | rfl)))
      refine CallK.p (frame_Get (vb (p.length : Int) ++ z ++ r) 500 hall (by omega) (by decide)) ?_; (simp only [go_sem, Nat.reduceAdd, Nat.reduceMul, Int.reduceToNat, Nat.reduceLeDiff, Int.reduceLE, Int.reduceLT, ↓reduceIte, Int.reduceBEq, Int.reduceBNe, Int.reduceAdd, Int.reduceSub, Int.reduceMul, qFin_ret, qFin_normal, g1, ints_length, e6, beq_self_eq_true]; (try ((refine okTr_and ?_ ?_); (· rfl))))
      (repeat ((with_reducible refine And.intro ?_ ?_); (· first | with_reducible assumption | omega | with_reducible rfl | (simp only [List.length_append, List.length_cons, List.length_nil, List.length_singleton]; omega) | (simp [ints_length, okEl_eq, AV.parts]; done) | (simp [ints_length, okEl_eq, AV.parts]; omega) | rfl)))
      refine CallK.p (live08) ?_; (simp only [go_sem, Nat.reduceAdd, Nat.reduceMul, Int.reduceToNat, Nat.reduceLeDiff, Int.reduceLE, Int.reduceLT, ↓reduceIte, Int.reduceBEq, Int.reduceBNe, Int.reduceAdd, Int.reduceSub, Int.reduceMul, qFin_ret, qFin_normal]; (try ((refine okTr_and ?_ ?_); (· rfl))))
      ((refine FinK.fin r13 [] ?_ ?_ ?_ ?_ ?_ ?_); (· decide); (· rfl); (· simp); (· rfl); (· first | with_reducible rfl | (simp [ints_nil, ren_lit, ren_ref, ren_any, ren_agg, ren_tup, ren_sl, ren_fn, tren_none, tren_full, tren_row, oren_cells, oren_row, oren_dead, ixs_z, ixs_1, ixs_2, ixs_3, ren_ints, List.map_cons, List.map_nil]; done) | rfl); (· simp [resAL, resA1, loadA, oneOr, ints_nil, ren_lit, ren_ref, ren_any, ren_agg, ren_tup, ren_sl, ren_fn, tren_none, tren_full, tren_row, oren_cells, oren_row, oren_dead, ixs_z, ixs_1, ixs_2, ixs_3, ren_ints, List.map_cons, List.map_nil]))
set_option maxHeartbeats 1000000 in
set_option maxRecDepth 100000 in
theorem law_FrameScans (b : List Int) (f m : Int) (hb : Bys b) (f1 : f < 9223372036854775808) (m1 : m < 9223372036854775808) : Does Try.prog 15 [slA .u8 b, iA f, iA m] [] (bA true) [] := by
  refine Does.run Try.func15 b15 n15 Try.ntmps15 (by simp only [List.cons_append, List.nil_append, List.length_cons, List.length_nil, Nat.zero_add, Nat.reduceAdd, Nat.reduceSub, List.replicate]; rfl) ?_; simp only [c15, go_sem, Nat.reduceAdd, Nat.reduceMul, Int.reduceToNat, Nat.reduceLeDiff, Int.reduceLE, Int.reduceLT, ↓reduceIte, Int.reduceBEq, Int.reduceBNe, Int.reduceAdd, Int.reduceSub, Int.reduceMul, qFin_ret, qFin_normal, ints_length]; (try ((refine okTr_and ?_ ?_); (· rfl)))
  by_cases hl : 300 < (b.length : Int)
  · have q1 : decide (300 < (b.length : Int)) = true := by simpa using hl
    (simp only [go_sem, Nat.reduceAdd, Nat.reduceMul, Int.reduceToNat, Nat.reduceLeDiff, Int.reduceLE, Int.reduceLT, ↓reduceIte, Int.reduceBEq, Int.reduceBNe, Int.reduceAdd, Int.reduceSub, Int.reduceMul, qFin_ret, qFin_normal, q1]; (try ((refine okTr_and ?_ ?_); (· rfl))))
    refine CallK.p (live08) ?_; (simp only [go_sem, Nat.reduceAdd, Nat.reduceMul, Int.reduceToNat, Nat.reduceLeDiff, Int.reduceLE, Int.reduceLT, ↓reduceIte, Int.reduceBEq, Int.reduceBNe, Int.reduceAdd, Int.reduceSub, Int.reduceMul, qFin_ret, qFin_normal]; (try ((refine okTr_and ?_ ?_); (· rfl))))
    ((refine FinK.fin r15 [] ?_ ?_ ?_ ?_ ?_ ?_); (· decide); (· rfl); (· simp); (· rfl); (· first | with_reducible rfl | (simp [ints_nil, ren_lit, ren_ref, ren_any, ren_agg, ren_tup, ren_sl, ren_fn, tren_none, tren_full, tren_row, oren_cells, oren_row, oren_dead, ixs_z, ixs_1, ixs_2, ixs_3, ren_ints, List.map_cons, List.map_nil]; done) | rfl); (· simp [resAL, resA1, loadA, oneOr, ints_nil, ren_lit, ren_ref, ren_any, ren_agg, ren_tup, ren_sl, ren_fn, tren_none, tren_full, tren_row, oren_cells, oren_row, oren_dead, ixs_z, ixs_1, ixs_2, ixs_3, ren_ints, List.map_cons, List.map_nil]))
  · have q1 : decide (300 < (b.length : Int)) = false := by simpa using hl
    obtain ⟨L, hL⟩ : ∃ L, scanF b m 0 = L := ⟨_, rfl⟩
    have hLl : L.length ≤ b.length + 1 := by rw [← hL]; exact scan_len b m _ 0
    have hLb : ∀ x ∈ L, 0 ≤ x ∧ x < b.length := by rw [← hL]; exact scan_bys b m _ 0
    obtain ⟨N, hN⟩ : ∃ N, nextF b (max f 0).toNat m = N := ⟨_, rfl⟩
    have e0 := mx0 N
    have r1 : ((decide (0 ≤ N)) == (decide (0 ≤ N))) = true := by simp
    (simp only [go_sem, Nat.reduceAdd, Nat.reduceMul, Int.reduceToNat, Nat.reduceLeDiff, Int.reduceLE, Int.reduceLT, ↓reduceIte, Int.reduceBEq, Int.reduceBNe, Int.reduceAdd, Int.reduceSub, Int.reduceMul, qFin_ret, qFin_normal, q1]; (try ((refine okTr_and ?_ ?_); (· rfl))))
    refine CallK.p (frame_Next b f m hb (by omega) f1 m1) ?_; (simp only [go_sem, Nat.reduceAdd, Nat.reduceMul, Int.reduceToNat, Nat.reduceLeDiff, Int.reduceLE, Int.reduceLT, ↓reduceIte, Int.reduceBEq, Int.reduceBNe, Int.reduceAdd, Int.reduceSub, Int.reduceMul, qFin_ret, qFin_normal, hN]; (try ((refine okTr_and ?_ ?_); (· rfl))))
    refine CallK.p (ref08_Next b f m hb (by omega) f1 m1) ?_; (simp only [go_sem, Nat.reduceAdd, Nat.reduceMul, Int.reduceToNat, Nat.reduceLeDiff, Int.reduceLE, Int.reduceLT, ↓reduceIte, Int.reduceBEq, Int.reduceBNe, Int.reduceAdd, Int.reduceSub, Int.reduceMul, qFin_ret, qFin_normal, hN, beq_self_eq_true, e0, bne_self_eq_false, Bool.not_true]; (try ((refine okTr_and ?_ ?_); (· rfl))))
    refine CallK.p (frame_Scan b m hb (by omega) m1) ?_; (simp only [go_sem, Nat.reduceAdd, Nat.reduceMul, Int.reduceToNat, Nat.reduceLeDiff, Int.reduceLE, Int.reduceLT, ↓reduceIte, Int.reduceBEq, Int.reduceBNe, Int.reduceAdd, Int.reduceSub, Int.reduceMul, qFin_ret, qFin_normal, hL]; (try ((refine okTr_and ?_ ?_); (· rfl))))
    refine loop_of (α := Nat × Nat) (fun a => [slA .u8 b, .any, iA m, .any, .any, .any, .any, .any, .any, .any, slA .i64 L, iA a.2, iA a.1, .any, .any, .any, .any, .any, .any, .any, .any, .any, .any, .any, .any, .any, .any, .any, .any, .any, .any, .any, .any, .any, .any, .any, .any, .any, .any, .any, .any, .any, .any, .any, .any, .any, .any, .any, .any, .any, .any, .any, .any, .any, .any, .any, .any, .any, .any, .any, .any, .any, .any, .any, .any, .any, .any, .any, .any, .any, .any, .any, .any, .any, .any, .any, .any, .any, .any, .any, .any, .any, .any, .any, .any]) (fun _ => []) (fun a => a.1 ≤ L.length ∧ a.2 ≤ 3000000 + b.length ∧ scanF b m a.2 = L.drop a.1) (fun a => L.length - a.1) (0, 0) ⟨by simp, by simp, by simpa using hL⟩ (Wk.to (by simp) (by simp [leT])) ?_
    rintro ⟨i, a⟩ ⟨hi, ha, hs⟩
    simp only at hi ha hs
    have emx : (max (a : Int) 0).toNat = a := by omega
    (simp only [go_sem, Nat.reduceAdd, Nat.reduceMul, Int.reduceToNat, Nat.reduceLeDiff, Int.reduceLE, Int.reduceLT, ↓reduceIte, Int.reduceBEq, Int.reduceBNe, Int.reduceAdd, Int.reduceSub, Int.reduceMul, qFin_ret, qFin_normal, ints_length]; (try ((refine okTr_and ?_ ?_); (· rfl))))
    by_cases hlt : i < L.length
    · have q2 : decide ((i : Int) < (L.length : Int)) = true := by simp; omega
      have ei := i64_succ i (by omega)
      have hd : L.drop i = L.getD i 0 :: L.drop (i + 1) := by rw [List.drop_eq_getElem_cons hlt]; simp [hlt]
      have hng : ¬ nextF b a m < 0 := by
        intro h
        rw [scan_end h, hd] at hs; cases hs
      rcases next_is b m _ a rfl with h1 | ⟨q, z1, z2, z3, z4⟩
      · rw [h1] at hng; exact absurd (by decide) hng
      · have hst := scan_step hb (by omega) hng
        rw [hs, hd, z1, Int.toNat_natCast] at hst
        injection hst with hs1 hs2
        have g := i64_get L i hlt
        rw [hs1, Int.toNat_natCast] at g
        have hbd : Bys (b.drop q) := fun x hx => hb x (List.mem_of_mem_drop hx)
        have hdl : (b.drop q).length ≤ 140737488355328 := by simp; omega
        have hok : ROk (RS.new (b.drop q)) := ROk.new hbd hdl
        have ecv : cv (RS.new (b.drop q)) = .agg [slA .u8 (b.drop q), iA 0, iA 0, iA 0] := rfl
        obtain ⟨w1, w2, w3⟩ := okF_whole hbd hdl z4
        have hp := whole_pos w1
        obtain ⟨W, hW⟩ : ∃ W, wholeF (b.drop q) m = W := ⟨_, rfl⟩
        rw [hW] at hs2 hp w2
        have es : IntKind.i64.wrap ((q : Int) + W) = (((q : Int) + W).toNat : Int) := by rw [IntWalk.i64_in _ (by omega)]; omega
        (simp only [go_sem, Nat.reduceAdd, Nat.reduceMul, Int.reduceToNat, Nat.reduceLeDiff, Int.reduceLE, Int.reduceLT, ↓reduceIte, Int.reduceBEq, Int.reduceBNe, Int.reduceAdd, Int.reduceSub, Int.reduceMul, qFin_ret, qFin_normal, q2, g, ints_length, Int.toNat_natCast]; (try ((refine okTr_and ?_ ?_); (· rfl))))
        (repeat ((with_reducible refine And.intro ?_ ?_); (· first | with_reducible assumption | omega | with_reducible rfl | (simp only [List.length_append, List.length_cons, List.length_nil, List.length_singleton]; omega) | (simp [ints_length, okEl_eq, AV.parts]; done) | (simp [ints_length, okEl_eq, AV.parts]; omega) | rfl)))
        refine CallK.p (ref08_Next b a m hb (by omega) (by omega) m1) ?_; (simp only [go_sem, Nat.reduceAdd, Nat.reduceMul, Int.reduceToNat, Nat.reduceLeDiff, Int.reduceLE, Int.reduceLT, ↓reduceIte, Int.reduceBEq, Int.reduceBNe, Int.reduceAdd, Int.reduceSub, Int.reduceMul, qFin_ret, qFin_normal, emx, z1, bne_self_eq_false, g, ints_length, Int.toNat_natCast, ints_drop]; (try ((refine okTr_and ?_ ?_); (· rfl))))
        (repeat ((with_reducible refine And.intro ?_ ?_); (· first | with_reducible assumption | omega | with_reducible rfl | (simp only [List.length_append, List.length_cons, List.length_nil, List.length_singleton]; omega) | (simp [ints_length, okEl_eq, AV.parts]; done) | (simp [ints_length, okEl_eq, AV.parts]; omega) | rfl)))
        refine CallK.p (ref08_Read (RS.new (b.drop q)) m hok m1) ?_; (simp only [go_sem, Nat.reduceAdd, Nat.reduceMul, Int.reduceToNat, Nat.reduceLeDiff, Int.reduceLE, Int.reduceLT, ↓reduceIte, Int.reduceBEq, Int.reduceBNe, Int.reduceAdd, Int.reduceSub, Int.reduceMul, qFin_ret, qFin_normal, g, ints_length, Int.toNat_natCast, w2, es, ei]; (try ((refine okTr_and ?_ ?_); (· rfl))))
        (repeat ((with_reducible refine And.intro ?_ ?_); (· first | with_reducible assumption | omega | with_reducible rfl | (simp only [List.length_append, List.length_cons, List.length_nil, List.length_singleton]; omega) | (simp [ints_length, okEl_eq, AV.parts]; done) | (simp [ints_length, okEl_eq, AV.parts]; omega) | rfl)))
        exact ⟨(i + 1, ((q : Int) + W).toNat), ⟨hlt, by simp only; omega, hs2.symm⟩, by simp only; omega, Wk.sel [] (by simp) rfl (by simp) rfl (by simp) (by simp [selT, ints_nil, ren_lit, ren_ref, ren_any, ren_agg, ren_tup, ren_sl, ren_fn, tren_none, tren_full, tren_row, oren_cells, oren_row, oren_dead, ixs_z, ixs_1, ixs_2, ixs_3, ren_ints, List.map_cons, List.map_nil])⟩
    · have q2 : decide ((i : Int) < (L.length : Int)) = false := by simp; omega
      have hng : nextF b a m < 0 := by
        by_cases h : nextF b a m < 0
        · exact h
        · have := scan_step hb (by omega) h
          rw [hs, List.drop_eq_nil_of_le (by omega)] at this; cases this
      have q3 : decide (nextF b a m < 0) = true := by simpa using hng
      (simp only [go_sem, Nat.reduceAdd, Nat.reduceMul, Int.reduceToNat, Nat.reduceLeDiff, Int.reduceLE, Int.reduceLT, ↓reduceIte, Int.reduceBEq, Int.reduceBNe, Int.reduceAdd, Int.reduceSub, Int.reduceMul, qFin_ret, qFin_normal, q2]; (try ((refine okTr_and ?_ ?_); (· rfl))))
      refine CallK.p (ref08_Next b a m hb (by omega) (by omega) m1) ?_; (simp only [go_sem, Nat.reduceAdd, Nat.reduceMul, Int.reduceToNat, Nat.reduceLeDiff, Int.reduceLE, Int.reduceLT, ↓reduceIte, Int.reduceBEq, Int.reduceBNe, Int.reduceAdd, Int.reduceSub, Int.reduceMul, qFin_ret, qFin_normal, emx, q3]; (try ((refine okTr_and ?_ ?_); (· rfl))))
      refine CallK.p (live08) ?_; (simp only [go_sem, Nat.reduceAdd, Nat.reduceMul, Int.reduceToNat, Nat.reduceLeDiff, Int.reduceLE, Int.reduceLT, ↓reduceIte, Int.reduceBEq, Int.reduceBNe, Int.reduceAdd, Int.reduceSub, Int.reduceMul, qFin_ret, qFin_normal]; (try ((refine okTr_and ?_ ?_); (· rfl))))
      ((refine FinK.fin r15 [] ?_ ?_ ?_ ?_ ?_ ?_); (· decide); (· rfl); (· simp); (· rfl); (· first | with_reducible rfl | (simp [ints_nil, ren_lit, ren_ref, ren_any, ren_agg, ren_tup, ren_sl, ren_fn, tren_none, tren_full, tren_row, oren_cells, oren_row, oren_dead, ixs_z, ixs_1, ixs_2, ixs_3, ren_ints, List.map_cons, List.map_nil]; done) | rfl); (· simp [resAL, resA1, loadA, oneOr, ints_nil, ren_lit, ren_ref, ren_any, ren_agg, ren_tup, ren_sl, ren_fn, tren_none, tren_full, tren_row, oren_cells, oren_row, oren_dead, ixs_z, ixs_1, ixs_2, ixs_3, ren_ints, List.map_cons, List.map_nil]))
end Go.Proofs.Ytpjkmidjjodplaa
