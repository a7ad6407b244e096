/-
  Contracts of chapter 32: marks read.
  Contracts of chapter 32: how many entries, from where to where, the mark of a position, gaps; live.
  Contracts of chapter 32: the next position of a mark; live.
-/
import Derived.Test.YtgphhganepjaiaaQ6
import Derived.Test.YtgphhganepjaiaaP6
set_option linter.all false
set_option linter.unusedSimpArgs false
set_option linter.unusedVariables false
set_option linter.unnecessarySimpa false
section
namespace Go.Proofs.Ytgphhganepjaiaa
open Go.RowKit

theorem markF_not {s : RS} {acc : List Mk} (hf : ¬ (s.mark (lastM acc)).fits (lastM acc).fin (lastM acc).at_) : (markF.f s acc).1 = s.m3.fail 3 s.at_ ∧ ¬ (markF.f s acc).1.code = 0 := by
  have key : (markF.f s acc).1 = s.m3.fail 3 s.at_ := by
    show (if s.m3.code = 0 ∧ ¬ (s.mark (lastM acc)).fits (lastM acc).fin (lastM acc).at_ then (s.m3.fail 3 s.at_, mk0) else (s.m3, s.mark (lastM acc))).1 = _
    by_cases hc : s.m3.code = 0
    · rw [if_pos ⟨hc, hf⟩]
    · rw [if_neg fun h => hc h.1]; unfold RS.fail; rw [if_neg hc]
  refine ⟨key, ?_⟩
  rw [key]
  by_cases hc : s.m3.code = 0
  · exact fail_not0 _ _ hc (by decide)
  · unfold RS.fail; rw [if_neg hc]; exact hc
theorem markF_fits {s : RS} {acc : List Mk} (hf : (s.mark (lastM acc)).fits (lastM acc).fin (lastM acc).at_) : markF.f s acc = (s.m3, s.mark (lastM acc)) := by
  show (if s.m3.code = 0 ∧ ¬ (s.mark (lastM acc)).fits (lastM acc).fin (lastM acc).at_ then (s.m3.fail 3 s.at_, mk0) else (s.m3, s.mark (lastM acc))) = _
  rw [if_neg fun h => h.2 hf]
theorem markF_bad {s : RS} {acc : List Mk} (hc : ¬ s.m3.code = 0) : (markF.f s acc).1 = s.m3 := by
  show (if s.m3.code = 0 ∧ ¬ (s.mark (lastM acc)).fits (lastM acc).fin (lastM acc).at_ then (s.m3.fail 3 s.at_, mk0) else (s.m3, s.mark (lastM acc))).1 = _
  rw [if_neg fun h => hc h.1]
set_option maxHeartbeats 1000000 in
set_option maxRecDepth 100000 in
theorem index_Read0 (s : RS) (hs : ROk s) (hn : s.l.length * 24 ≤ 140737488355328) : Does Try.prog 114 [.ref 0 0] [rdr s] (slM s.marks.2) [rdr (s.marks.1)] := by
  have hir := int_range (s := s) (m := 16) hs.bys
  obtain ⟨hi1, hi2⟩ := hs.int 16
  unfold RS.marks Fmt.counted
  refine Does.run Try.func114 b114 n114 Try.ntmps114 (by simp only [List.cons_append, List.nil_append, List.length_cons, List.length_nil, Nat.zero_add, Nat.reduceAdd, Nat.reduceSub, List.replicate]; rfl) ?_; simp only [c114, go_sem, Nat.reduceAdd, Nat.reduceMul, Int.reduceToNat, Nat.reduceLeDiff, Int.reduceLE, Int.reduceLT, ↓reduceIte, Int.reduceBEq, Int.reduceBNe, Int.reduceAdd, Int.reduceSub, Int.reduceMul, qFin_ret, qFin_normal]; (try ((refine okTr_and ?_ ?_); (· rfl)))
  refine CallK.u1 (varint_ReadInt s 16 0 (by decide) hs.ok hs.bys) rfl ?_
  generalize hu : (s.int 16).1 = u at *
  generalize (s.int 16).2 = z at *
  obtain ⟨N, hN⟩ : ∃ N, z.toNat = N := ⟨_, rfl⟩
  have hz : z = (N : Int) := by omega
  subst hz
  rw [Int.toNat_natCast]
  (simp only [go_sem, Nat.reduceAdd, Nat.reduceMul, Int.reduceToNat, Nat.reduceLeDiff, Int.reduceLE, Int.reduceLT, ↓reduceIte, Int.reduceBEq, Int.reduceBNe, Int.reduceAdd, Int.reduceSub, Int.reduceMul, qFin_ret, qFin_normal]; (try ((refine okTr_and ?_ ?_); (· rfl))))
  refine loop_of (α := RS × List Mk) (fun a => [.ref 0 0, .any, .any, .sl (.row 1) 3 (mks a.2), uA (lastM a.2).fin, iA (lastM a.2).at_, .any, .any, .any, .any, .any, iA N, iA a.2.length, .any, .any, .any, .any, .any, .any, .any, .any, .any, .any, .any, .any, .any, .any, .any, .any, .any, .any, .any, .any, .any, .any, .any, .any, .any, .any, .any, .any, .any, .any, .any, .any, .any, .any, .any, .any, .any, .any, .any, .any, .any, .any]) (fun a => [rdr a.1, .row 3 a.2.length]) (markF.On u N) (fun a => N - a.2.length) (u, []) (Fmt.On.start hi1 N) ((Wk.row 3 3 rfl (.inr rfl) (by decide)).trans (Wk.to (by simp) (by simp [leT, mks, lastM, mk0, Mk.fin]))) ?_
  rintro ⟨t, acc⟩ ho
  have hla := ho.len
  rw [hi2] at hla
  have h1 := ho.ok
  have h6 := ho.res
  have hw := mark_last ho.wf
  simp only at h1 h6 hw
  have hmn := mark_num h1
  have hnxF := ho.next markF_ok
  obtain ⟨p, hp⟩ : ∃ p, lastM acc = p := ⟨_, rfl⟩
  have hnot := markF_not (s := t) (acc := acc)
  have hfit := markF_fits (s := t) (acc := acc)
  rw [hp] at hw hnot hfit
  obtain ⟨w1, w2, w3, w4, w5, w6⟩ := hw
  obtain ⟨n1, n2, n3, n4, n5, n6⟩ := hmn
  have b2 := (h1.vint.1.int 16).1
  (simp only [go_sem, Nat.reduceAdd, Nat.reduceMul, Int.reduceToNat, Nat.reduceLeDiff, Int.reduceLE, Int.reduceLT, ↓reduceIte, Int.reduceBEq, Int.reduceBNe, Int.reduceAdd, Int.reduceSub, Int.reduceMul, qFin_ret, qFin_normal, hp]; (try ((refine okTr_and ?_ ?_); (· rfl))))
  refine cdK_split (fun h => ?_) (fun h => ?_)
  · have hlt : acc.length < N := by simpa using h
    have ei := i64_succ acc.length (by omega)
    have e1 : IntKind.i64.wrap (p.at_ + 1) = p.at_ + 1 := IntWalk.i64_in _ (by omega)
    have e2 : IntKind.i64.wrap (p.at_ + 1 + t.mOn) = p.at_ + t.mOn + 1 := by rw [IntWalk.i64_in _ (by omega)]; omega
    have d1 : t.vint.2 = t.mBy := rfl
    have d2 : (t.vint.1.int 16).2 = t.mCnt := rfl
    have d3 : ((t.vint.1.int 16).1.int 1099511627775).2 = t.mOn := rfl
    have d4 : ((t.vint.1.int 16).1.int 1099511627775).1 = t.m3 := rfl
    (simp only [go_sem, Nat.reduceAdd, Nat.reduceMul, Int.reduceToNat, Nat.reduceLeDiff, Int.reduceLE, Int.reduceLT, ↓reduceIte, Int.reduceBEq, Int.reduceBNe, Int.reduceAdd, Int.reduceSub, Int.reduceMul, qFin_ret, qFin_normal]; (try ((refine okTr_and ?_ ?_); (· rfl))))
    refine CallK.r1 (Reader_At t 0) rfl ?_; (simp only [go_sem, Nat.reduceAdd, Nat.reduceMul, Int.reduceToNat, Nat.reduceLeDiff, Int.reduceLE, Int.reduceLT, ↓reduceIte, Int.reduceBEq, Int.reduceBNe, Int.reduceAdd, Int.reduceSub, Int.reduceMul, qFin_ret, qFin_normal]; (try ((refine okTr_and ?_ ?_); (· rfl))))
    refine CallK.u1 (varint_Read t 0 h1.ok h1.bys) rfl ?_; (simp only [go_sem, Nat.reduceAdd, Nat.reduceMul, Int.reduceToNat, Nat.reduceLeDiff, Int.reduceLE, Int.reduceLT, ↓reduceIte, Int.reduceBEq, Int.reduceBNe, Int.reduceAdd, Int.reduceSub, Int.reduceMul, qFin_ret, qFin_normal]; (try ((refine okTr_and ?_ ?_); (· rfl))))
    refine CallK.u1 (varint_ReadInt t.vint.1 16 0 (by decide) h1.vint.1.ok h1.vint.1.bys) rfl ?_; (simp only [go_sem, Nat.reduceAdd, Nat.reduceMul, Int.reduceToNat, Nat.reduceLeDiff, Int.reduceLE, Int.reduceLT, ↓reduceIte, Int.reduceBEq, Int.reduceBNe, Int.reduceAdd, Int.reduceSub, Int.reduceMul, qFin_ret, qFin_normal, e1]; (try ((refine okTr_and ?_ ?_); (· rfl))))
    refine CallK.u1 (varint_ReadInt (t.vint.1.int 16).1 1099511627775 0 (by decide) b2.ok b2.bys) rfl ?_; (simp only [go_sem, Nat.reduceAdd, Nat.reduceMul, Int.reduceToNat, Nat.reduceLeDiff, Int.reduceLE, Int.reduceLT, ↓reduceIte, Int.reduceBEq, Int.reduceBNe, Int.reduceAdd, Int.reduceSub, Int.reduceMul, qFin_ret, qFin_normal, d1, d2, d3, d4, e2]; (try ((refine okTr_and ?_ ?_); (· rfl))))
    by_cases hby : 4611686018427387904 ≤ t.mBy
    · have q : decide (4611686018427387904 ≤ t.mBy) = true := by simpa using hby
      have hno : ¬ (t.mark p).fits p.fin p.at_ := by
        rintro ⟨f1, f2, f3, f4, f5, f6⟩
        simp only [RS.mark] at f1 f4
        omega
      obtain ⟨o1, o2⟩ := hnot hno
      have hb := many_bad (F := markF) (s := t) hlt o2
      rw [h6, o1] at hb
      rw [o1] at o2
      (simp only [go_sem, Nat.reduceAdd, Nat.reduceMul, Int.reduceToNat, Nat.reduceLeDiff, Int.reduceLE, Int.reduceLT, ↓reduceIte, Int.reduceBEq, Int.reduceBNe, Int.reduceAdd, Int.reduceSub, Int.reduceMul, qFin_ret, qFin_normal, q]; (try ((refine okTr_and ?_ ?_); (· rfl))))
      refine CallK.u1 (Reader_Fail t.m3 3 t.at_ 0) rfl ?_; (simp only [go_sem, Nat.reduceAdd, Nat.reduceMul, Int.reduceToNat, Nat.reduceLeDiff, Int.reduceLE, Int.reduceLT, ↓reduceIte, Int.reduceBEq, Int.reduceBNe, Int.reduceAdd, Int.reduceSub, Int.reduceMul, qFin_ret, qFin_normal]; (try ((refine okTr_and ?_ ?_); (· rfl))))
      refine CallK.r1 (Reader_Good _ 0) rfl ?_; (simp only [go_sem, Nat.reduceAdd, Nat.reduceMul, Int.reduceToNat, Nat.reduceLeDiff, Int.reduceLE, Int.reduceLT, ↓reduceIte, Int.reduceBEq, Int.reduceBNe, Int.reduceAdd, Int.reduceSub, Int.reduceMul, qFin_ret, qFin_normal, good_false o2]; (try ((refine okTr_and ?_ ?_); (· rfl))))
      (refine FinK.nilk 2 3 rfl ?_; simp only [List.set_cons_zero, List.set_cons_succ])
      ((refine FinK.fin r114 [0] ?_ ?_ ?_ ?_ ?_ ?_); (· decide); (· rfl); (· simp); (· rfl); (· first | with_reducible rfl | (simp [ints_nil, ren_lit, ren_ref, ren_any, ren_agg, ren_tup, ren_sl, ren_fn, tren_none, tren_full, tren_row, oren_cells, oren_row, oren_dead, ixs_z, ixs_1, ixs_2, ixs_3, ren_ints, List.map_cons, List.map_nil, hb, rdr_ren, mks_nil]; done) | rfl); (· simp [resAL, resA1, loadA, oneOr, ints_nil, ren_lit, ren_ref, ren_any, ren_agg, ren_tup, ren_sl, ren_fn, tren_none, tren_full, tren_row, oren_cells, oren_row, oren_dead, ixs_z, ixs_1, ixs_2, ixs_3, ren_ints, List.map_cons, List.map_nil, hb, rdr_ren, mks_nil]))
    · have q : decide (4611686018427387904 ≤ t.mBy) = false := by simpa using hby
      have e3 : IntKind.u64.wrap (p.fin + t.mBy) = p.fin + t.mBy := IntWalk.u64_in _ (by omega)
      have hok : (t.mark p).ok := ⟨by simp only [RS.mark]; omega, by simp only [RS.mark]; omega, by simp only [RS.mark]; omega, by simp only [RS.mark]; omega, by simp only [RS.mark]; omega, by simp only [RS.mark]; omega⟩
      (simp only [go_sem, Nat.reduceAdd, Nat.reduceMul, Int.reduceToNat, Nat.reduceLeDiff, Int.reduceLE, Int.reduceLT, ↓reduceIte, Int.reduceBEq, Int.reduceBNe, Int.reduceAdd, Int.reduceSub, Int.reduceMul, qFin_ret, qFin_normal, q, e3]; (try ((refine okTr_and ?_ ?_); (· rfl))))
      refine CallK.p (index_fits (t.mark p) p.fin p.at_ hok) ?_
      by_cases hf : (t.mark p).fits p.fin p.at_
      · have q2 : decide ((t.mark p).fits p.fin p.at_) = true := by simpa using hf
        have hff := hfit hf
        (simp only [go_sem, Nat.reduceAdd, Nat.reduceMul, Int.reduceToNat, Nat.reduceLeDiff, Int.reduceLE, Int.reduceLT, ↓reduceIte, Int.reduceBEq, Int.reduceBNe, Int.reduceAdd, Int.reduceSub, Int.reduceMul, qFin_ret, qFin_normal, q2]; (try ((refine okTr_and ?_ ?_); (· rfl))))
        refine CallK.r1 (Reader_Good t.m3 0) rfl ?_
        by_cases hc : t.m3.code = 0
        · have hnx := hnxF hlt (by rw [hff]; exact hc)
          rw [hff] at hnx
          have hl2 := hnx.len
          rw [List.length_append, List.length_singleton, hi2] at hl2
          have em : [AV.agg [uA (p.fin + t.mBy), iA t.mCnt, iA (p.at_ + t.mOn + 1)]] = [mkA (t.mark p)] := rfl
          have hff2 := fits_ok hf w1
          (simp only [go_sem, Nat.reduceAdd, Nat.reduceMul, Int.reduceToNat, Nat.reduceLeDiff, Int.reduceLE, Int.reduceLT, ↓reduceIte, Int.reduceBEq, Int.reduceBNe, Int.reduceAdd, Int.reduceSub, Int.reduceMul, qFin_ret, qFin_normal, good_true hc, em, mks_snoc, mks_length]; (try ((refine okTr_and ?_ ?_); (· rfl))))
          (repeat ((with_reducible refine And.intro ?_ ?_); (· first | with_reducible assumption | omega | with_reducible rfl | (simp only [List.length_append, List.length_cons, List.length_nil, List.length_singleton]; omega) | (simp [ints_length, okEl_eq, AV.parts]; done) | (simp [ints_length, okEl_eq, AV.parts]; omega) | rfl)))
          refine CallK.p (index_end (t.mark p) hff2.1 (by omega) (by omega)) ?_; (simp only [go_sem, Nat.reduceAdd, Nat.reduceMul, Int.reduceToNat, Nat.reduceLeDiff, Int.reduceLE, Int.reduceLT, ↓reduceIte, Int.reduceBEq, Int.reduceBNe, Int.reduceAdd, Int.reduceSub, Int.reduceMul, qFin_ret, qFin_normal, ei]; (try ((refine okTr_and ?_ ?_); (· rfl))))
          exact ⟨(t.m3, acc ++ [t.mark p]), hnx, by simp; omega, Wk.sel [0, 1] (by simp) rfl (by simp) rfl (by simp [rdr_ren, ixs, ints_nil, ren_lit, ren_ref, ren_any, ren_agg, ren_tup, ren_sl, ren_fn, tren_none, tren_full, tren_row, oren_cells, oren_row, oren_dead, ixs_z, ixs_1, ixs_2, ixs_3, ren_ints, List.map_cons, List.map_nil]) (by simp [selT, ints_nil, ren_lit, ren_ref, ren_any, ren_agg, ren_tup, ren_sl, ren_fn, tren_none, tren_full, tren_row, oren_cells, oren_row, oren_dead, ixs_z, ixs_1, ixs_2, ixs_3, ren_ints, List.map_cons, List.map_nil, lastM_snoc, RS.mark])⟩
        · have hb := many_bad (F := markF) (s := t) (acc := acc) hlt (by rw [hff]; exact hc)
          rw [h6, hff] at hb
          (simp only [go_sem, Nat.reduceAdd, Nat.reduceMul, Int.reduceToNat, Nat.reduceLeDiff, Int.reduceLE, Int.reduceLT, ↓reduceIte, Int.reduceBEq, Int.reduceBNe, Int.reduceAdd, Int.reduceSub, Int.reduceMul, qFin_ret, qFin_normal, good_false hc]; (try ((refine okTr_and ?_ ?_); (· rfl))))
          (refine FinK.nilk 2 3 rfl ?_; simp only [List.set_cons_zero, List.set_cons_succ])
          ((refine FinK.fin r114 [0] ?_ ?_ ?_ ?_ ?_ ?_); (· decide); (· rfl); (· simp); (· rfl); (· first | with_reducible rfl | (simp [ints_nil, ren_lit, ren_ref, ren_any, ren_agg, ren_tup, ren_sl, ren_fn, tren_none, tren_full, tren_row, oren_cells, oren_row, oren_dead, ixs_z, ixs_1, ixs_2, ixs_3, ren_ints, List.map_cons, List.map_nil, hb, rdr_ren, mks_nil]; done) | rfl); (· simp [resAL, resA1, loadA, oneOr, ints_nil, ren_lit, ren_ref, ren_any, ren_agg, ren_tup, ren_sl, ren_fn, tren_none, tren_full, tren_row, oren_cells, oren_row, oren_dead, ixs_z, ixs_1, ixs_2, ixs_3, ren_ints, List.map_cons, List.map_nil, hb, rdr_ren, mks_nil]))
      · have q2 : decide ((t.mark p).fits p.fin p.at_) = false := by simpa using hf
        obtain ⟨o1, o2⟩ := hnot hf
        have hb := many_bad (F := markF) (s := t) hlt o2
        rw [h6, o1] at hb
        rw [o1] at o2
        (simp only [go_sem, Nat.reduceAdd, Nat.reduceMul, Int.reduceToNat, Nat.reduceLeDiff, Int.reduceLE, Int.reduceLT, ↓reduceIte, Int.reduceBEq, Int.reduceBNe, Int.reduceAdd, Int.reduceSub, Int.reduceMul, qFin_ret, qFin_normal, q2]; (try ((refine okTr_and ?_ ?_); (· rfl))))
        refine CallK.u1 (Reader_Fail t.m3 3 t.at_ 0) rfl ?_; (simp only [go_sem, Nat.reduceAdd, Nat.reduceMul, Int.reduceToNat, Nat.reduceLeDiff, Int.reduceLE, Int.reduceLT, ↓reduceIte, Int.reduceBEq, Int.reduceBNe, Int.reduceAdd, Int.reduceSub, Int.reduceMul, qFin_ret, qFin_normal]; (try ((refine okTr_and ?_ ?_); (· rfl))))
        refine CallK.r1 (Reader_Good _ 0) rfl ?_; (simp only [go_sem, Nat.reduceAdd, Nat.reduceMul, Int.reduceToNat, Nat.reduceLeDiff, Int.reduceLE, Int.reduceLT, ↓reduceIte, Int.reduceBEq, Int.reduceBNe, Int.reduceAdd, Int.reduceSub, Int.reduceMul, qFin_ret, qFin_normal, good_false o2]; (try ((refine okTr_and ?_ ?_); (· rfl))))
        (refine FinK.nilk 2 3 rfl ?_; simp only [List.set_cons_zero, List.set_cons_succ])
        ((refine FinK.fin r114 [0] ?_ ?_ ?_ ?_ ?_ ?_); (· decide); (· rfl); (· simp); (· rfl); (· first | with_reducible rfl | (simp [ints_nil, ren_lit, ren_ref, ren_any, ren_agg, ren_tup, ren_sl, ren_fn, tren_none, tren_full, tren_row, oren_cells, oren_row, oren_dead, ixs_z, ixs_1, ixs_2, ixs_3, ren_ints, List.map_cons, List.map_nil, hb, rdr_ren, mks_nil]; done) | rfl); (· simp [resAL, resA1, loadA, oneOr, ints_nil, ren_lit, ren_ref, ren_any, ren_agg, ren_tup, ren_sl, ren_fn, tren_none, tren_full, tren_row, oren_cells, oren_row, oren_dead, ixs_z, ixs_1, ixs_2, ixs_3, ren_ints, List.map_cons, List.map_nil, hb, rdr_ren, mks_nil]))
  · have hge : N ≤ acc.length := by simpa using h
    have hb := many_end (F := markF) (s := t) hge
    rw [h6] at hb
    (simp only [go_sem, Nat.reduceAdd, Nat.reduceMul, Int.reduceToNat, Nat.reduceLeDiff, Int.reduceLE, Int.reduceLT, ↓reduceIte, Int.reduceBEq, Int.reduceBNe, Int.reduceAdd, Int.reduceSub, Int.reduceMul, qFin_ret, qFin_normal]; (try ((refine okTr_and ?_ ?_); (· rfl))))
    (refine FinK.untag 2 rfl ?_; simp only [untag1_sl, List.set_cons_zero, List.set_cons_succ])
    ((refine FinK.fin r114 [0] ?_ ?_ ?_ ?_ ?_ ?_); (· decide); (· rfl); (· simp); (· rfl); (· first | with_reducible rfl | (simp [ints_nil, ren_lit, ren_ref, ren_any, ren_agg, ren_tup, ren_sl, ren_fn, tren_none, tren_full, tren_row, oren_cells, oren_row, oren_dead, ixs_z, ixs_1, ixs_2, ixs_3, ren_ints, List.map_cons, List.map_nil, hb, rdr_ren, mks_nil]; done) | rfl); (· simp [resAL, resA1, loadA, oneOr, ints_nil, ren_lit, ren_ref, ren_any, ren_agg, ren_tup, ren_sl, ren_fn, tren_none, tren_full, tren_row, oren_cells, oren_row, oren_dead, ixs_z, ixs_1, ixs_2, ixs_3, ren_ints, List.map_cons, List.map_nil, hb, rdr_ren, mks_nil]))
theorem index_Read (s : RS) (i : Nat) (hs : ROk s) (hn : s.l.length * 24 ≤ 140737488355328) : Ct Try.prog 114 [.ref i 0] [(i, rdr s)] (fun _ => slM s.marks.2) [(i, rdr (s.marks.1))] (fun _ => []) := Ct.u1 (index_Read0 s hs hn) i (by intros; simp [ints_nil, ren_lit, ren_ref, ren_any, ren_agg, ren_tup, ren_sl, ren_fn, tren_none, tren_full, tren_row, oren_cells, oren_row, oren_dead, ixs_z, ixs_1, ixs_2, ixs_3, ren_ints, List.map_cons, List.map_nil, ixs, List.range'_succ, ren_ints]) (fun ρ => rdr_ren ρ _) (fun ρ => rdr_ren ρ _) (rdr_dead _) (by intros; simp [ints_nil, ren_lit, ren_ref, ren_any, ren_agg, ren_tup, ren_sl, ren_fn, tren_none, tren_full, tren_row, oren_cells, oren_row, oren_dead, ixs_z, ixs_1, ixs_2, ixs_3, ren_ints, List.map_cons, List.map_nil, ixs, List.range'_succ, ren_ints])

/-- What is borne in the reference's loop: position and place, too. -/
def MOn (u : RS) (N : Nat) (a : (RS × List Mk) × Int × Int) : Prop := markF.On2 u N a.1 ∧ (a.1.1.code = 0 → markF.On u N a.1 ∧ a.2.1 = (lastM a.1.2).fin ∧ a.2.2 = (lastM a.1.2).at_)
set_option maxHeartbeats 2000000 in
set_option maxRecDepth 100000 in
theorem ref32_Read0 (s : RS) (hs : ROk s) (hn : s.l.length * 24 ≤ 100000000000000) : Does Try.prog 115 [cv s] [] (.tup [cv s.marks.1, slM s.marks.2]) [] := by
  have hir := int_range (s := s) (m := 16) hs.bys
  obtain ⟨hi1, hi2⟩ := hs.int 16
  unfold RS.marks Fmt.counted
  refine Does.run Try.func115 b115 n115 Try.ntmps115 (by simp only [List.cons_append, List.nil_append, List.length_cons, List.length_nil, Nat.zero_add, Nat.reduceAdd, Nat.reduceSub, List.replicate]; rfl) ?_; simp only [c115, go_sem, Nat.reduceAdd, Nat.reduceMul, Int.reduceToNat, Nat.reduceLeDiff, Int.reduceLE, Int.reduceLT, ↓reduceIte, Int.reduceBEq, Int.reduceBNe, Int.reduceAdd, Int.reduceSub, Int.reduceMul, qFin_ret, qFin_normal]; (try ((refine okTr_and ?_ ?_); (· rfl)))
  refine CallK.p (ref04_Int s 16 (by decide) hs) ?_
  generalize hu : (s.int 16).1 = u at *
  generalize (s.int 16).2 = z at *
  obtain ⟨N, hN⟩ : ∃ N, z.toNat = N := ⟨_, rfl⟩
  have hz : z = (N : Int) := by omega
  subst hz
  rw [Int.toNat_natCast]
  (simp only [go_sem, Nat.reduceAdd, Nat.reduceMul, Int.reduceToNat, Nat.reduceLeDiff, Int.reduceLE, Int.reduceLT, ↓reduceIte, Int.reduceBEq, Int.reduceBNe, Int.reduceAdd, Int.reduceSub, Int.reduceMul, qFin_ret, qFin_normal]; (try ((refine okTr_and ?_ ?_); (· rfl))))
  refine loop_of (α := (RS × List Mk) × Int × Int) (fun a => [.any, .any, .ref 1 0, .any, .ref 2 0, iA N, .sl (.row 3) 3 (mks a.1.2), uA a.2.1, iA a.2.2, iA a.1.2.length, .any, .any, .any, .any, .any, .any, .any, .any, .any, .any, .any, .any, .any, .any, .any, .any, .any, .any, .any, .any, .any, .any, .any, .any, .any, .any, .any, .any, .any, .any, .any, .any, .any, .any, .any, .any, .any, .any, .any, .any, .any, .any, .any, .any, .any, .any, .any, .any, .any, .any, .any, .any, .any, .any, .any, .any, .any, .any, .any, .any, .any, .any, .any, .any, .any, .any, .any, .any, .any, .any, .any, .any, .any, .any, .any, .any, .any, .any, .any, .any, .any, .any, .any, .any, .any, .any, .any, .any, .any, .any, .any, .any, .any, .any, .any, .any, .any, .any, .any]) (fun a => [.cells [slA .u8 s.l, iA s.at_, iA s.code, iA s.fat], .cells [.sl .full 1 [], iA 0, iA 0, iA 0], .cells [slA .u8 a.1.1.l, iA a.1.1.at_, iA a.1.1.code, iA a.1.1.fat], .row 3 a.1.2.length]) (MOn u N) (fun a => N - a.1.2.length) ((u, []), 0, 0) ⟨.inl (Fmt.On.start hi1 N), fun _ => ⟨Fmt.On.start hi1 N, rfl, rfl⟩⟩ ((Wk.row 6 3 rfl (.inr rfl) (by decide)).trans (Wk.to (by simp) (by simp [leT, mks]))) ?_
  rintro ⟨⟨t, acc⟩, pos, pat⟩ ⟨ho2, hoc⟩
  simp only at hoc
  have hlen2 : acc.length ≤ s.l.length + 1 := by
    rcases ho2 with ho | ⟨_, _, _, _, _, hle2⟩
    · have := ho.len; rw [hi2] at this; omega
    · rw [hi2] at hle2; exact hle2
  have ei := i64_succ acc.length (by omega)
  by_cases hc0 : t.code = 0
  · obtain ⟨ho, rfl, rfl⟩ := hoc hc0
    have hla := ho.len
    rw [hi2] at hla
    have h1 := ho.ok
    have h6 := ho.res
    have h2 := ho.l
    have hw := mark_last ho.wf
    have hkp := markF_ok.keep t acc ho.ok ho.wf
    simp only at h1 h6 h2 hw
    have hmn := mark_num h1
    have hnxF := ho.next markF_ok
    have hm3 := m3_keep h1
    obtain ⟨p, hp⟩ : ∃ p, lastM acc = p := ⟨_, rfl⟩
    have hnot := markF_not (s := t) (acc := acc)
    have hfit := markF_fits (s := t) (acc := acc)
    rw [hp] at hw hnot hfit
    obtain ⟨w1, w2, w3, w4, w5, w6⟩ := hw
    obtain ⟨n1, n2, n3, n4, n5, n6⟩ := hmn
    have b2 := (h1.vint.1.int 16).1
    by_cases hlt : acc.length < N
    · have q1 : decide ((acc.length : Int) < N) = true := by simpa using hlt
      have q2 : (t.code == 0) = true := by simpa using hc0
      have d1 : t.vint.2 = t.mBy := rfl
      have d2 : (t.vint.1.int 16).2 = t.mCnt := rfl
      have d3 : ((t.vint.1.int 16).1.int 1099511627775).2 = t.mOn := rfl
      have d4 : ((t.vint.1.int 16).1.int 1099511627775).1 = t.m3 := rfl
      have e1 : IntKind.i64.wrap (p.at_ + t.mOn) = p.at_ + t.mOn := IntWalk.i64_in _ (by omega)
      have e2 : IntKind.i64.wrap (p.at_ + t.mOn + 1) = p.at_ + t.mOn + 1 := IntWalk.i64_in _ (by omega)
      have e3 : IntKind.u64.wrap t.mCnt = t.mCnt := IntWalk.u64_in _ (by omega)
      have e4 : IntKind.u64.wrap (4611686018427387904 - p.fin) = 4611686018427387904 - p.fin := IntWalk.u64_in _ (by omega)
      obtain ⟨P1, hP1⟩ : ∃ P1, IntKind.u64.wrap (p.fin + t.mBy) = P1 := ⟨_, rfl⟩
      obtain ⟨P2, hP2⟩ : ∃ P2, IntKind.u64.wrap (P1 + t.mCnt) = P2 := ⟨_, rfl⟩
      have em : [AV.agg [uA P1, iA t.mCnt, iA (p.at_ + t.mOn + 1)]] = [mkA ⟨P1, t.mCnt, p.at_ + t.mOn + 1⟩] := rfl
      have away : ∀ (v : RS), ¬ v.code = 0 → (markF.f t acc).1 = v → MOn u N ((v, acc ++ [⟨P1, t.mCnt, p.at_ + t.mOn + 1⟩]), P2, p.at_ + t.mOn + 1) := by
        intro v hv he
        have hb := many_bad (F := markF) (s := t) hlt (by rw [he]; exact hv)
        rw [h6, he] at hb
        rw [he] at hkp
        exact ⟨.inr ⟨hv, hb, hkp.1, hkp.2.trans h2, by simp; omega, by rw [hi2]; simp; omega⟩, fun h => absurd h hv⟩
      (simp only [go_sem, Nat.reduceAdd, Nat.reduceMul, Int.reduceToNat, Nat.reduceLeDiff, Int.reduceLE, Int.reduceLT, ↓reduceIte, Int.reduceBEq, Int.reduceBNe, Int.reduceAdd, Int.reduceSub, Int.reduceMul, qFin_ret, qFin_normal, hp, q1, q2]; (try ((refine okTr_and ?_ ?_); (· rfl))))
      refine CallK.p (ref04_Read t h1) ?_; (simp only [go_sem, Nat.reduceAdd, Nat.reduceMul, Int.reduceToNat, Nat.reduceLeDiff, Int.reduceLE, Int.reduceLT, ↓reduceIte, Int.reduceBEq, Int.reduceBNe, Int.reduceAdd, Int.reduceSub, Int.reduceMul, qFin_ret, qFin_normal]; (try ((refine okTr_and ?_ ?_); (· rfl))))
      refine CallK.p (ref04_Int t.vint.1 16 (by decide) h1.vint.1) ?_; (simp only [go_sem, Nat.reduceAdd, Nat.reduceMul, Int.reduceToNat, Nat.reduceLeDiff, Int.reduceLE, Int.reduceLT, ↓reduceIte, Int.reduceBEq, Int.reduceBNe, Int.reduceAdd, Int.reduceSub, Int.reduceMul, qFin_ret, qFin_normal]; (try ((refine okTr_and ?_ ?_); (· rfl))))
      refine CallK.p (ref04_Int (t.vint.1.int 16).1 1099511627775 (by decide) b2) ?_
      by_cases hc : t.m3.code = 0
      · have q3 : (t.m3.code == 0) = true := by simpa using hc
        by_cases hcn : t.mCnt = 0
        · have r1 : (t.mCnt == 0) = true := by simpa using hcn
          have hno : ¬ (t.mark p).fits p.fin p.at_ := by rintro ⟨f1, f2, f3, f4, f5, f6⟩; simp only [RS.mark] at f1 f4; omega
          obtain ⟨o1, o2⟩ := hnot hno
          (simp only [go_sem, Nat.reduceAdd, Nat.reduceMul, Int.reduceToNat, Nat.reduceLeDiff, Int.reduceLE, Int.reduceLT, ↓reduceIte, Int.reduceBEq, Int.reduceBNe, Int.reduceAdd, Int.reduceSub, Int.reduceMul, qFin_ret, qFin_normal, d1, d2, d3, d4, q3, r1]; (try ((refine okTr_and ?_ ?_); (· rfl))))
          refine CallK.p (ref02_Fail t.m3 3 t.at_) ?_
          (simp only [go_sem, Nat.reduceAdd, Nat.reduceMul, Int.reduceToNat, Nat.reduceLeDiff, Int.reduceLE, Int.reduceLT, ↓reduceIte, Int.reduceBEq, Int.reduceBNe, Int.reduceAdd, Int.reduceSub, Int.reduceMul, qFin_ret, qFin_normal, hP1, e1, e2, e3, hP2, em, mks_snoc, mks_length, ei]; (try ((refine okTr_and ?_ ?_); (· rfl))))
          (repeat ((with_reducible refine And.intro ?_ ?_); (· first | with_reducible assumption | omega | with_reducible rfl | (simp only [List.length_append, List.length_cons, List.length_nil, List.length_singleton]; omega) | (simp [ints_length, okEl_eq, AV.parts]; done) | (simp [ints_length, okEl_eq, AV.parts]; omega) | rfl)))
          exact ⟨_, away _ (by rw [← o1]; exact o2) o1, by simp; omega, Wk.sel [0, 1, 2, 3] (by simp) rfl (by simp) rfl (by simp [ints_nil, ren_lit, ren_ref, ren_any, ren_agg, ren_tup, ren_sl, ren_fn, tren_none, tren_full, tren_row, oren_cells, oren_row, oren_dead, ixs_z, ixs_1, ixs_2, ixs_3, ren_ints, List.map_cons, List.map_nil]) (by simp [selT, ints_nil, ren_lit, ren_ref, ren_any, ren_agg, ren_tup, ren_sl, ren_fn, tren_none, tren_full, tren_row, oren_cells, oren_row, oren_dead, ixs_z, ixs_1, ixs_2, ixs_3, ren_ints, List.map_cons, List.map_nil])⟩
        · have r1 : (t.mCnt == 0) = false := by simpa using hcn
          by_cases hb1 : 4611686018427387904 - p.fin < t.mBy
          · have r2 : decide (4611686018427387904 - p.fin < t.mBy) = true := by simpa using hb1
            have hno : ¬ (t.mark p).fits p.fin p.at_ := by rintro ⟨f1, f2, f3, f4, f5, f6⟩; simp only [RS.mark] at f1 f4; omega
            obtain ⟨o1, o2⟩ := hnot hno
            (simp only [go_sem, Nat.reduceAdd, Nat.reduceMul, Int.reduceToNat, Nat.reduceLeDiff, Int.reduceLE, Int.reduceLT, ↓reduceIte, Int.reduceBEq, Int.reduceBNe, Int.reduceAdd, Int.reduceSub, Int.reduceMul, qFin_ret, qFin_normal, d1, d2, d3, d4, q3, r1, e4, r2]; (try ((refine okTr_and ?_ ?_); (· rfl))))
            refine CallK.p (ref02_Fail t.m3 3 t.at_) ?_
            (simp only [go_sem, Nat.reduceAdd, Nat.reduceMul, Int.reduceToNat, Nat.reduceLeDiff, Int.reduceLE, Int.reduceLT, ↓reduceIte, Int.reduceBEq, Int.reduceBNe, Int.reduceAdd, Int.reduceSub, Int.reduceMul, qFin_ret, qFin_normal, hP1, e1, e2, e3, hP2, em, mks_snoc, mks_length, ei]; (try ((refine okTr_and ?_ ?_); (· rfl))))
            (repeat ((with_reducible refine And.intro ?_ ?_); (· first | with_reducible assumption | omega | with_reducible rfl | (simp only [List.length_append, List.length_cons, List.length_nil, List.length_singleton]; omega) | (simp [ints_length, okEl_eq, AV.parts]; done) | (simp [ints_length, okEl_eq, AV.parts]; omega) | rfl)))
            exact ⟨_, away _ (by rw [← o1]; exact o2) o1, by simp; omega, Wk.sel [0, 1, 2, 3] (by simp) rfl (by simp) rfl (by simp [ints_nil, ren_lit, ren_ref, ren_any, ren_agg, ren_tup, ren_sl, ren_fn, tren_none, tren_full, tren_row, oren_cells, oren_row, oren_dead, ixs_z, ixs_1, ixs_2, ixs_3, ren_ints, List.map_cons, List.map_nil]) (by simp [selT, ints_nil, ren_lit, ren_ref, ren_any, ren_agg, ren_tup, ren_sl, ren_fn, tren_none, tren_full, tren_row, oren_cells, oren_row, oren_dead, ixs_z, ixs_1, ixs_2, ixs_3, ren_ints, List.map_cons, List.map_nil])⟩
          · have r2 : decide (4611686018427387904 - p.fin < t.mBy) = false := by simpa using hb1
            have e5 : IntKind.u64.wrap (4611686018427387904 - p.fin - t.mBy) = 4611686018427387904 - p.fin - t.mBy := IntWalk.u64_in _ (by omega)
            by_cases hb2 : 4611686018427387904 - p.fin - t.mBy < t.mCnt
            · have r3 : decide (4611686018427387904 - p.fin - t.mBy < t.mCnt) = true := by simpa using hb2
              have hno : ¬ (t.mark p).fits p.fin p.at_ := by rintro ⟨f1, f2, f3, f4, f5, f6⟩; simp only [RS.mark] at f1 f4; omega
              obtain ⟨o1, o2⟩ := hnot hno
              (simp only [go_sem, Nat.reduceAdd, Nat.reduceMul, Int.reduceToNat, Nat.reduceLeDiff, Int.reduceLE, Int.reduceLT, ↓reduceIte, Int.reduceBEq, Int.reduceBNe, Int.reduceAdd, Int.reduceSub, Int.reduceMul, qFin_ret, qFin_normal, d1, d2, d3, d4, q3, r1, e4, r2, e3, e5, r3]; (try ((refine okTr_and ?_ ?_); (· rfl))))
              refine CallK.p (ref02_Fail t.m3 3 t.at_) ?_
              (simp only [go_sem, Nat.reduceAdd, Nat.reduceMul, Int.reduceToNat, Nat.reduceLeDiff, Int.reduceLE, Int.reduceLT, ↓reduceIte, Int.reduceBEq, Int.reduceBNe, Int.reduceAdd, Int.reduceSub, Int.reduceMul, qFin_ret, qFin_normal, hP1, e1, e2, e3, hP2, em, mks_snoc, mks_length, ei]; (try ((refine okTr_and ?_ ?_); (· rfl))))
              (repeat ((with_reducible refine And.intro ?_ ?_); (· first | with_reducible assumption | omega | with_reducible rfl | (simp only [List.length_append, List.length_cons, List.length_nil, List.length_singleton]; omega) | (simp [ints_length, okEl_eq, AV.parts]; done) | (simp [ints_length, okEl_eq, AV.parts]; omega) | rfl)))
              exact ⟨_, away _ (by rw [← o1]; exact o2) o1, by simp; omega, Wk.sel [0, 1, 2, 3] (by simp) rfl (by simp) rfl (by simp [ints_nil, ren_lit, ren_ref, ren_any, ren_agg, ren_tup, ren_sl, ren_fn, tren_none, tren_full, tren_row, oren_cells, oren_row, oren_dead, ixs_z, ixs_1, ixs_2, ixs_3, ren_ints, List.map_cons, List.map_nil]) (by simp [selT, ints_nil, ren_lit, ren_ref, ren_any, ren_agg, ren_tup, ren_sl, ren_fn, tren_none, tren_full, tren_row, oren_cells, oren_row, oren_dead, ixs_z, ixs_1, ixs_2, ixs_3, ren_ints, List.map_cons, List.map_nil])⟩
            · have r3 : decide (4611686018427387904 - p.fin - t.mBy < t.mCnt) = false := by simpa using hb2
              by_cases hb3 : 1099511627775 < p.at_ + t.mOn + 1
              · have r4 : decide (1099511627775 < p.at_ + t.mOn + 1) = true := by simpa using hb3
                have hno : ¬ (t.mark p).fits p.fin p.at_ := by rintro ⟨f1, f2, f3, f4, f5, f6⟩; simp only [RS.mark] at f6; omega
                obtain ⟨o1, o2⟩ := hnot hno
                (simp only [go_sem, Nat.reduceAdd, Nat.reduceMul, Int.reduceToNat, Nat.reduceLeDiff, Int.reduceLE, Int.reduceLT, ↓reduceIte, Int.reduceBEq, Int.reduceBNe, Int.reduceAdd, Int.reduceSub, Int.reduceMul, qFin_ret, qFin_normal, d1, d2, d3, d4, q3, r1, e4, r2, e3, e5, r3, e1, e2, r4]; (try ((refine okTr_and ?_ ?_); (· rfl))))
                refine CallK.p (ref02_Fail t.m3 3 t.at_) ?_
                (simp only [go_sem, Nat.reduceAdd, Nat.reduceMul, Int.reduceToNat, Nat.reduceLeDiff, Int.reduceLE, Int.reduceLT, ↓reduceIte, Int.reduceBEq, Int.reduceBNe, Int.reduceAdd, Int.reduceSub, Int.reduceMul, qFin_ret, qFin_normal, hP1, e1, e2, e3, hP2, em, mks_snoc, mks_length, ei]; (try ((refine okTr_and ?_ ?_); (· rfl))))
                (repeat ((with_reducible refine And.intro ?_ ?_); (· first | with_reducible assumption | omega | with_reducible rfl | (simp only [List.length_append, List.length_cons, List.length_nil, List.length_singleton]; omega) | (simp [ints_length, okEl_eq, AV.parts]; done) | (simp [ints_length, okEl_eq, AV.parts]; omega) | rfl)))
                exact ⟨_, away _ (by rw [← o1]; exact o2) o1, by simp; omega, Wk.sel [0, 1, 2, 3] (by simp) rfl (by simp) rfl (by simp [ints_nil, ren_lit, ren_ref, ren_any, ren_agg, ren_tup, ren_sl, ren_fn, tren_none, tren_full, tren_row, oren_cells, oren_row, oren_dead, ixs_z, ixs_1, ixs_2, ixs_3, ren_ints, List.map_cons, List.map_nil]) (by simp [selT, ints_nil, ren_lit, ren_ref, ren_any, ren_agg, ren_tup, ren_sl, ren_fn, tren_none, tren_full, tren_row, oren_cells, oren_row, oren_dead, ixs_z, ixs_1, ixs_2, ixs_3, ren_ints, List.map_cons, List.map_nil])⟩
              · have r4 : decide (1099511627775 < p.at_ + t.mOn + 1) = false := by simpa using hb3
                have hf : (t.mark p).fits p.fin p.at_ := ⟨by simp only [RS.mark]; omega, by simp only [RS.mark]; omega, by simp only [RS.mark]; omega, by simp only [RS.mark]; omega, by simp only [RS.mark]; omega, by simp only [RS.mark]; omega⟩
                have hff := hfit hf
                have hnx := hnxF hlt (by rw [hff]; exact hc)
                rw [hff] at hnx
                have hl2 := hnx.len
                rw [List.length_append, List.length_singleton, hi2] at hl2
                have eP1 : P1 = p.fin + t.mBy := by rw [← hP1, IntWalk.u64_in _ (by omega)]
                have eP2 : P2 = (t.mark p).fin := by rw [← hP2, eP1, IntWalk.u64_in _ (by omega)]; rfl
                have emk : (⟨P1, t.mCnt, p.at_ + t.mOn + 1⟩ : Mk) = t.mark p := by rw [eP1]; rfl
                (simp only [go_sem, Nat.reduceAdd, Nat.reduceMul, Int.reduceToNat, Nat.reduceLeDiff, Int.reduceLE, Int.reduceLT, ↓reduceIte, Int.reduceBEq, Int.reduceBNe, Int.reduceAdd, Int.reduceSub, Int.reduceMul, qFin_ret, qFin_normal, d1, d2, d3, d4, q3, r1, e4, r2, e3, e5, r3, e1, e2, r4, hP1, hP2, em, mks_snoc, mks_length, ei]; (try ((refine okTr_and ?_ ?_); (· rfl))))
                (repeat ((with_reducible refine And.intro ?_ ?_); (· first | with_reducible assumption | omega | with_reducible rfl | (simp only [List.length_append, List.length_cons, List.length_nil, List.length_singleton]; omega) | (simp [ints_length, okEl_eq, AV.parts]; done) | (simp [ints_length, okEl_eq, AV.parts]; omega) | rfl)))
                rw [emk, eP2]
                exact ⟨((t.m3, acc ++ [t.mark p]), (t.mark p).fin, (t.mark p).at_), ⟨.inl hnx, fun _ => ⟨hnx, by simp only [lastM_snoc], by simp only [lastM_snoc]⟩⟩, by simp; omega, Wk.sel [0, 1, 2, 3] (by simp) rfl (by simp) rfl (by simp [ints_nil, ren_lit, ren_ref, ren_any, ren_agg, ren_tup, ren_sl, ren_fn, tren_none, tren_full, tren_row, oren_cells, oren_row, oren_dead, ixs_z, ixs_1, ixs_2, ixs_3, ren_ints, List.map_cons, List.map_nil]) (by simp [selT, ints_nil, ren_lit, ren_ref, ren_any, ren_agg, ren_tup, ren_sl, ren_fn, tren_none, tren_full, tren_row, oren_cells, oren_row, oren_dead, ixs_z, ixs_1, ixs_2, ixs_3, ren_ints, List.map_cons, List.map_nil, RS.mark])⟩
      · have q3 : (t.m3.code == 0) = false := by simpa using hc
        have o1 := markF_bad (s := t) (acc := acc) hc
        (simp only [go_sem, Nat.reduceAdd, Nat.reduceMul, Int.reduceToNat, Nat.reduceLeDiff, Int.reduceLE, Int.reduceLT, ↓reduceIte, Int.reduceBEq, Int.reduceBNe, Int.reduceAdd, Int.reduceSub, Int.reduceMul, qFin_ret, qFin_normal, d1, d2, d3, d4, q3, hP1, e1, e2, e3, hP2, em, mks_snoc, mks_length, ei]; (try ((refine okTr_and ?_ ?_); (· rfl))))
        (repeat ((with_reducible refine And.intro ?_ ?_); (· first | with_reducible assumption | omega | with_reducible rfl | (simp only [List.length_append, List.length_cons, List.length_nil, List.length_singleton]; omega) | (simp [ints_length, okEl_eq, AV.parts]; done) | (simp [ints_length, okEl_eq, AV.parts]; omega) | rfl)))
        exact ⟨_, away _ hc o1, by simp; omega, Wk.sel [0, 1, 2, 3] (by simp) rfl (by simp) rfl (by simp [ints_nil, ren_lit, ren_ref, ren_any, ren_agg, ren_tup, ren_sl, ren_fn, tren_none, tren_full, tren_row, oren_cells, oren_row, oren_dead, ixs_z, ixs_1, ixs_2, ixs_3, ren_ints, List.map_cons, List.map_nil]) (by simp [selT, ints_nil, ren_lit, ren_ref, ren_any, ren_agg, ren_tup, ren_sl, ren_fn, tren_none, tren_full, tren_row, oren_cells, oren_row, oren_dead, ixs_z, ixs_1, ixs_2, ixs_3, ren_ints, List.map_cons, List.map_nil])⟩
    · have q1 : decide ((acc.length : Int) < N) = false := by simpa using hlt
      have hb := many_end (F := markF) (s := t) (N := N) (acc := acc) (by omega)
      rw [h6] at hb
      have q3 : (t.code != 0) = false := by simpa using hc0
      (simp only [go_sem, Nat.reduceAdd, Nat.reduceMul, Int.reduceToNat, Nat.reduceLeDiff, Int.reduceLE, Int.reduceLT, ↓reduceIte, Int.reduceBEq, Int.reduceBNe, Int.reduceAdd, Int.reduceSub, Int.reduceMul, qFin_ret, qFin_normal, q1, q3]; (try ((refine okTr_and ?_ ?_); (· rfl))))
      (refine FinK.untag 3 rfl ?_; simp only [untag1_sl, List.set_cons_zero, List.set_cons_succ])
      ((refine FinK.fin r115 [] ?_ ?_ ?_ ?_ ?_ ?_); (· decide); (· rfl); (· simp); (· rfl); (· first | with_reducible rfl | (simp [ints_nil, ren_lit, ren_ref, ren_any, ren_agg, ren_tup, ren_sl, ren_fn, tren_none, tren_full, tren_row, oren_cells, oren_row, oren_dead, ixs_z, ixs_1, ixs_2, ixs_3, ren_ints, List.map_cons, List.map_nil, hb, mks_nil]; done) | rfl); (· simp [resAL, resA1, loadA, oneOr, ints_nil, ren_lit, ren_ref, ren_any, ren_agg, ren_tup, ren_sl, ren_fn, tren_none, tren_full, tren_row, oren_cells, oren_row, oren_dead, ixs_z, ixs_1, ixs_2, ixs_3, ren_ints, List.map_cons, List.map_nil, hb, mks_nil]))
  · have q2 : (t.code == 0) = false := by simpa using hc0
    have q3 : (t.code != 0) = true := by simpa using hc0
    have hb : markF.many N u [] = (t, []) := by
      rcases ho2 with ho | ⟨_, h, _⟩
      · by_cases hlt : acc.length < N
        · have h1 := ho.ok
          simp only at h1
          have hm : t.m3 = t := by
            have i1 : t.vint = (t, 0) := vint_bad hc0
            have i2 : ∀ k, 0 ≤ k → t.int k = (t, 0) := by intro k hk; unfold RS.int RS.most; rw [if_pos hk, i1, if_neg (by simp only; omega)]
            unfold RS.m3
            rw [i1]; simp only; rw [i2 16 (by decide)]; simp only; rw [i2 1099511627775 (by decide)]
          have o1 := markF_bad (s := t) (acc := acc) (by rw [hm]; exact hc0)
          have := many_bad (F := markF) (s := t) (acc := acc) hlt (by rw [o1, hm]; exact hc0)
          have h6 := ho.res
          simp only at h6
          rw [h6, o1, hm] at this
          exact this
        · have hb := many_end (F := markF) (s := t) (N := N) (acc := acc) (by omega)
          have h6 := ho.res
          simp only at h6
          rw [h6] at hb
          have hnil := many_bad_nil (F := markF) N u [] (.inr rfl) (by rw [hb]; exact hc0)
          rw [hb] at hnil
          simp only at hnil
          rw [hb, hnil]
      · exact h
    by_cases hlt : acc.length < N
    · have q1 : decide ((acc.length : Int) < N) = true := by simpa using hlt
      (simp only [go_sem, Nat.reduceAdd, Nat.reduceMul, Int.reduceToNat, Nat.reduceLeDiff, Int.reduceLE, Int.reduceLT, ↓reduceIte, Int.reduceBEq, Int.reduceBNe, Int.reduceAdd, Int.reduceSub, Int.reduceMul, qFin_ret, qFin_normal, q1, q2, q3]; (try ((refine okTr_and ?_ ?_); (· rfl))))
      (refine FinK.nilk 3 3 rfl ?_; simp only [List.set_cons_zero, List.set_cons_succ])
      ((refine FinK.fin r115 [] ?_ ?_ ?_ ?_ ?_ ?_); (· decide); (· rfl); (· simp); (· rfl); (· first | with_reducible rfl | (simp [ints_nil, ren_lit, ren_ref, ren_any, ren_agg, ren_tup, ren_sl, ren_fn, tren_none, tren_full, tren_row, oren_cells, oren_row, oren_dead, ixs_z, ixs_1, ixs_2, ixs_3, ren_ints, List.map_cons, List.map_nil, hb, mks_nil]; done) | rfl); (· simp [resAL, resA1, loadA, oneOr, ints_nil, ren_lit, ren_ref, ren_any, ren_agg, ren_tup, ren_sl, ren_fn, tren_none, tren_full, tren_row, oren_cells, oren_row, oren_dead, ixs_z, ixs_1, ixs_2, ixs_3, ren_ints, List.map_cons, List.map_nil, hb, mks_nil]))
    · have q1 : decide ((acc.length : Int) < N) = false := by simpa using hlt
      (simp only [go_sem, Nat.reduceAdd, Nat.reduceMul, Int.reduceToNat, Nat.reduceLeDiff, Int.reduceLE, Int.reduceLT, ↓reduceIte, Int.reduceBEq, Int.reduceBNe, Int.reduceAdd, Int.reduceSub, Int.reduceMul, qFin_ret, qFin_normal, q1, q3]; (try ((refine okTr_and ?_ ?_); (· rfl))))
      (refine FinK.nilk 3 3 rfl ?_; simp only [List.set_cons_zero, List.set_cons_succ])
      ((refine FinK.fin r115 [] ?_ ?_ ?_ ?_ ?_ ?_); (· decide); (· rfl); (· simp); (· rfl); (· first | with_reducible rfl | (simp [ints_nil, ren_lit, ren_ref, ren_any, ren_agg, ren_tup, ren_sl, ren_fn, tren_none, tren_full, tren_row, oren_cells, oren_row, oren_dead, ixs_z, ixs_1, ixs_2, ixs_3, ren_ints, List.map_cons, List.map_nil, hb, mks_nil]; done) | rfl); (· simp [resAL, resA1, loadA, oneOr, ints_nil, ren_lit, ren_ref, ren_any, ren_agg, ren_tup, ren_sl, ren_fn, tren_none, tren_full, tren_row, oren_cells, oren_row, oren_dead, ixs_z, ixs_1, ixs_2, ixs_3, ren_ints, List.map_cons, List.map_nil, hb, mks_nil]))
theorem ref32_Read (s : RS) (hs : ROk s) (hn : s.l.length * 24 ≤ 100000000000000) : Ct Try.prog 115 [cv s] [] (fun _ => .tup [cv s.marks.1, slM s.marks.2]) [] (fun _ => []) := (ref32_Read0 s hs hn).toCt (by intros; simp [ints_nil, ren_lit, ren_ref, ren_any, ren_agg, ren_tup, ren_sl, ren_fn, tren_none, tren_full, tren_row, oren_cells, oren_row, oren_dead, ixs_z, ixs_1, ixs_2, ixs_3, ren_ints, List.map_cons, List.map_nil, ixs, List.range'_succ, ren_ints]) (by intros; simp [ints_nil, ren_lit, ren_ref, ren_any, ren_agg, ren_tup, ren_sl, ren_fn, tren_none, tren_full, tren_row, oren_cells, oren_row, oren_dead, ixs_z, ixs_1, ixs_2, ixs_3, ren_ints, List.map_cons, List.map_nil, ixs, List.range'_succ, ren_ints])
end Go.Proofs.Ytgphhganepjaiaa
end
section
namespace Go.Proofs.Ytgphhganepjaiaa
open Go.RowKit

theorem index_Entries0 (l : List Mk) (hl : Mks l) (hn : l.length ≤ 140737488355328) : Does Try.prog 67 [slM l] [] (iA (if rightM l = true then cntTo l l.length else 0)) [] := by
  refine Does.run Try.func67 b67 n67 Try.ntmps67 (by simp only [List.cons_append, List.nil_append, List.length_cons, List.length_nil, Nat.zero_add, Nat.reduceAdd, Nat.reduceSub, List.replicate]; rfl) ?_; simp only [c67, go_sem, Nat.reduceAdd, Nat.reduceMul, Int.reduceToNat, Nat.reduceLeDiff, Int.reduceLE, Int.reduceLT, ↓reduceIte, Int.reduceBEq, Int.reduceBNe, Int.reduceAdd, Int.reduceSub, Int.reduceMul, qFin_ret, qFin_normal]; (try ((refine okTr_and ?_ ?_); (· rfl)))
  refine CallK.p (index_Right l hl hn) ?_
  cases hf : rightM l
  · (simp only [go_sem, Nat.reduceAdd, Nat.reduceMul, Int.reduceToNat, Nat.reduceLeDiff, Int.reduceLE, Int.reduceLT, ↓reduceIte, Int.reduceBEq, Int.reduceBNe, Int.reduceAdd, Int.reduceSub, Int.reduceMul, qFin_ret, qFin_normal, hf]; (try ((refine okTr_and ?_ ?_); (· rfl))))
    ((refine FinK.fin r67 [] ?_ ?_ ?_ ?_ ?_ ?_); (· decide); (· rfl); (· simp); (· rfl); (· first | with_reducible rfl | (simp [ints_nil, ren_lit, ren_ref, ren_any, ren_agg, ren_tup, ren_sl, ren_fn, tren_none, tren_full, tren_row, oren_cells, oren_row, oren_dead, ixs_z, ixs_1, ixs_2, ixs_3, ren_ints, List.map_cons, List.map_nil, hf]; done) | rfl); (· simp [resAL, resA1, loadA, oneOr, ints_nil, ren_lit, ren_ref, ren_any, ren_agg, ren_tup, ren_sl, ren_fn, tren_none, tren_full, tren_row, oren_cells, oren_row, oren_dead, ixs_z, ixs_1, ixs_2, ixs_3, ren_ints, List.map_cons, List.map_nil, hf]))
  · have h16 := (rightM_wf.1 hf).2
    (simp only [go_sem, Nat.reduceAdd, Nat.reduceMul, Int.reduceToNat, Nat.reduceLeDiff, Int.reduceLE, Int.reduceLT, ↓reduceIte, Int.reduceBEq, Int.reduceBNe, Int.reduceAdd, Int.reduceSub, Int.reduceMul, qFin_ret, qFin_normal, hf, mks_length]; (try ((refine okTr_and ?_ ?_); (· rfl))))
    refine loop_of (α := Nat) (fun k => [.any, .any, .any, iA (cntTo l k), .any, .any, .any, .any, .any, slM l, iA l.length, iA k, .any, .any, .any, .any, .any, .any, .any, .any, .any]) (fun _ => []) (fun k => k ≤ l.length) (fun k => l.length - k) 0 (by simp) (Wk.to (by simp) (by simp [leT, cntTo])) ?_
    intro k hk
    (simp only [go_sem, Nat.reduceAdd, Nat.reduceMul, Int.reduceToNat, Nat.reduceLeDiff, Int.reduceLE, Int.reduceLT, ↓reduceIte, Int.reduceBEq, Int.reduceBNe, Int.reduceAdd, Int.reduceSub, Int.reduceMul, qFin_ret, qFin_normal]; (try ((refine okTr_and ?_ ?_); (· rfl))))
    refine cdK_split (fun h => ?_) (fun h => ?_)
    · have hlt : k < l.length := by simpa using h
      have g := mks_get l k hlt
      have ei := i64_succ k (by omega)
      have hc := cntTo_le hf k hk
      have hx := right_at hf hlt
      have es : IntKind.i64.wrap (cntTo l k + (l.getD k mk0).cnt) = cntTo l (k + 1) := by rw [IntWalk.i64_in _ (by omega)]; rfl
      (simp only [go_sem, Nat.reduceAdd, Nat.reduceMul, Int.reduceToNat, Nat.reduceLeDiff, Int.reduceLE, Int.reduceLT, ↓reduceIte, Int.reduceBEq, Int.reduceBNe, Int.reduceAdd, Int.reduceSub, Int.reduceMul, qFin_ret, qFin_normal, g, mks_length, es, ei]; (try ((refine okTr_and ?_ ?_); (· rfl))))
      (repeat ((with_reducible refine And.intro ?_ ?_); (· first | with_reducible assumption | omega | with_reducible rfl | (simp only [List.length_append, List.length_cons, List.length_nil, List.length_singleton]; omega) | (simp [ints_length, okEl_eq, AV.parts]; done) | (simp [ints_length, okEl_eq, AV.parts]; omega) | rfl)))
      exact ⟨k + 1, hlt, by omega, Wk.sel [] (by simp) rfl (by simp) rfl (by simp) (by simp [selT, ints_nil, ren_lit, ren_ref, ren_any, ren_agg, ren_tup, ren_sl, ren_fn, tren_none, tren_full, tren_row, oren_cells, oren_row, oren_dead, ixs_z, ixs_1, ixs_2, ixs_3, ren_ints, List.map_cons, List.map_nil])⟩
    · have ek : k = l.length := by simp at h; omega
      (simp only [go_sem, Nat.reduceAdd, Nat.reduceMul, Int.reduceToNat, Nat.reduceLeDiff, Int.reduceLE, Int.reduceLT, ↓reduceIte, Int.reduceBEq, Int.reduceBNe, Int.reduceAdd, Int.reduceSub, Int.reduceMul, qFin_ret, qFin_normal]; (try ((refine okTr_and ?_ ?_); (· rfl))))
      ((refine FinK.fin r67 [] ?_ ?_ ?_ ?_ ?_ ?_); (· decide); (· rfl); (· simp); (· rfl); (· first | with_reducible rfl | (simp [ints_nil, ren_lit, ren_ref, ren_any, ren_agg, ren_tup, ren_sl, ren_fn, tren_none, tren_full, tren_row, oren_cells, oren_row, oren_dead, ixs_z, ixs_1, ixs_2, ixs_3, ren_ints, List.map_cons, List.map_nil, hf, ek]; done) | rfl); (· simp [resAL, resA1, loadA, oneOr, ints_nil, ren_lit, ren_ref, ren_any, ren_agg, ren_tup, ren_sl, ren_fn, tren_none, tren_full, tren_row, oren_cells, oren_row, oren_dead, ixs_z, ixs_1, ixs_2, ixs_3, ren_ints, List.map_cons, List.map_nil, hf, ek]))
theorem index_Entries (l : List Mk) (hl : Mks l) (hn : l.length ≤ 140737488355328) : Ct Try.prog 67 [slM l] [] (fun _ => iA (if rightM l = true then cntTo l l.length else 0)) [] (fun _ => []) := (index_Entries0 l hl hn).toCt (by intros; simp [ints_nil, ren_lit, ren_ref, ren_any, ren_agg, ren_tup, ren_sl, ren_fn, tren_none, tren_full, tren_row, oren_cells, oren_row, oren_dead, ixs_z, ixs_1, ixs_2, ixs_3, ren_ints, List.map_cons, List.map_nil, ixs, List.range'_succ, ren_ints]) (by intros; simp [ints_nil, ren_lit, ren_ref, ren_any, ren_agg, ren_tup, ren_sl, ren_fn, tren_none, tren_full, tren_row, oren_cells, oren_row, oren_dead, ixs_z, ixs_1, ixs_2, ixs_3, ren_ints, List.map_cons, List.map_nil, ixs, List.range'_succ, ren_ints])
def endsM (l : List Mk) : Int × Int := if l.length = 0 ∨ rightM l = false then (0, 0) else ((l.getD 0 mk0).pos, (l.getD (l.length - 1) mk0).fin)
theorem index_Ends0 (l : List Mk) (hl : Mks l) (hn : l.length ≤ 140737488355328) : Does Try.prog 68 [slM l] [] (.tup [uA (endsM l).1, uA (endsM l).2]) [] := by
  refine Does.run Try.func68 b68 n68 Try.ntmps68 (by simp only [List.cons_append, List.nil_append, List.length_cons, List.length_nil, Nat.zero_add, Nat.reduceAdd, Nat.reduceSub, List.replicate]; rfl) ?_; simp only [c68, go_sem, Nat.reduceAdd, Nat.reduceMul, Int.reduceToNat, Nat.reduceLeDiff, Int.reduceLE, Int.reduceLT, ↓reduceIte, Int.reduceBEq, Int.reduceBNe, Int.reduceAdd, Int.reduceSub, Int.reduceMul, qFin_ret, qFin_normal, mks_length]; (try ((refine okTr_and ?_ ?_); (· rfl)))
  by_cases hz : l.length = 0
  · have q : ((l.length : Int) == 0) = true := by simp only [beq_iff_eq]; omega
    have he : endsM l = (0, 0) := by unfold endsM; rw [if_pos (.inl hz)]
    (simp only [go_sem, Nat.reduceAdd, Nat.reduceMul, Int.reduceToNat, Nat.reduceLeDiff, Int.reduceLE, Int.reduceLT, ↓reduceIte, Int.reduceBEq, Int.reduceBNe, Int.reduceAdd, Int.reduceSub, Int.reduceMul, qFin_ret, qFin_normal, q]; (try ((refine okTr_and ?_ ?_); (· rfl))))
    ((refine FinK.fin r68 [] ?_ ?_ ?_ ?_ ?_ ?_); (· decide); (· rfl); (· simp); (· rfl); (· first | with_reducible rfl | (simp [ints_nil, ren_lit, ren_ref, ren_any, ren_agg, ren_tup, ren_sl, ren_fn, tren_none, tren_full, tren_row, oren_cells, oren_row, oren_dead, ixs_z, ixs_1, ixs_2, ixs_3, ren_ints, List.map_cons, List.map_nil, he]; done) | rfl); (· simp [resAL, resA1, loadA, oneOr, ints_nil, ren_lit, ren_ref, ren_any, ren_agg, ren_tup, ren_sl, ren_fn, tren_none, tren_full, tren_row, oren_cells, oren_row, oren_dead, ixs_z, ixs_1, ixs_2, ixs_3, ren_ints, List.map_cons, List.map_nil, he]))
  · have q : ((l.length : Int) == 0) = false := by simp only [beq_eq_false_iff_ne, ne_eq]; omega
    (simp only [go_sem, Nat.reduceAdd, Nat.reduceMul, Int.reduceToNat, Nat.reduceLeDiff, Int.reduceLE, Int.reduceLT, ↓reduceIte, Int.reduceBEq, Int.reduceBNe, Int.reduceAdd, Int.reduceSub, Int.reduceMul, qFin_ret, qFin_normal, q]; (try ((refine okTr_and ?_ ?_); (· rfl))))
    refine CallK.p (index_Right l hl hn) ?_
    cases hf : rightM l
    · have he : endsM l = (0, 0) := by unfold endsM; rw [if_pos (.inr hf)]
      (simp only [go_sem, Nat.reduceAdd, Nat.reduceMul, Int.reduceToNat, Nat.reduceLeDiff, Int.reduceLE, Int.reduceLT, ↓reduceIte, Int.reduceBEq, Int.reduceBNe, Int.reduceAdd, Int.reduceSub, Int.reduceMul, qFin_ret, qFin_normal, hf]; (try ((refine okTr_and ?_ ?_); (· rfl))))
      ((refine FinK.fin r68 [] ?_ ?_ ?_ ?_ ?_ ?_); (· decide); (· rfl); (· simp); (· rfl); (· first | with_reducible rfl | (simp [ints_nil, ren_lit, ren_ref, ren_any, ren_agg, ren_tup, ren_sl, ren_fn, tren_none, tren_full, tren_row, oren_cells, oren_row, oren_dead, ixs_z, ixs_1, ixs_2, ixs_3, ren_ints, List.map_cons, List.map_nil, he]; done) | rfl); (· simp [resAL, resA1, loadA, oneOr, ints_nil, ren_lit, ren_ref, ren_any, ren_agg, ren_tup, ren_sl, ren_fn, tren_none, tren_full, tren_row, oren_cells, oren_row, oren_dead, ixs_z, ixs_1, ixs_2, ixs_3, ren_ints, List.map_cons, List.map_nil, he]))
    · have he : endsM l = ((l.getD 0 mk0).pos, (l.getD (l.length - 1) mk0).fin) := by unfold endsM; rw [if_neg (by rintro (h | h); exact hz h; rw [hf] at h; cases h)]
      have g0 := mks_getD l 0 (by omega)
      have g1 := mks_get l (l.length - 1) (by omega)
      have ej : IntKind.i64.wrap ((l.length : Int) - 1) = ((l.length - 1 : Nat) : Int) := by rw [IntWalk.i64_in _ (by omega)]; omega
      have hx := right_at hf (k := l.length - 1) (by omega)
      (simp only [go_sem, Nat.reduceAdd, Nat.reduceMul, Int.reduceToNat, Nat.reduceLeDiff, Int.reduceLE, Int.reduceLT, ↓reduceIte, Int.reduceBEq, Int.reduceBNe, Int.reduceAdd, Int.reduceSub, Int.reduceMul, qFin_ret, qFin_normal, hf, g0, mks_length, ej, g1]; (try ((refine okTr_and ?_ ?_); (· rfl))))
      (repeat ((with_reducible refine And.intro ?_ ?_); (· first | with_reducible assumption | omega | with_reducible rfl | (simp only [List.length_append, List.length_cons, List.length_nil, List.length_singleton]; omega) | (simp [ints_length, okEl_eq, AV.parts]; done) | (simp [ints_length, okEl_eq, AV.parts]; omega) | rfl)))
      refine CallK.p (index_end (l.getD (l.length - 1) mk0) (by omega) (by omega) (by omega)) ?_; (simp only [go_sem, Nat.reduceAdd, Nat.reduceMul, Int.reduceToNat, Nat.reduceLeDiff, Int.reduceLE, Int.reduceLT, ↓reduceIte, Int.reduceBEq, Int.reduceBNe, Int.reduceAdd, Int.reduceSub, Int.reduceMul, qFin_ret, qFin_normal]; (try ((refine okTr_and ?_ ?_); (· rfl))))
      ((refine FinK.fin r68 [] ?_ ?_ ?_ ?_ ?_ ?_); (· decide); (· rfl); (· simp); (· rfl); (· first | with_reducible rfl | (simp [ints_nil, ren_lit, ren_ref, ren_any, ren_agg, ren_tup, ren_sl, ren_fn, tren_none, tren_full, tren_row, oren_cells, oren_row, oren_dead, ixs_z, ixs_1, ixs_2, ixs_3, ren_ints, List.map_cons, List.map_nil, he]; done) | rfl); (· simp [resAL, resA1, loadA, oneOr, ints_nil, ren_lit, ren_ref, ren_any, ren_agg, ren_tup, ren_sl, ren_fn, tren_none, tren_full, tren_row, oren_cells, oren_row, oren_dead, ixs_z, ixs_1, ixs_2, ixs_3, ren_ints, List.map_cons, List.map_nil, he]))
theorem index_Ends (l : List Mk) (hl : Mks l) (hn : l.length ≤ 140737488355328) : Ct Try.prog 68 [slM l] [] (fun _ => .tup [uA (endsM l).1, uA (endsM l).2]) [] (fun _ => []) := (index_Ends0 l hl hn).toCt (by intros; simp [ints_nil, ren_lit, ren_ref, ren_any, ren_agg, ren_tup, ren_sl, ren_fn, tren_none, tren_full, tren_row, oren_cells, oren_row, oren_dead, ixs_z, ixs_1, ixs_2, ixs_3, ren_ints, List.map_cons, List.map_nil, ixs, List.range'_succ, ren_ints]) (by intros; simp [ints_nil, ren_lit, ren_ref, ren_any, ren_agg, ren_tup, ren_sl, ren_fn, tren_none, tren_full, tren_row, oren_cells, oren_row, oren_dead, ixs_z, ixs_1, ixs_2, ixs_3, ren_ints, List.map_cons, List.map_nil, ixs, List.range'_succ, ren_ints])
theorem ref32_Find0 (l : List Mk) (pos : Int) (hr : rightM l = true) : Does Try.prog 71 [slM l, uA pos] [] (iA (if fstI (hit pos) l < l.length then (fstI (hit pos) l : Int) else -1)) [] := by
  have h16 := (rightM_wf.1 hr).2
  refine Does.run Try.func71 b71 n71 Try.ntmps71 (by simp only [List.cons_append, List.nil_append, List.length_cons, List.length_nil, Nat.zero_add, Nat.reduceAdd, Nat.reduceSub, List.replicate]; rfl) ?_; simp only [c71, go_sem, Nat.reduceAdd, Nat.reduceMul, Int.reduceToNat, Nat.reduceLeDiff, Int.reduceLE, Int.reduceLT, ↓reduceIte, Int.reduceBEq, Int.reduceBNe, Int.reduceAdd, Int.reduceSub, Int.reduceMul, qFin_ret, qFin_normal]; (try ((refine okTr_and ?_ ?_); (· rfl)))
  refine loop_of (α := Nat) (fun k => [slM l, uA pos, .any, .any, .any, iA k, .any, .any, .any, .any, .any, .any, .any, .any, .any, .any, .any, .any, .any, .any, .any, .any, .any, .any, .any, .any, .any, .any, .any, .any, .any, .any, .any, .any, .any, .any]) (fun _ => []) (fun k => k ≤ l.length ∧ ∀ i, i < k → hit pos (l.getD i mk0) = false) (fun k => l.length - k) 0 ⟨by simp, by intro i hi; omega⟩ (Wk.to (by simp) (by simp [leT])) ?_
  rintro k ⟨hk, hn⟩
  (simp only [go_sem, Nat.reduceAdd, Nat.reduceMul, Int.reduceToNat, Nat.reduceLeDiff, Int.reduceLE, Int.reduceLT, ↓reduceIte, Int.reduceBEq, Int.reduceBNe, Int.reduceAdd, Int.reduceSub, Int.reduceMul, qFin_ret, qFin_normal, mks_length]; (try ((refine okTr_and ?_ ?_); (· rfl))))
  refine cdK_split (fun h => ?_) (fun h => ?_)
  · have hlt : k < l.length := by simpa using h
    have g := mks_get l k hlt
    have ei := i64_succ k (by omega)
    have hx := right_at hr hlt
    obtain ⟨x, hxe⟩ : ∃ x, l.getD k mk0 = x := ⟨_, rfl⟩
    rw [hxe] at g hx
    have w1 : IntKind.u64.wrap x.cnt = x.cnt := IntWalk.u64_in _ (by omega)
    have w2 : IntKind.u64.wrap (x.pos + x.cnt) = x.fin := IntWalk.u64_in _ (by omega)
    cases q1 : decide (x.pos ≤ pos)
    · have hno : hit pos x = false := by unfold hit; rw [q1]; rfl
      (simp only [go_sem, Nat.reduceAdd, Nat.reduceMul, Int.reduceToNat, Nat.reduceLeDiff, Int.reduceLE, Int.reduceLT, ↓reduceIte, Int.reduceBEq, Int.reduceBNe, Int.reduceAdd, Int.reduceSub, Int.reduceMul, qFin_ret, qFin_normal, g, mks_length, q1, ei]; (try ((refine okTr_and ?_ ?_); (· rfl))))
      (repeat ((with_reducible refine And.intro ?_ ?_); (· first | with_reducible assumption | omega | with_reducible rfl | (simp only [List.length_append, List.length_cons, List.length_nil, List.length_singleton]; omega) | (simp [ints_length, okEl_eq, AV.parts]; done) | (simp [ints_length, okEl_eq, AV.parts]; omega) | rfl)))
      refine ⟨k + 1, ⟨hlt, fun i hi => ?_⟩, by omega, Wk.to (by simp) (by simp [leT])⟩
      rcases Nat.lt_or_ge i k with h3 | h3
      · exact hn i h3
      · obtain rfl : i = k := by omega
        rw [hxe]; exact hno
    · cases q2 : decide (pos < x.fin)
      · have hno : hit pos x = false := by unfold hit; rw [q2]; simp
        (simp only [go_sem, Nat.reduceAdd, Nat.reduceMul, Int.reduceToNat, Nat.reduceLeDiff, Int.reduceLE, Int.reduceLT, ↓reduceIte, Int.reduceBEq, Int.reduceBNe, Int.reduceAdd, Int.reduceSub, Int.reduceMul, qFin_ret, qFin_normal, g, mks_length, q1, w1, w2, q2, ei]; (try ((refine okTr_and ?_ ?_); (· rfl))))
        (repeat ((with_reducible refine And.intro ?_ ?_); (· first | with_reducible assumption | omega | with_reducible rfl | (simp only [List.length_append, List.length_cons, List.length_nil, List.length_singleton]; omega) | (simp [ints_length, okEl_eq, AV.parts]; done) | (simp [ints_length, okEl_eq, AV.parts]; omega) | rfl)))
        refine ⟨k + 1, ⟨hlt, fun i hi => ?_⟩, by omega, Wk.to (by simp) (by simp [leT])⟩
        rcases Nat.lt_or_ge i k with h3 | h3
        · exact hn i h3
        · obtain rfl : i = k := by omega
          rw [hxe]; exact hno
      · have hyes : hit pos x = true := by unfold hit; rw [q1, q2]; rfl
        have hk2 : fstI (hit pos) l = k := fstI_is hlt (by rw [hxe]; exact hyes) hn
        (simp only [go_sem, Nat.reduceAdd, Nat.reduceMul, Int.reduceToNat, Nat.reduceLeDiff, Int.reduceLE, Int.reduceLT, ↓reduceIte, Int.reduceBEq, Int.reduceBNe, Int.reduceAdd, Int.reduceSub, Int.reduceMul, qFin_ret, qFin_normal, g, mks_length, q1, w1, w2, q2]; (try ((refine okTr_and ?_ ?_); (· rfl))))
        (repeat ((with_reducible refine And.intro ?_ ?_); (· first | with_reducible assumption | omega | with_reducible rfl | (simp only [List.length_append, List.length_cons, List.length_nil, List.length_singleton]; omega) | (simp [ints_length, okEl_eq, AV.parts]; done) | (simp [ints_length, okEl_eq, AV.parts]; omega) | rfl)))
        ((refine FinK.fin r71 [] ?_ ?_ ?_ ?_ ?_ ?_); (· decide); (· rfl); (· simp); (· rfl); (· first | with_reducible rfl | (simp [ints_nil, ren_lit, ren_ref, ren_any, ren_agg, ren_tup, ren_sl, ren_fn, tren_none, tren_full, tren_row, oren_cells, oren_row, oren_dead, ixs_z, ixs_1, ixs_2, ixs_3, ren_ints, List.map_cons, List.map_nil, hk2, hlt]; done) | rfl); (· simp [resAL, resA1, loadA, oneOr, ints_nil, ren_lit, ren_ref, ren_any, ren_agg, ren_tup, ren_sl, ren_fn, tren_none, tren_full, tren_row, oren_cells, oren_row, oren_dead, ixs_z, ixs_1, ixs_2, ixs_3, ren_ints, List.map_cons, List.map_nil, hk2, hlt]))
  · have hnone : fstI (hit pos) l = l.length := fstI_none fun i hi => hn i (by simp at h; omega)
    (simp only [go_sem, Nat.reduceAdd, Nat.reduceMul, Int.reduceToNat, Nat.reduceLeDiff, Int.reduceLE, Int.reduceLT, ↓reduceIte, Int.reduceBEq, Int.reduceBNe, Int.reduceAdd, Int.reduceSub, Int.reduceMul, qFin_ret, qFin_normal]; (try ((refine okTr_and ?_ ?_); (· rfl))))
    ((refine FinK.fin r71 [] ?_ ?_ ?_ ?_ ?_ ?_); (· decide); (· rfl); (· simp); (· rfl); (· first | with_reducible rfl | (simp [ints_nil, ren_lit, ren_ref, ren_any, ren_agg, ren_tup, ren_sl, ren_fn, tren_none, tren_full, tren_row, oren_cells, oren_row, oren_dead, ixs_z, ixs_1, ixs_2, ixs_3, ren_ints, List.map_cons, List.map_nil, hnone]; done) | rfl); (· simp [resAL, resA1, loadA, oneOr, ints_nil, ren_lit, ren_ref, ren_any, ren_agg, ren_tup, ren_sl, ren_fn, tren_none, tren_full, tren_row, oren_cells, oren_row, oren_dead, ixs_z, ixs_1, ixs_2, ixs_3, ren_ints, List.map_cons, List.map_nil, hnone]))
theorem ref32_Find (l : List Mk) (pos : Int) (hr : rightM l = true) : Ct Try.prog 71 [slM l, uA pos] [] (fun _ => iA (if fstI (hit pos) l < l.length then (fstI (hit pos) l : Int) else -1)) [] (fun _ => []) := (ref32_Find0 l pos hr).toCt (by intros; simp [ints_nil, ren_lit, ren_ref, ren_any, ren_agg, ren_tup, ren_sl, ren_fn, tren_none, tren_full, tren_row, oren_cells, oren_row, oren_dead, ixs_z, ixs_1, ixs_2, ixs_3, ren_ints, List.map_cons, List.map_nil, ixs, List.range'_succ, ren_ints]) (by intros; simp [ints_nil, ren_lit, ren_ref, ren_any, ren_agg, ren_tup, ren_sl, ren_fn, tren_none, tren_full, tren_row, oren_cells, oren_row, oren_dead, ixs_z, ixs_1, ixs_2, ixs_3, ren_ints, List.map_cons, List.map_nil, ixs, List.range'_succ, ren_ints])
/-- The mark of a position, and is there one. -/
def findM (l : List Mk) (pos : Int) : Mk × Bool := if rightM l = true ∧ fstI (hit pos) l < l.length then (l.getD (fstI (hit pos) l) mk0, true) else (mk0, false)
set_option maxRecDepth 100000 in
theorem index_Find0 (l : List Mk) (pos : Int) (hl : Mks l) (hn : l.length ≤ 140737488355328) : Does Try.prog 70 [slM l, uA pos] [] (.tup [mkA (findM l pos).1, bA (findM l pos).2]) [] := by
  refine Does.run Try.func70 b70 n70 Try.ntmps70 (by simp only [List.cons_append, List.nil_append, List.length_cons, List.length_nil, Nat.zero_add, Nat.reduceAdd, Nat.reduceSub, List.replicate]; rfl) ?_; simp only [c70, go_sem, Nat.reduceAdd, Nat.reduceMul, Int.reduceToNat, Nat.reduceLeDiff, Int.reduceLE, Int.reduceLT, ↓reduceIte, Int.reduceBEq, Int.reduceBNe, Int.reduceAdd, Int.reduceSub, Int.reduceMul, qFin_ret, qFin_normal]; (try ((refine okTr_and ?_ ?_); (· rfl)))
  cases hf : rightM l
  · have he : findM l pos = (mk0, false) := by unfold findM; rw [hf]; simp
    refine scope_no ?_
    (simp only [go_sem, Nat.reduceAdd, Nat.reduceMul, Int.reduceToNat, Nat.reduceLeDiff, Int.reduceLE, Int.reduceLT, ↓reduceIte, Int.reduceBEq, Int.reduceBNe, Int.reduceAdd, Int.reduceSub, Int.reduceMul, qFin_ret, qFin_normal, mks_length]; (try ((refine okTr_and ?_ ?_); (· rfl))))
    refine CallK.p (index_Right l hl hn) ?_; (simp only [go_sem, Nat.reduceAdd, Nat.reduceMul, Int.reduceToNat, Nat.reduceLeDiff, Int.reduceLE, Int.reduceLT, ↓reduceIte, Int.reduceBEq, Int.reduceBNe, Int.reduceAdd, Int.reduceSub, Int.reduceMul, qFin_ret, qFin_normal, hf]; (try ((refine okTr_and ?_ ?_); (· rfl))))
    ((refine FinK.fin r70 [] ?_ ?_ ?_ ?_ ?_ ?_); (· decide); (· rfl); (· simp); (· rfl); (· first | with_reducible rfl | (simp [ints_nil, ren_lit, ren_ref, ren_any, ren_agg, ren_tup, ren_sl, ren_fn, tren_none, tren_full, tren_row, oren_cells, oren_row, oren_dead, ixs_z, ixs_1, ixs_2, ixs_3, ren_ints, List.map_cons, List.map_nil, he, mk0]; done) | rfl); (· simp [resAL, resA1, loadA, oneOr, ints_nil, ren_lit, ren_ref, ren_any, ren_agg, ren_tup, ren_sl, ren_fn, tren_none, tren_full, tren_row, oren_cells, oren_row, oren_dead, ixs_z, ixs_1, ixs_2, ixs_3, ren_ints, List.map_cons, List.map_nil, he, mk0]))
  · have h16 := (rightM_wf.1 hf).2
    refine scope_of (α := Nat × Nat) 0 (by rfl) (fun a => [slM l, uA pos, .any, .any, .ref 0 0, .any, iA a.1, iA a.2, .any, .any, .any, .any, .any, .any, .any, .any, .any, .any, .any, .any, .any, .any, .any, .any, .any, .any, .any, .any, .any, .any, .any, .any, .any, .any, .any, .any, .any, .any, .any, .any, .any, .any]) (fun _ => [.cells [uA 0, iA 0, iA 0]])
      (fun a => a.1 ≤ a.2 ∧ a.2 ≤ l.length ∧ (∀ i, i < a.1 → (l.getD i mk0).fin ≤ pos) ∧ ∀ i, a.2 ≤ i → i < l.length → pos < (l.getD i mk0).pos) (fun a => a.2 - a.1) (fun pass => ?_) ?_
    · (simp only [go_sem, Nat.reduceAdd, Nat.reduceMul, Int.reduceToNat, Nat.reduceLeDiff, Int.reduceLE, Int.reduceLT, ↓reduceIte, Int.reduceBEq, Int.reduceBNe, Int.reduceAdd, Int.reduceSub, Int.reduceMul, qFin_ret, qFin_normal, mks_length]; (try ((refine okTr_and ?_ ?_); (· rfl))))
      refine CallK.p (index_Right l hl hn) ?_; (simp only [go_sem, Nat.reduceAdd, Nat.reduceMul, Int.reduceToNat, Nat.reduceLeDiff, Int.reduceLE, Int.reduceLT, ↓reduceIte, Int.reduceBEq, Int.reduceBNe, Int.reduceAdd, Int.reduceSub, Int.reduceMul, qFin_ret, qFin_normal, hf]; (try ((refine okTr_and ?_ ?_); (· rfl))))
      exact kLab_go (Wk.to (by simp) (by simp [leT])) (pass (0, l.length) ⟨by simp, by simp, by intro i hi; simp at hi, by intro i hi h; simp at hi; omega⟩)
    · rintro ⟨lo, hi⟩ ⟨h1, h2, h3, h4⟩
      simp only at h1 h2 h3 h4
      (simp only [go_sem, Nat.reduceAdd, Nat.reduceMul, Int.reduceToNat, Nat.reduceLeDiff, Int.reduceLE, Int.reduceLT, ↓reduceIte, Int.reduceBEq, Int.reduceBNe, Int.reduceAdd, Int.reduceSub, Int.reduceMul, qFin_ret, qFin_normal]; (try ((refine okTr_and ?_ ?_); (· rfl))))
      by_cases he : lo = hi
      · have q : ((lo : Int) == hi) = true := by simp; omega
        have hnone : fstI (hit pos) l = l.length := by
          refine fstI_none fun i hil => ?_
          cases hh : hit pos (l.getD i mk0) with
          | false => rfl
          | true =>
            have := hit_iff.1 hh
            rcases Nat.lt_or_ge i lo with h5 | h5
            · have := h3 i h5; omega
            · have := h4 i (by omega) hil; omega
        have hfm : findM l pos = (mk0, false) := by unfold findM; rw [hnone]; simp
        (simp only [go_sem, Nat.reduceAdd, Nat.reduceMul, Int.reduceToNat, Nat.reduceLeDiff, Int.reduceLE, Int.reduceLT, ↓reduceIte, Int.reduceBEq, Int.reduceBNe, Int.reduceAdd, Int.reduceSub, Int.reduceMul, qFin_ret, qFin_normal, q]; (try ((refine okTr_and ?_ ?_); (· rfl))))
        ((refine FinK.fin r70 [] ?_ ?_ ?_ ?_ ?_ ?_); (· decide); (· rfl); (· simp); (· rfl); (· first | with_reducible rfl | (simp [ints_nil, ren_lit, ren_ref, ren_any, ren_agg, ren_tup, ren_sl, ren_fn, tren_none, tren_full, tren_row, oren_cells, oren_row, oren_dead, ixs_z, ixs_1, ixs_2, ixs_3, ren_ints, List.map_cons, List.map_nil, hfm, mk0]; done) | rfl); (· simp [resAL, resA1, loadA, oneOr, ints_nil, ren_lit, ren_ref, ren_any, ren_agg, ren_tup, ren_sl, ren_fn, tren_none, tren_full, tren_row, oren_cells, oren_row, oren_dead, ixs_z, ixs_1, ixs_2, ixs_3, ren_ints, List.map_cons, List.map_nil, hfm, mk0]))
      · have q : ((lo : Int) == hi) = false := by simp; omega
        have e1 : IntKind.i64.wrap ((lo : Int) + hi) = lo + hi := IntWalk.i64_in _ (by omega)
        have e2 : IntKind.i64.wrap (((lo : Int) + hi).tdiv 2) = (((lo + hi) / 2 : Nat) : Int) := by
          rw [Int.tdiv_eq_ediv_of_nonneg (by omega), IntWalk.i64_in _ (by omega)]; omega
        obtain ⟨m, hm⟩ : ∃ m, (lo + hi) / 2 = m := ⟨_, rfl⟩
        rw [hm] at e2
        have hml : m < l.length := by omega
        have g := mks_get l m hml
        have hx := right_at hf hml
        obtain ⟨x, hxe⟩ : ∃ x, l.getD m mk0 = x := ⟨_, rfl⟩
        rw [hxe] at g hx
        have ei : IntKind.i64.wrap ((m : Int) + 1) = ((m + 1 : Nat) : Int) := i64_succ m (by omega)
        by_cases c1 : pos < x.pos
        · have r1 : decide (pos < x.pos) = true := by simpa using c1
          (simp only [go_sem, Nat.reduceAdd, Nat.reduceMul, Int.reduceToNat, Nat.reduceLeDiff, Int.reduceLE, Int.reduceLT, ↓reduceIte, Int.reduceBEq, Int.reduceBNe, Int.reduceAdd, Int.reduceSub, Int.reduceMul, qFin_ret, qFin_normal, q, e1, e2, g, mks_length, r1]; (try ((refine okTr_and ?_ ?_); (· rfl))))
          (repeat ((with_reducible refine And.intro ?_ ?_); (· first | with_reducible assumption | omega | with_reducible rfl | (simp only [List.length_append, List.length_cons, List.length_nil, List.length_singleton]; omega) | (simp [ints_length, okEl_eq, AV.parts]; done) | (simp [ints_length, okEl_eq, AV.parts]; omega) | rfl)))
          refine ⟨(lo, m), ⟨by simp only; omega, by simp only; omega, h3, fun i hmi hil => ?_⟩, by simp only; omega, Wk.sel [0] (by simp) rfl (by simp) rfl (by simp [ints_nil, ren_lit, ren_ref, ren_any, ren_agg, ren_tup, ren_sl, ren_fn, tren_none, tren_full, tren_row, oren_cells, oren_row, oren_dead, ixs_z, ixs_1, ixs_2, ixs_3, ren_ints, List.map_cons, List.map_nil]) (by simp [selT, ints_nil, ren_lit, ren_ref, ren_any, ren_agg, ren_tup, ren_sl, ren_fn, tren_none, tren_full, tren_row, oren_cells, oren_row, oren_dead, ixs_z, ixs_1, ixs_2, ixs_3, ren_ints, List.map_cons, List.map_nil, ixs])⟩
          rcases Nat.lt_or_ge m i with h5 | h5
          · have h6 := right_lt hf h5 hil
            rw [hxe] at h6
            unfold Mk.fin at h6
            omega
          · obtain rfl : i = m := by simp only at hmi; omega
            rw [hxe]; exact c1
        · have r1 : decide (pos < x.pos) = false := by simpa using c1
          by_cases c2 : x.fin ≤ pos
          · have r2 : decide (x.fin ≤ pos) = true := by simpa using c2
            (simp only [go_sem, Nat.reduceAdd, Nat.reduceMul, Int.reduceToNat, Nat.reduceLeDiff, Int.reduceLE, Int.reduceLT, ↓reduceIte, Int.reduceBEq, Int.reduceBNe, Int.reduceAdd, Int.reduceSub, Int.reduceMul, qFin_ret, qFin_normal, q, e1, e2, g, mks_length, r1]; (try ((refine okTr_and ?_ ?_); (· rfl))))
            (repeat ((with_reducible refine And.intro ?_ ?_); (· first | with_reducible assumption | omega | with_reducible rfl | (simp only [List.length_append, List.length_cons, List.length_nil, List.length_singleton]; omega) | (simp [ints_length, okEl_eq, AV.parts]; done) | (simp [ints_length, okEl_eq, AV.parts]; omega) | rfl)))
            refine CallK.p (index_end x (by omega) (by omega) (by omega)) ?_; (simp only [go_sem, Nat.reduceAdd, Nat.reduceMul, Int.reduceToNat, Nat.reduceLeDiff, Int.reduceLE, Int.reduceLT, ↓reduceIte, Int.reduceBEq, Int.reduceBNe, Int.reduceAdd, Int.reduceSub, Int.reduceMul, qFin_ret, qFin_normal, r2, ei]; (try ((refine okTr_and ?_ ?_); (· rfl))))
            refine ⟨(m + 1, hi), ⟨by simp only; omega, h2, fun i hmi => ?_, h4⟩, by simp only; omega, Wk.sel [0] (by simp) rfl (by simp) rfl (by simp [ints_nil, ren_lit, ren_ref, ren_any, ren_agg, ren_tup, ren_sl, ren_fn, tren_none, tren_full, tren_row, oren_cells, oren_row, oren_dead, ixs_z, ixs_1, ixs_2, ixs_3, ren_ints, List.map_cons, List.map_nil]) (by simp [selT, ints_nil, ren_lit, ren_ref, ren_any, ren_agg, ren_tup, ren_sl, ren_fn, tren_none, tren_full, tren_row, oren_cells, oren_row, oren_dead, ixs_z, ixs_1, ixs_2, ixs_3, ren_ints, List.map_cons, List.map_nil, ixs])⟩
            rcases Nat.lt_or_ge i m with h5 | h5
            · have h6 := right_lt hf h5 hml
              rw [hxe] at h6
              unfold Mk.fin at c2
              omega
            · obtain rfl : i = m := by simp only at hmi; omega
              rw [hxe]; exact c2
          · have r2 : decide (x.fin ≤ pos) = false := by simpa using c2
            have hyes : hit pos (l.getD m mk0) = true := hit_iff.2 (by rw [hxe]; omega)
            have hk2 : fstI (hit pos) l = m := fstI_is hml hyes fun i hi => by
              cases hh : hit pos (l.getD i mk0) with
              | false => rfl
              | true => have := hit_one hf (by omega) hml hh hyes; omega
            have hfm : findM l pos = (x, true) := by unfold findM; rw [hk2, if_pos ⟨hf, hml⟩, hxe]
            (simp only [go_sem, Nat.reduceAdd, Nat.reduceMul, Int.reduceToNat, Nat.reduceLeDiff, Int.reduceLE, Int.reduceLT, ↓reduceIte, Int.reduceBEq, Int.reduceBNe, Int.reduceAdd, Int.reduceSub, Int.reduceMul, qFin_ret, qFin_normal, q, e1, e2, g, mks_length, r1]; (try ((refine okTr_and ?_ ?_); (· rfl))))
            (repeat ((with_reducible refine And.intro ?_ ?_); (· first | with_reducible assumption | omega | with_reducible rfl | (simp only [List.length_append, List.length_cons, List.length_nil, List.length_singleton]; omega) | (simp [ints_length, okEl_eq, AV.parts]; done) | (simp [ints_length, okEl_eq, AV.parts]; omega) | rfl)))
            refine CallK.p (index_end x (by omega) (by omega) (by omega)) ?_; (simp only [go_sem, Nat.reduceAdd, Nat.reduceMul, Int.reduceToNat, Nat.reduceLeDiff, Int.reduceLE, Int.reduceLT, ↓reduceIte, Int.reduceBEq, Int.reduceBNe, Int.reduceAdd, Int.reduceSub, Int.reduceMul, qFin_ret, qFin_normal, r2]; (try ((refine okTr_and ?_ ?_); (· rfl))))
            ((refine FinK.fin r70 [] ?_ ?_ ?_ ?_ ?_ ?_); (· decide); (· rfl); (· simp); (· rfl); (· first | with_reducible rfl | (simp [ints_nil, ren_lit, ren_ref, ren_any, ren_agg, ren_tup, ren_sl, ren_fn, tren_none, tren_full, tren_row, oren_cells, oren_row, oren_dead, ixs_z, ixs_1, ixs_2, ixs_3, ren_ints, List.map_cons, List.map_nil, hfm]; done) | rfl); (· simp [resAL, resA1, loadA, oneOr, ints_nil, ren_lit, ren_ref, ren_any, ren_agg, ren_tup, ren_sl, ren_fn, tren_none, tren_full, tren_row, oren_cells, oren_row, oren_dead, ixs_z, ixs_1, ixs_2, ixs_3, ren_ints, List.map_cons, List.map_nil, hfm]))
theorem index_Find (l : List Mk) (pos : Int) (hl : Mks l) (hn : l.length ≤ 140737488355328) : Ct Try.prog 70 [slM l, uA pos] [] (fun _ => .tup [mkA (findM l pos).1, bA (findM l pos).2]) [] (fun _ => []) := (index_Find0 l pos hl hn).toCt (by intros; simp [ints_nil, ren_lit, ren_ref, ren_any, ren_agg, ren_tup, ren_sl, ren_fn, tren_none, tren_full, tren_row, oren_cells, oren_row, oren_dead, ixs_z, ixs_1, ixs_2, ixs_3, ren_ints, List.map_cons, List.map_nil, ixs, List.range'_succ, ren_ints]) (by intros; simp [ints_nil, ren_lit, ren_ref, ren_any, ren_agg, ren_tup, ren_sl, ren_fn, tren_none, tren_full, tren_row, oren_cells, oren_row, oren_dead, ixs_z, ixs_1, ixs_2, ixs_3, ren_ints, List.map_cons, List.map_nil, ixs, List.range'_succ, ren_ints])

/-- Pairs of numbers. -/
def prs (l : List (Int × Int)) : List AV := l.map fun p => .agg [uA p.1, uA p.2]
@[simp] theorem ren_prs (ρ : Nat → Nat) (l : List (Int × Int)) : (prs l).map (fun x => x.ren ρ) = prs l := by simp [prs, ints_nil, ren_lit, ren_ref, ren_any, ren_agg, ren_tup, ren_sl, ren_fn, tren_none, tren_full, tren_row, oren_cells, oren_row, oren_dead, ixs_z, ixs_1, ixs_2, ixs_3, ren_ints, List.map_cons, List.map_nil]
theorem prs_length (l : List (Int × Int)) : (prs l).length = l.length := by simp [prs]
theorem prs_nil : prs [] = [] := (rfl)
theorem prs_snoc (l : List (Int × Int)) (a b : Int) : prs l ++ [.agg [uA a, uA b]] = prs (l ++ [(a, b)]) := by simp [prs]
theorem prs_get (l : List (Int × Int)) (k : Nat) (h : k < l.length) : (prs l).getD (k : Int).toNat .any = .agg [uA (l.getD k (0, 0)).1, uA (l.getD k (0, 0)).2] := by
  rw [Int.toNat_natCast]; simp [prs, h]
abbrev slP (l : List (Int × Int)) : AV := .sl .none 2 (prs l)
def gapsM (l : List Mk) : List (Int × Int) := if rightM l = true then gapTo l (max l.length 1) else []
theorem index_Gaps0 (l : List Mk) (hl : Mks l) (hn : l.length ≤ 140737488355328) : Does Try.prog 88 [slM l] [] (slP (gapsM l)) [] := by
  refine Does.run Try.func88 b88 n88 Try.ntmps88 (by simp only [List.cons_append, List.nil_append, List.length_cons, List.length_nil, Nat.zero_add, Nat.reduceAdd, Nat.reduceSub, List.replicate]; rfl) ?_; simp only [c88, go_sem, Nat.reduceAdd, Nat.reduceMul, Int.reduceToNat, Nat.reduceLeDiff, Int.reduceLE, Int.reduceLT, ↓reduceIte, Int.reduceBEq, Int.reduceBNe, Int.reduceAdd, Int.reduceSub, Int.reduceMul, qFin_ret, qFin_normal]; (try ((refine okTr_and ?_ ?_); (· rfl)))
  refine CallK.p (index_Right l hl hn) ?_
  cases hf : rightM l
  · have he : gapsM l = [] := by unfold gapsM; rw [hf]; rfl
    (simp only [go_sem, Nat.reduceAdd, Nat.reduceMul, Int.reduceToNat, Nat.reduceLeDiff, Int.reduceLE, Int.reduceLT, ↓reduceIte, Int.reduceBEq, Int.reduceBNe, Int.reduceAdd, Int.reduceSub, Int.reduceMul, qFin_ret, qFin_normal, hf]; (try ((refine okTr_and ?_ ?_); (· rfl))))
    (refine FinK.nilk 2 2 rfl ?_; simp only [List.set_cons_zero, List.set_cons_succ])
    ((refine FinK.fin r88 [] ?_ ?_ ?_ ?_ ?_ ?_); (· decide); (· rfl); (· simp); (· rfl); (· first | with_reducible rfl | (simp [ints_nil, ren_lit, ren_ref, ren_any, ren_agg, ren_tup, ren_sl, ren_fn, tren_none, tren_full, tren_row, oren_cells, oren_row, oren_dead, ixs_z, ixs_1, ixs_2, ixs_3, ren_ints, List.map_cons, List.map_nil, he, prs_nil]; done) | rfl); (· simp [resAL, resA1, loadA, oneOr, ints_nil, ren_lit, ren_ref, ren_any, ren_agg, ren_tup, ren_sl, ren_fn, tren_none, tren_full, tren_row, oren_cells, oren_row, oren_dead, ixs_z, ixs_1, ixs_2, ixs_3, ren_ints, List.map_cons, List.map_nil, he, prs_nil]))
  · have h16 := (rightM_wf.1 hf).2
    (simp only [go_sem, Nat.reduceAdd, Nat.reduceMul, Int.reduceToNat, Nat.reduceLeDiff, Int.reduceLE, Int.reduceLT, ↓reduceIte, Int.reduceBEq, Int.reduceBNe, Int.reduceAdd, Int.reduceSub, Int.reduceMul, qFin_ret, qFin_normal, hf]; (try ((refine okTr_and ?_ ?_); (· rfl))))
    refine loop_of (α := Nat) (fun k => [slM l, .any, .any, .sl (.row 0) 2 (prs (gapTo l (k + 1))), iA ((k + 1 : Nat) : Int), .any, .any, .any, .any, .any, .any, .any, .any, .any, .any, .any, .any, .any, .any, .any, .any, .any, .any, .any, .any, .any, .any, .any, .any, .any, .any, .any, .any, .any, .any, .any, .any, .any, .any]) (fun k => [.row 2 (gapTo l (k + 1)).length]) (fun k => k + 1 ≤ max l.length 1) (fun k => l.length - k) 0 (by simp; omega) ((Wk.row 3 2 rfl (.inr rfl) (by decide)).trans (Wk.to (by simp [gapTo]) (by simp [leT, prs, gapTo]))) ?_
    intro k hk
    (simp only [go_sem, Nat.reduceAdd, Nat.reduceMul, Int.reduceToNat, Nat.reduceLeDiff, Int.reduceLE, Int.reduceLT, ↓reduceIte, Int.reduceBEq, Int.reduceBNe, Int.reduceAdd, Int.reduceSub, Int.reduceMul, qFin_ret, qFin_normal, mks_length]; (try ((refine okTr_and ?_ ?_); (· rfl))))
    refine cdK_split (fun h => ?_) (fun h => ?_)
    · have hlt : k + 1 < l.length := by simp at h; omega
      have g1 := mks_get l (k + 1) hlt
      have g0 := mks_get l k (by omega)
      have ej : IntKind.i64.wrap (((k + 1 : Nat) : Int) - 1) = (k : Int) := by rw [IntWalk.i64_in _ (by omega)]; omega
      have ei := i64_succ (k + 1) (by omega)
      have hx := right_at hf (k := k) (by omega)
      have hgl := gapTo_len l (k + 1)
      (simp only [go_sem, Nat.reduceAdd, Nat.reduceMul, Int.reduceToNat, Nat.reduceLeDiff, Int.reduceLE, Int.reduceLT, ↓reduceIte, Int.reduceBEq, Int.reduceBNe, Int.reduceAdd, Int.reduceSub, Int.reduceMul, qFin_ret, qFin_normal, ej, g0, mks_length]; (try ((refine okTr_and ?_ ?_); (· rfl))))
      (repeat ((with_reducible refine And.intro ?_ ?_); (· first | with_reducible assumption | omega | with_reducible rfl | (simp only [List.length_append, List.length_cons, List.length_nil, List.length_singleton]; omega) | (simp [ints_length, okEl_eq, AV.parts]; done) | (simp [ints_length, okEl_eq, AV.parts]; omega) | rfl)))
      refine CallK.p (index_end (l.getD k mk0) (by omega) (by omega) (by omega)) ?_; (simp only [go_sem, Nat.reduceAdd, Nat.reduceMul, Int.reduceToNat, Nat.reduceLeDiff, Int.reduceLE, Int.reduceLT, ↓reduceIte, Int.reduceBEq, Int.reduceBNe, Int.reduceAdd, Int.reduceSub, Int.reduceMul, qFin_ret, qFin_normal, g1, mks_length]; (try ((refine okTr_and ?_ ?_); (· rfl))))
      (repeat ((with_reducible refine And.intro ?_ ?_); (· first | with_reducible assumption | omega | with_reducible rfl | (simp only [List.length_append, List.length_cons, List.length_nil, List.length_singleton]; omega) | (simp [ints_length, okEl_eq, AV.parts]; done) | (simp [ints_length, okEl_eq, AV.parts]; omega) | rfl)))
      by_cases c : (l.getD k mk0).fin < (l.getD (k + 1) mk0).pos
      · have q : decide ((l.getD k mk0).fin < (l.getD (k + 1) mk0).pos) = true := by simpa using c
        have hs : gapTo l (k + 1) ++ [((l.getD k mk0).fin, (l.getD (k + 1) mk0).pos)] = gapTo l (k + 1 + 1) := by simp only [gapTo, if_pos c]
        have hsl := congrArg List.length hs
        rw [List.length_append, List.length_singleton] at hsl
        (simp only [go_sem, Nat.reduceAdd, Nat.reduceMul, Int.reduceToNat, Nat.reduceLeDiff, Int.reduceLE, Int.reduceLT, ↓reduceIte, Int.reduceBEq, Int.reduceBNe, Int.reduceAdd, Int.reduceSub, Int.reduceMul, qFin_ret, qFin_normal, q, g1, mks_length, prs_snoc, hs, prs_length, ei]; (try ((refine okTr_and ?_ ?_); (· rfl))))
        (repeat ((with_reducible refine And.intro ?_ ?_); (· first | with_reducible assumption | omega | with_reducible rfl | (simp only [List.length_append, List.length_cons, List.length_nil, List.length_singleton]; omega) | (simp [ints_length, okEl_eq, AV.parts]; done) | (simp [ints_length, okEl_eq, AV.parts]; omega) | rfl)))
        exact ⟨k + 1, by omega, by omega, Wk.to (by simp; omega) (by simp [leT])⟩
      · have q : decide ((l.getD k mk0).fin < (l.getD (k + 1) mk0).pos) = false := by simpa using c
        have hs : gapTo l (k + 1) = gapTo l (k + 1 + 1) := by simp only [gapTo, if_neg c]
        (simp only [go_sem, Nat.reduceAdd, Nat.reduceMul, Int.reduceToNat, Nat.reduceLeDiff, Int.reduceLE, Int.reduceLT, ↓reduceIte, Int.reduceBEq, Int.reduceBNe, Int.reduceAdd, Int.reduceSub, Int.reduceMul, qFin_ret, qFin_normal, q, ei]; (try ((refine okTr_and ?_ ?_); (· rfl))))
        exact ⟨k + 1, by omega, by omega, Wk.to (by first | (rw [← hs]; done) | (rw [← hs]; simp)) (by rw [← hs]; simp [leT])⟩
    · have ek : k + 1 = max l.length 1 := by simp at h; omega
      have he : gapsM l = gapTo l (k + 1) := by unfold gapsM; rw [if_pos hf, ek]
      (simp only [go_sem, Nat.reduceAdd, Nat.reduceMul, Int.reduceToNat, Nat.reduceLeDiff, Int.reduceLE, Int.reduceLT, ↓reduceIte, Int.reduceBEq, Int.reduceBNe, Int.reduceAdd, Int.reduceSub, Int.reduceMul, qFin_ret, qFin_normal]; (try ((refine okTr_and ?_ ?_); (· rfl))))
      (refine FinK.untag 2 rfl ?_; simp only [untag1_sl, List.set_cons_zero, List.set_cons_succ])
      ((refine FinK.fin r88 [] ?_ ?_ ?_ ?_ ?_ ?_); (· decide); (· rfl); (· simp); (· rfl); (· first | with_reducible rfl | (simp [ints_nil, ren_lit, ren_ref, ren_any, ren_agg, ren_tup, ren_sl, ren_fn, tren_none, tren_full, tren_row, oren_cells, oren_row, oren_dead, ixs_z, ixs_1, ixs_2, ixs_3, ren_ints, List.map_cons, List.map_nil, he]; done) | rfl); (· simp [resAL, resA1, loadA, oneOr, ints_nil, ren_lit, ren_ref, ren_any, ren_agg, ren_tup, ren_sl, ren_fn, tren_none, tren_full, tren_row, oren_cells, oren_row, oren_dead, ixs_z, ixs_1, ixs_2, ixs_3, ren_ints, List.map_cons, List.map_nil, he]))
theorem index_Gaps (l : List Mk) (hl : Mks l) (hn : l.length ≤ 140737488355328) : Ct Try.prog 88 [slM l] [] (fun _ => slP (gapsM l)) [] (fun _ => []) := (index_Gaps0 l hl hn).toCt (by intros; simp [ints_nil, ren_lit, ren_ref, ren_any, ren_agg, ren_tup, ren_sl, ren_fn, tren_none, tren_full, tren_row, oren_cells, oren_row, oren_dead, ixs_z, ixs_1, ixs_2, ixs_3, ren_ints, List.map_cons, List.map_nil, ixs, List.range'_succ, ren_ints]) (by intros; simp [ints_nil, ren_lit, ren_ref, ren_any, ren_agg, ren_tup, ren_sl, ren_fn, tren_none, tren_full, tren_row, oren_cells, oren_row, oren_dead, ixs_z, ixs_1, ixs_2, ixs_3, ren_ints, List.map_cons, List.map_nil, ixs, List.range'_succ, ren_ints])
end Go.Proofs.Ytgphhganepjaiaa
end
section
namespace Go.Proofs.Ytgphhganepjaiaa
open Go.RowKit

def beh (pos : Int) (m : Mk) : Bool := decide (pos < m.fin)
def boxL (l : List Mk) : AObj := .cells [slM l]
def boxP (pos : Int) : AObj := .cells [uA pos]
theorem boxL_ren (ρ : Nat → Nat) (l : List Mk) : (boxL l).ren ρ = boxL l := by simp [boxL, ints_nil, ren_lit, ren_ref, ren_any, ren_agg, ren_tup, ren_sl, ren_fn, tren_none, tren_full, tren_row, oren_cells, oren_row, oren_dead, ixs_z, ixs_1, ixs_2, ixs_3, ren_ints, List.map_cons, List.map_nil]
theorem boxP_ren (ρ : Nat → Nat) (p : Int) : (boxP p).ren ρ = boxP p := by simp [boxP, ints_nil, ren_lit, ren_ref, ren_any, ren_agg, ren_tup, ren_sl, ren_fn, tren_none, tren_full, tren_row, oren_cells, oren_row, oren_dead, ixs_z, ixs_1, ixs_2, ixs_3, ren_ints, List.map_cons, List.map_nil]
theorem index_Near10 (l : List Mk) (pos : Int) (hr : rightM l = true) (k : Nat) (hk : k < l.length) : Does Try.prog 135 [iA k, .ref 0 0, .ref 1 0] [boxP pos, boxL l] (bA (beh pos (l.getD k mk0))) [boxP pos, boxL l] := by
  have g := mks_get l k hk
  have hx := right_at hr hk
  refine Does.run Try.func135 b135 n135 Try.ntmps135 (by simp only [List.cons_append, List.nil_append, List.length_cons, List.length_nil, Nat.zero_add, Nat.reduceAdd, Nat.reduceSub, List.replicate]; rfl) ?_; simp only [c135, go_sem, Nat.reduceAdd, Nat.reduceMul, Int.reduceToNat, Nat.reduceLeDiff, Int.reduceLE, Int.reduceLT, ↓reduceIte, Int.reduceBEq, Int.reduceBNe, Int.reduceAdd, Int.reduceSub, Int.reduceMul, qFin_ret, qFin_normal, boxP, boxL, g, mks_length]; (try ((refine okTr_and ?_ ?_); (· rfl)))
  (repeat ((with_reducible refine And.intro ?_ ?_); (· first | with_reducible assumption | omega | with_reducible rfl | (simp only [List.length_append, List.length_cons, List.length_nil, List.length_singleton]; omega) | (simp [ints_length, okEl_eq, AV.parts]; done) | (simp [ints_length, okEl_eq, AV.parts]; omega) | rfl)))
  refine CallK.p (index_end (l.getD k mk0) (by omega) (by omega) (by omega)) ?_; (simp only [go_sem, Nat.reduceAdd, Nat.reduceMul, Int.reduceToNat, Nat.reduceLeDiff, Int.reduceLE, Int.reduceLT, ↓reduceIte, Int.reduceBEq, Int.reduceBNe, Int.reduceAdd, Int.reduceSub, Int.reduceMul, qFin_ret, qFin_normal]; (try ((refine okTr_and ?_ ?_); (· rfl))))
  ((refine FinK.fin r135 [0, 1] ?_ ?_ ?_ ?_ ?_ ?_); (· decide); (· rfl); (· simp); (· rfl); (· first | with_reducible rfl | (simp [ints_nil, ren_lit, ren_ref, ren_any, ren_agg, ren_tup, ren_sl, ren_fn, tren_none, tren_full, tren_row, oren_cells, oren_row, oren_dead, ixs_z, ixs_1, ixs_2, ixs_3, ren_ints, List.map_cons, List.map_nil, beh, boxP, boxL]; done) | rfl); (· simp [resAL, resA1, loadA, oneOr, ints_nil, ren_lit, ren_ref, ren_any, ren_agg, ren_tup, ren_sl, ren_fn, tren_none, tren_full, tren_row, oren_cells, oren_row, oren_dead, ixs_z, ixs_1, ixs_2, ixs_3, ren_ints, List.map_cons, List.map_nil, beh, boxP, boxL]))
theorem index_Near1 (l : List Mk) (pos : Int) (hr : rightM l = true) (k : Nat) (hk : k < l.length) (i j : Nat) (h : i ≠ j) : Ct Try.prog 135 [iA k, .ref i 0, .ref j 0] [(i, boxP pos), (j, boxL l)] (fun _ => bA (beh pos (l.getD k mk0))) [] (fun _ => []) :=
  Ct.r2 (index_Near10 l pos hr k hk) i j h (by intros; simp [ints_nil, ren_lit, ren_ref, ren_any, ren_agg, ren_tup, ren_sl, ren_fn, tren_none, tren_full, tren_row, oren_cells, oren_row, oren_dead, ixs_z, ixs_1, ixs_2, ixs_3, ren_ints, List.map_cons, List.map_nil, flt]) (by intros; simp [ints_nil, ren_lit, ren_ref, ren_any, ren_agg, ren_tup, ren_sl, ren_fn, tren_none, tren_full, tren_row, oren_cells, oren_row, oren_dead, ixs_z, ixs_1, ixs_2, ixs_3, ren_ints, List.map_cons, List.map_nil, ixs, List.range'_succ, boxP_ren]) (by intros; simp [ints_nil, ren_lit, ren_ref, ren_any, ren_agg, ren_tup, ren_sl, ren_fn, tren_none, tren_full, tren_row, oren_cells, oren_row, oren_dead, ixs_z, ixs_1, ixs_2, ixs_3, ren_ints, List.map_cons, List.map_nil, ixs, List.range'_succ, boxL_ren]) (by simp [boxP]) (by simp [boxL]) (by intros; simp [ints_nil, ren_lit, ren_ref, ren_any, ren_agg, ren_tup, ren_sl, ren_fn, tren_none, tren_full, tren_row, oren_cells, oren_row, oren_dead, ixs_z, ixs_1, ixs_2, ixs_3, ren_ints, List.map_cons, List.map_nil, flt])
theorem sort_Search0 (l : List Mk) (pos : Int) (hr : rightM l = true) : Does Try.prog 134 [iA l.length, .fn 135 [] [.ref 0 0, .ref 1 0]] [boxP pos, boxL l] (iA (fstI (beh pos) l)) [boxP pos, boxL l] := by
  have h16 := (rightM_wf.1 hr).2
  refine Does.run Try.func134 b134 n134 Try.ntmps134 (by simp only [List.cons_append, List.nil_append, List.length_cons, List.length_nil, Nat.zero_add, Nat.reduceAdd, Nat.reduceSub, List.replicate]; rfl) ?_; simp only [c134, go_sem, Nat.reduceAdd, Nat.reduceMul, Int.reduceToNat, Nat.reduceLeDiff, Int.reduceLE, Int.reduceLT, ↓reduceIte, Int.reduceBEq, Int.reduceBNe, Int.reduceAdd, Int.reduceSub, Int.reduceMul, qFin_ret, qFin_normal]; (try ((refine okTr_and ?_ ?_); (· rfl)))
  refine loop_of (α := Nat × Nat) (fun a => [.any, .fn 135 [] [.ref 0 0, .ref 1 0], .any, .any, .any, iA a.1, iA a.2, .any, .any, .any, .any, .any, .any, .any, .any, .any, .any, .any, .any, .any, .any, .any, .any, .any, .any, .any]) (fun _ => [boxP pos, boxL l]) (fun a => a.1 ≤ a.2 ∧ a.2 ≤ l.length ∧ (∀ i, i < a.1 → beh pos (l.getD i mk0) = false) ∧ ∀ i, a.2 ≤ i → i < l.length → beh pos (l.getD i mk0) = true) (fun a => a.2 - a.1) (0, l.length) ⟨by simp, by simp, by intro i hi; simp at hi, by intro i hi h; simp at hi; omega⟩ (Wk.to (by simp) (by simp [leT])) ?_
  rintro ⟨lo, hi⟩ ⟨h1, h2, h3, h4⟩
  simp only at h1 h2 h3 h4
  (simp only [go_sem, Nat.reduceAdd, Nat.reduceMul, Int.reduceToNat, Nat.reduceLeDiff, Int.reduceLE, Int.reduceLT, ↓reduceIte, Int.reduceBEq, Int.reduceBNe, Int.reduceAdd, Int.reduceSub, Int.reduceMul, qFin_ret, qFin_normal]; (try ((refine okTr_and ?_ ?_); (· rfl))))
  by_cases he : lo < hi
  · have q : decide ((lo : Int) < hi) = true := by simpa using he
    obtain ⟨m, hm⟩ : ∃ m, (lo + hi) / 2 = m := ⟨_, rfl⟩
    have hml : m < l.length := by omega
    have e1 : IntKind.i64.wrap ((lo : Int) + hi) = lo + hi := IntWalk.i64_in _ (by omega)
    have e2 : IntKind.u64.wrap ((lo : Int) + hi) = lo + hi := IntWalk.u64_in _ (by omega)
    have e3 : ((lo : Int) + hi).fdiv (2 ^ min 1 64) = (m : Int) := by
      show ((lo : Int) + hi).fdiv 2 = m
      rw [Int.fdiv_eq_ediv_of_nonneg _ (by omega)]; omega
    have e4 : IntKind.i64.wrap (m : Int) = m := IntWalk.i64_in _ (by omega)
    have ei := i64_succ m (by omega)
    (simp only [go_sem, Nat.reduceAdd, Nat.reduceMul, Int.reduceToNat, Nat.reduceLeDiff, Int.reduceLE, Int.reduceLT, ↓reduceIte, Int.reduceBEq, Int.reduceBNe, Int.reduceAdd, Int.reduceSub, Int.reduceMul, qFin_ret, qFin_normal, q, e1, e2, e3, e4]; (try ((refine okTr_and ?_ ?_); (· rfl))))
    refine CallK.r2 (index_Near1 l pos hr m hml 0 1 (by decide)) rfl rfl ?_
    cases hb : beh pos (l.getD m mk0)
    · (simp only [go_sem, Nat.reduceAdd, Nat.reduceMul, Int.reduceToNat, Nat.reduceLeDiff, Int.reduceLE, Int.reduceLT, ↓reduceIte, Int.reduceBEq, Int.reduceBNe, Int.reduceAdd, Int.reduceSub, Int.reduceMul, qFin_ret, qFin_normal, hb, ei]; (try ((refine okTr_and ?_ ?_); (· rfl))))
      refine ⟨(m + 1, hi), ⟨by simp only; omega, h2, fun i hmi => ?_, h4⟩, by simp only; omega, Wk.to (by simp) (by simp [leT])⟩
      rcases Nat.lt_or_ge i m with h5 | h5
      · have h6 := right_lt hr h5 hml
        have h7 := right_at hr hml
        simp only [beh, decide_eq_false_iff_not] at hb ⊢
        unfold Mk.fin at hb h6 ⊢
        omega
      · obtain rfl : i = m := by simp only at hmi; omega
        exact hb
    · (simp only [go_sem, Nat.reduceAdd, Nat.reduceMul, Int.reduceToNat, Nat.reduceLeDiff, Int.reduceLE, Int.reduceLT, ↓reduceIte, Int.reduceBEq, Int.reduceBNe, Int.reduceAdd, Int.reduceSub, Int.reduceMul, qFin_ret, qFin_normal, hb]; (try ((refine okTr_and ?_ ?_); (· rfl))))
      refine ⟨(lo, m), ⟨by simp only; omega, by simp only; omega, h3, fun i hmi hil => ?_⟩, by simp only; omega, Wk.to (by simp) (by simp [leT])⟩
      rcases Nat.lt_or_ge m i with h5 | h5
      · have h6 := right_lt hr h5 hil
        have h7 := right_at hr hil
        simp only [beh, decide_eq_true_eq] at hb ⊢
        unfold Mk.fin at hb h6 ⊢
        omega
      · obtain rfl : i = m := by simp only at hmi; omega
        exact hb
  · have q : decide ((lo : Int) < hi) = false := by simpa using he
    have heq : lo = hi := by omega
    subst heq
    have hk : fstI (beh pos) l = lo := by
      rcases Nat.lt_or_ge lo l.length with h5 | h5
      · exact fstI_is h5 (h4 lo (Nat.le_refl _) h5) h3
      · rw [fstI_none fun i hi => h3 i (by omega)]; omega
    (simp only [go_sem, Nat.reduceAdd, Nat.reduceMul, Int.reduceToNat, Nat.reduceLeDiff, Int.reduceLE, Int.reduceLT, ↓reduceIte, Int.reduceBEq, Int.reduceBNe, Int.reduceAdd, Int.reduceSub, Int.reduceMul, qFin_ret, qFin_normal, q]; (try ((refine okTr_and ?_ ?_); (· rfl))))
    ((refine FinK.fin r134 [0, 1] ?_ ?_ ?_ ?_ ?_ ?_); (· decide); (· rfl); (· simp); (· rfl); (· first | with_reducible rfl | (simp [ints_nil, ren_lit, ren_ref, ren_any, ren_agg, ren_tup, ren_sl, ren_fn, tren_none, tren_full, tren_row, oren_cells, oren_row, oren_dead, ixs_z, ixs_1, ixs_2, ixs_3, ren_ints, List.map_cons, List.map_nil, hk, boxP_ren, boxL_ren]; done) | rfl); (· simp [resAL, resA1, loadA, oneOr, ints_nil, ren_lit, ren_ref, ren_any, ren_agg, ren_tup, ren_sl, ren_fn, tren_none, tren_full, tren_row, oren_cells, oren_row, oren_dead, ixs_z, ixs_1, ixs_2, ixs_3, ren_ints, List.map_cons, List.map_nil, hk, boxP_ren, boxL_ren]))
theorem sort_Search (l : List Mk) (pos : Int) (hr : rightM l = true) (i j : Nat) (h : i ≠ j) : Ct Try.prog 134 [iA l.length, .fn 135 [] [.ref i 0, .ref j 0]] [(i, boxP pos), (j, boxL l)] (fun _ => iA (fstI (beh pos) l)) [] (fun _ => []) :=
  Ct.r2 (sort_Search0 l pos hr) i j h (by intros; simp [ints_nil, ren_lit, ren_ref, ren_any, ren_agg, ren_tup, ren_sl, ren_fn, tren_none, tren_full, tren_row, oren_cells, oren_row, oren_dead, ixs_z, ixs_1, ixs_2, ixs_3, ren_ints, List.map_cons, List.map_nil, flt]) (by intros; simp [ints_nil, ren_lit, ren_ref, ren_any, ren_agg, ren_tup, ren_sl, ren_fn, tren_none, tren_full, tren_row, oren_cells, oren_row, oren_dead, ixs_z, ixs_1, ixs_2, ixs_3, ren_ints, List.map_cons, List.map_nil, ixs, List.range'_succ, boxP_ren]) (by intros; simp [ints_nil, ren_lit, ren_ref, ren_any, ren_agg, ren_tup, ren_sl, ren_fn, tren_none, tren_full, tren_row, oren_cells, oren_row, oren_dead, ixs_z, ixs_1, ixs_2, ixs_3, ren_ints, List.map_cons, List.map_nil, ixs, List.range'_succ, boxL_ren]) (by simp [boxP]) (by simp [boxL]) (by intros; simp [ints_nil, ren_lit, ren_ref, ren_any, ren_agg, ren_tup, ren_sl, ren_fn, tren_none, tren_full, tren_row, oren_cells, oren_row, oren_dead, ixs_z, ixs_1, ixs_2, ixs_3, ren_ints, List.map_cons, List.map_nil, flt])
/-- The next position of a mark, and is there one. -/
def nearM (l : List Mk) (pos : Int) : Int × Bool := if rightM l = true ∧ fstI (beh pos) l < l.length then (max pos (l.getD (fstI (beh pos) l) mk0).pos, true) else (0, false)
theorem index_Near0 (l : List Mk) (pos : Int) (hl : Mks l) (hn : l.length ≤ 140737488355328) : Does Try.prog 89 [slM l, uA pos] [] (.tup [uA (nearM l pos).1, bA (nearM l pos).2]) [] := by
  have b1 : AObj.cells [slM l] = boxL l := rfl
  have b2 : AObj.cells [uA pos] = boxP pos := rfl
  refine Does.run Try.func89 b89 n89 Try.ntmps89 (by simp only [List.cons_append, List.nil_append, List.length_cons, List.length_nil, Nat.zero_add, Nat.reduceAdd, Nat.reduceSub, List.replicate]; rfl) ?_; simp only [c89, go_sem, Nat.reduceAdd, Nat.reduceMul, Int.reduceToNat, Nat.reduceLeDiff, Int.reduceLE, Int.reduceLT, ↓reduceIte, Int.reduceBEq, Int.reduceBNe, Int.reduceAdd, Int.reduceSub, Int.reduceMul, qFin_ret, qFin_normal]; (try ((refine okTr_and ?_ ?_); (· rfl)))
  refine CallK.p (index_Right l hl hn) ?_
  cases hf : rightM l
  · have he : nearM l pos = (0, false) := by unfold nearM; rw [hf]; simp
    (simp only [go_sem, Nat.reduceAdd, Nat.reduceMul, Int.reduceToNat, Nat.reduceLeDiff, Int.reduceLE, Int.reduceLT, ↓reduceIte, Int.reduceBEq, Int.reduceBNe, Int.reduceAdd, Int.reduceSub, Int.reduceMul, qFin_ret, qFin_normal, hf]; (try ((refine okTr_and ?_ ?_); (· rfl))))
    ((refine FinK.fin r89 [] ?_ ?_ ?_ ?_ ?_ ?_); (· decide); (· rfl); (· simp); (· rfl); (· first | with_reducible rfl | (simp [ints_nil, ren_lit, ren_ref, ren_any, ren_agg, ren_tup, ren_sl, ren_fn, tren_none, tren_full, tren_row, oren_cells, oren_row, oren_dead, ixs_z, ixs_1, ixs_2, ixs_3, ren_ints, List.map_cons, List.map_nil, he]; done) | rfl); (· simp [resAL, resA1, loadA, oneOr, ints_nil, ren_lit, ren_ref, ren_any, ren_agg, ren_tup, ren_sl, ren_fn, tren_none, tren_full, tren_row, oren_cells, oren_row, oren_dead, ixs_z, ixs_1, ixs_2, ixs_3, ren_ints, List.map_cons, List.map_nil, he]))
  · have hle := fstI_le (beh pos) l
    (simp only [go_sem, Nat.reduceAdd, Nat.reduceMul, Int.reduceToNat, Nat.reduceLeDiff, Int.reduceLE, Int.reduceLT, ↓reduceIte, Int.reduceBEq, Int.reduceBNe, Int.reduceAdd, Int.reduceSub, Int.reduceMul, qFin_ret, qFin_normal, hf, mks_length]; (try ((refine okTr_and ?_ ?_); (· rfl))))
    refine CallK.r2 (sort_Search l pos hf 1 0 (by decide)) rfl rfl ?_
    obtain ⟨k, hk⟩ : ∃ k, fstI (beh pos) l = k := ⟨_, rfl⟩
    rw [hk] at hle
    by_cases c : k = l.length
    · have q : ((k : Int) == l.length) = true := by simp; omega
      have he : nearM l pos = (0, false) := by unfold nearM; rw [hk, if_neg (by omega)]
      (simp only [go_sem, Nat.reduceAdd, Nat.reduceMul, Int.reduceToNat, Nat.reduceLeDiff, Int.reduceLE, Int.reduceLT, ↓reduceIte, Int.reduceBEq, Int.reduceBNe, Int.reduceAdd, Int.reduceSub, Int.reduceMul, qFin_ret, qFin_normal, hk, mks_length, q]; (try ((refine okTr_and ?_ ?_); (· rfl))))
      ((refine FinK.fin r89 [] ?_ ?_ ?_ ?_ ?_ ?_); (· decide); (· rfl); (· simp); (· rfl); (· first | with_reducible rfl | (simp [ints_nil, ren_lit, ren_ref, ren_any, ren_agg, ren_tup, ren_sl, ren_fn, tren_none, tren_full, tren_row, oren_cells, oren_row, oren_dead, ixs_z, ixs_1, ixs_2, ixs_3, ren_ints, List.map_cons, List.map_nil, he]; done) | rfl); (· simp [resAL, resA1, loadA, oneOr, ints_nil, ren_lit, ren_ref, ren_any, ren_agg, ren_tup, ren_sl, ren_fn, tren_none, tren_full, tren_row, oren_cells, oren_row, oren_dead, ixs_z, ixs_1, ixs_2, ixs_3, ren_ints, List.map_cons, List.map_nil, he]))
    · have q : ((k : Int) == l.length) = false := by simp; omega
      have hkl : k < l.length := by omega
      have g := mks_get l k hkl
      have he : nearM l pos = (max pos (l.getD k mk0).pos, true) := by unfold nearM; rw [hk, if_pos ⟨hf, hkl⟩]
      have em : (if (l.getD k mk0).pos > pos then (l.getD k mk0).pos else pos) = max pos (l.getD k mk0).pos := by split <;> omega
      (simp only [go_sem, Nat.reduceAdd, Nat.reduceMul, Int.reduceToNat, Nat.reduceLeDiff, Int.reduceLE, Int.reduceLT, ↓reduceIte, Int.reduceBEq, Int.reduceBNe, Int.reduceAdd, Int.reduceSub, Int.reduceMul, qFin_ret, qFin_normal, hk, mks_length, q, g, em]; (try ((refine okTr_and ?_ ?_); (· rfl))))
      (repeat ((with_reducible refine And.intro ?_ ?_); (· first | with_reducible assumption | omega | with_reducible rfl | (simp only [List.length_append, List.length_cons, List.length_nil, List.length_singleton]; omega) | (simp [ints_length, okEl_eq, AV.parts]; done) | (simp [ints_length, okEl_eq, AV.parts]; omega) | rfl)))
      ((refine FinK.fin r89 [] ?_ ?_ ?_ ?_ ?_ ?_); (· decide); (· rfl); (· simp); (· rfl); (· first | with_reducible rfl | (simp [ints_nil, ren_lit, ren_ref, ren_any, ren_agg, ren_tup, ren_sl, ren_fn, tren_none, tren_full, tren_row, oren_cells, oren_row, oren_dead, ixs_z, ixs_1, ixs_2, ixs_3, ren_ints, List.map_cons, List.map_nil, he]; done) | rfl); (· simp [resAL, resA1, loadA, oneOr, ints_nil, ren_lit, ren_ref, ren_any, ren_agg, ren_tup, ren_sl, ren_fn, tren_none, tren_full, tren_row, oren_cells, oren_row, oren_dead, ixs_z, ixs_1, ixs_2, ixs_3, ren_ints, List.map_cons, List.map_nil, he]))
theorem index_Near (l : List Mk) (pos : Int) (hl : Mks l) (hn : l.length ≤ 140737488355328) : Ct Try.prog 89 [slM l, uA pos] [] (fun _ => .tup [uA (nearM l pos).1, bA (nearM l pos).2]) [] (fun _ => []) := (index_Near0 l pos hl hn).toCt (by intros; simp [ints_nil, ren_lit, ren_ref, ren_any, ren_agg, ren_tup, ren_sl, ren_fn, tren_none, tren_full, tren_row, oren_cells, oren_row, oren_dead, ixs_z, ixs_1, ixs_2, ixs_3, ren_ints, List.map_cons, List.map_nil, ixs, List.range'_succ, ren_ints]) (by intros; simp [ints_nil, ren_lit, ren_ref, ren_any, ren_agg, ren_tup, ren_sl, ren_fn, tren_none, tren_full, tren_row, oren_cells, oren_row, oren_dead, ixs_z, ixs_1, ixs_2, ixs_3, ren_ints, List.map_cons, List.map_nil, ixs, List.range'_succ, ren_ints])
theorem live32_m : rightM [⟨5, 3, 10⟩, ⟨9, 1, 40⟩] = true := by decide
theorem live32_b : marksB [⟨5, 3, 10⟩, ⟨9, 1, 40⟩] = [2, 5, 3, 9, 1, 1, 29] := by kernel_rfl
theorem live32_0 : Does Try.prog 66 [] [] (bA true) [] := by
  have e1 : mks [⟨5, 3, 10⟩, ⟨9, 1, 40⟩] = [mkA ⟨5, 3, 10⟩, mkA ⟨9, 1, 40⟩] := rfl
  have e4 : ints .u8 [2, 5, 3, 9, 1, 1, 29] = [u8A 2, u8A 5, u8A 3, u8A 9, u8A 1, u8A 1, u8A 29] := rfl
  have er : markR [⟨5, 3, 10⟩, ⟨9, 1, 40⟩] = [2, 5, 3, 9, 1, 1, 29] := by unfold markR; rw [if_pos live32_m, live32_b]
  refine Does.run Try.func66 b66 n66 Try.ntmps66 (by simp only [List.cons_append, List.nil_append, List.length_cons, List.length_nil, Nat.zero_add, Nat.reduceAdd, Nat.reduceSub, List.replicate]; rfl) ?_; simp only [c66, go_sem, Nat.reduceAdd, Nat.reduceMul, Int.reduceToNat, Nat.reduceLeDiff, Int.reduceLE, Int.reduceLT, ↓reduceIte, Int.reduceBEq, Int.reduceBNe, Int.reduceAdd, Int.reduceSub, Int.reduceMul, qFin_ret, qFin_normal]; (try ((refine okTr_and ?_ ?_); (· rfl)))
  (repeat ((with_reducible refine And.intro ?_ ?_); (· first | with_reducible assumption | omega | with_reducible rfl | (simp only [List.length_append, List.length_cons, List.length_nil, List.length_singleton]; omega) | (simp [ints_length, okEl_eq, AV.parts]; done) | (simp [ints_length, okEl_eq, AV.parts]; omega) | rfl)))
  refine CallK.p (index_Bytes [⟨5, 3, 10⟩, ⟨9, 1, 40⟩] (by unfold Mks Mk.ok; decide) (by decide)) ?_; (simp only [go_sem, Nat.reduceAdd, Nat.reduceMul, Int.reduceToNat, Nat.reduceLeDiff, Int.reduceLE, Int.reduceLT, ↓reduceIte, Int.reduceBEq, Int.reduceBNe, Int.reduceAdd, Int.reduceSub, Int.reduceMul, qFin_ret, qFin_normal, live32_m, er]; (try ((refine okTr_and ?_ ?_); (· rfl))))
  (repeat ((with_reducible refine And.intro ?_ ?_); (· first | with_reducible assumption | omega | with_reducible rfl | (simp only [List.length_append, List.length_cons, List.length_nil, List.length_singleton]; omega) | (simp [ints_length, okEl_eq, AV.parts]; done) | (simp [ints_length, okEl_eq, AV.parts]; omega) | rfl)))
  refine CallK.p (ref02_Same [2, 5, 3, 9, 1, 1, 29] [2, 5, 3, 9, 1, 1, 29] (by unfold Bys; decide) (by unfold Bys; decide)) ?_; (simp only [go_sem, Nat.reduceAdd, Nat.reduceMul, Int.reduceToNat, Nat.reduceLeDiff, Int.reduceLE, Int.reduceLT, ↓reduceIte, Int.reduceBEq, Int.reduceBNe, Int.reduceAdd, Int.reduceSub, Int.reduceMul, qFin_ret, qFin_normal, same_self]; (try ((refine okTr_and ?_ ?_); (· rfl))))
  ((refine FinK.fin r66 [] ?_ ?_ ?_ ?_ ?_ ?_); (· decide); (· rfl); (· simp); (· rfl); (· first | with_reducible rfl | (simp [ints_nil, ren_lit, ren_ref, ren_any, ren_agg, ren_tup, ren_sl, ren_fn, tren_none, tren_full, tren_row, oren_cells, oren_row, oren_dead, ixs_z, ixs_1, ixs_2, ixs_3, ren_ints, List.map_cons, List.map_nil]; done) | rfl); (· simp [resAL, resA1, loadA, oneOr, ints_nil, ren_lit, ren_ref, ren_any, ren_agg, ren_tup, ren_sl, ren_fn, tren_none, tren_full, tren_row, oren_cells, oren_row, oren_dead, ixs_z, ixs_1, ixs_2, ixs_3, ren_ints, List.map_cons, List.map_nil]))
theorem live32 : Ct Try.prog 66 [] [] (fun _ => bA true) [] (fun _ => []) := (live32_0).toCt (by intros; simp [ints_nil, ren_lit, ren_ref, ren_any, ren_agg, ren_tup, ren_sl, ren_fn, tren_none, tren_full, tren_row, oren_cells, oren_row, oren_dead, ixs_z, ixs_1, ixs_2, ixs_3, ren_ints, List.map_cons, List.map_nil, ixs, List.range'_succ, ren_ints]) (by intros; simp [ints_nil, ren_lit, ren_ref, ren_any, ren_agg, ren_tup, ren_sl, ren_fn, tren_none, tren_full, tren_row, oren_cells, oren_row, oren_dead, ixs_z, ixs_1, ixs_2, ixs_3, ren_ints, List.map_cons, List.map_nil, ixs, List.range'_succ, ren_ints])
end Go.Proofs.Ytgphhganepjaiaa
end
