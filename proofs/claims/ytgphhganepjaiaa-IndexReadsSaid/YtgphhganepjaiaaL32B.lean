/-
  Chapter 32: IndexReads, IndexWrites, IndexGaps.
-/
import Derived.Test.YtgphhganepjaiaaL32
set_option linter.all false
set_option linter.unusedSimpArgs false
set_option linter.unusedVariables false
set_option linter.unnecessarySimpa false
namespace Go.Proofs.Ytgphhganepjaiaa
open Go.RowKit

theorem wf_mks {l : List Mk} (h : Wf markNx [] l) : Mks l := by
  intro m hm
  obtain ⟨k, hk, rfl⟩ := List.getElem_of_mem hm
  have h1 := wf_get k hk h
  have h2 := mark_last (wf_take k h)
  rw [List.nil_append] at h1
  obtain ⟨a, b, c, d, e, f⟩ := h1
  exact ⟨by omega, by omega, by omega, by omega, by omega, by omega⟩
set_option maxHeartbeats 1000000 in
set_option maxRecDepth 100000 in
theorem law_IndexReads (l : List Int) (hl : Bys l) : Does Try.prog 26 [slA .u8 l] [] (bA true) [] := by
  refine Does.run Try.func26 b26 n26 Try.ntmps26 (by simp only [List.cons_append, List.nil_append, List.length_cons, List.length_nil, Nat.zero_add, Nat.reduceAdd, Nat.reduceSub, List.replicate]; rfl) ?_; simp only [c26, go_sem, Nat.reduceAdd, Nat.reduceMul, Int.reduceToNat, Nat.reduceLeDiff, Int.reduceLE, Int.reduceLT, ↓reduceIte, Int.reduceBEq, Int.reduceBNe, Int.reduceAdd, Int.reduceSub, Int.reduceMul, qFin_ret, qFin_normal, ints_length]; (try ((refine okTr_and ?_ ?_); (· rfl)))
  refine cdK_split (fun h => ?_) (fun h => ?_)
  · (simp only [go_sem, Nat.reduceAdd, Nat.reduceMul, Int.reduceToNat, Nat.reduceLeDiff, Int.reduceLE, Int.reduceLT, ↓reduceIte, Int.reduceBEq, Int.reduceBNe, Int.reduceAdd, Int.reduceSub, Int.reduceMul, qFin_ret, qFin_normal]; (try ((refine okTr_and ?_ ?_); (· rfl))))
    refine CallK.p (live32) ?_; (simp only [go_sem, Nat.reduceAdd, Nat.reduceMul, Int.reduceToNat, Nat.reduceLeDiff, Int.reduceLE, Int.reduceLT, ↓reduceIte, Int.reduceBEq, Int.reduceBNe, Int.reduceAdd, Int.reduceSub, Int.reduceMul, qFin_ret, qFin_normal]; (try ((refine okTr_and ?_ ?_); (· rfl))))
    ((refine FinK.fin r26 [] ?_ ?_ ?_ ?_ ?_ ?_); (· decide); (· rfl); (· simp); (· rfl); (· first | with_reducible rfl | (simp [ints_nil, ren_lit, ren_ref, ren_any, ren_agg, ren_tup, ren_sl, ren_fn, tren_none, tren_full, tren_row, oren_cells, oren_row, oren_dead, ixs_z, ixs_1, ixs_2, ixs_3, ren_ints, List.map_cons, List.map_nil]; done) | rfl); (· simp [resAL, resA1, loadA, oneOr, ints_nil, ren_lit, ren_ref, ren_any, ren_agg, ren_tup, ren_sl, ren_fn, tren_none, tren_full, tren_row, oren_cells, oren_row, oren_dead, ixs_z, ixs_1, ixs_2, ixs_3, ren_ints, List.map_cons, List.map_nil]))
  · have hn : l.length ≤ 300 := by simp at h; omega
    have hok : ROk (RS.new l) := ROk.new hl (by omega)
    have hl3 : (RS.new l).l = l := rfl
    have hs2 := counted_len markF_ok hok 16
    have i2 := fun h => counted_is markF_ok hok (m := 16) h
    have o2 := counted_keep markF_ok hok 16
    rw [hl3] at hs2 i2 o2
    have z : l.take (RS.new l).at_.toNat = [] := rfl
    rw [z] at i2
    simp only [List.nil_append] at i2
    have hB0 : (RS.new l).marks = markF.counted 16 (RS.new l) := rfl
    rw [← hB0] at hs2 i2 o2
    (simp only [go_sem, Nat.reduceAdd, Nat.reduceMul, Int.reduceToNat, Nat.reduceLeDiff, Int.reduceLE, Int.reduceLT, ↓reduceIte, Int.reduceBEq, Int.reduceBNe, Int.reduceAdd, Int.reduceSub, Int.reduceMul, qFin_ret, qFin_normal]; (try ((refine okTr_and ?_ ?_); (· rfl))))
    refine CallK.n (cursor_New l) ?_; (simp only [go_sem, Nat.reduceAdd, Nat.reduceMul, Int.reduceToNat, Nat.reduceLeDiff, Int.reduceLE, Int.reduceLT, ↓reduceIte, Int.reduceBEq, Int.reduceBNe, Int.reduceAdd, Int.reduceSub, Int.reduceMul, qFin_ret, qFin_normal]; (try ((refine okTr_and ?_ ?_); (· rfl))))
    refine CallK.u1 (index_Read (RS.new l) _ hok (by show l.length * 24 ≤ _; omega)) rfl ?_; (simp only [go_sem, Nat.reduceAdd, Nat.reduceMul, Int.reduceToNat, Nat.reduceLeDiff, Int.reduceLE, Int.reduceLT, ↓reduceIte, Int.reduceBEq, Int.reduceBNe, Int.reduceAdd, Int.reduceSub, Int.reduceMul, qFin_ret, qFin_normal]; (try ((refine okTr_and ?_ ?_); (· rfl))))
    refine CallK.p (ref32_Read (RS.new l) hok (by show l.length * 24 ≤ _; omega)) ?_; (simp only [go_sem, Nat.reduceAdd, Nat.reduceMul, Int.reduceToNat, Nat.reduceLeDiff, Int.reduceLE, Int.reduceLT, ↓reduceIte, Int.reduceBEq, Int.reduceBNe, Int.reduceAdd, Int.reduceSub, Int.reduceMul, qFin_ret, qFin_normal]; (try ((refine okTr_and ?_ ?_); (· rfl))))
    generalize (RS.new l).marks = B at *
    have hB1 := o2.1.at1
    have hB0' := o2.1.at0
    rw [o2.2] at hB1
    refine CallK.p (ref32_Same B.2 B.2 (by omega)) ?_; (simp only [go_sem, Nat.reduceAdd, Nat.reduceMul, Int.reduceToNat, Nat.reduceLeDiff, Int.reduceLE, Int.reduceLT, ↓reduceIte, Int.reduceBEq, Int.reduceBNe, Int.reduceAdd, Int.reduceSub, Int.reduceMul, qFin_ret, qFin_normal, sameM_self]; (try ((refine okTr_and ?_ ?_); (· rfl))))
    refine CallK.r1 (Reader_Fault B.1 _) rfl ?_; (simp only [go_sem, Nat.reduceAdd, Nat.reduceMul, Int.reduceToNat, Nat.reduceLeDiff, Int.reduceLE, Int.reduceLT, ↓reduceIte, Int.reduceBEq, Int.reduceBNe, Int.reduceAdd, Int.reduceSub, Int.reduceMul, qFin_ret, qFin_normal]; (try ((refine okTr_and ?_ ?_); (· rfl))))
    by_cases hc : B.1.code = 0
    · have q : (B.1.code != 0) = false := by simpa using hc
      obtain ⟨k1, k2, k3, k4, k5⟩ := i2 hc
      have hr : rightM B.2 = true := rightM_wf.2 ⟨k1, by omega⟩
      have hb := marksB_bys k1 (by omega)
      have hk : l.take B.1.at_.toNat = marksB B.2 := k4
      (simp only [go_sem, Nat.reduceAdd, Nat.reduceMul, Int.reduceToNat, Nat.reduceLeDiff, Int.reduceLE, Int.reduceLT, ↓reduceIte, Int.reduceBEq, Int.reduceBNe, Int.reduceAdd, Int.reduceSub, Int.reduceMul, qFin_ret, qFin_normal, q]; (try ((refine okTr_and ?_ ?_); (· rfl))))
      refine CallK.r1 (Reader_At B.1 _) rfl ?_; (simp only [go_sem, Nat.reduceAdd, Nat.reduceMul, Int.reduceToNat, Nat.reduceLeDiff, Int.reduceLE, Int.reduceLT, ↓reduceIte, Int.reduceBEq, Int.reduceBNe, Int.reduceAdd, Int.reduceSub, Int.reduceMul, qFin_ret, qFin_normal]; (try ((refine okTr_and ?_ ?_); (· rfl))))
      refine CallK.p (ref32_Right B.2 (wf_mks k1) (by omega)) ?_; (simp only [go_sem, Nat.reduceAdd, Nat.reduceMul, Int.reduceToNat, Nat.reduceLeDiff, Int.reduceLE, Int.reduceLT, ↓reduceIte, Int.reduceBEq, Int.reduceBNe, Int.reduceAdd, Int.reduceSub, Int.reduceMul, qFin_ret, qFin_normal, hr]; (try ((refine okTr_and ?_ ?_); (· rfl))))
      refine CallK.n (ref32_Bytes B.2 hr) ?_; (simp only [go_sem, Nat.reduceAdd, Nat.reduceMul, Int.reduceToNat, Nat.reduceLeDiff, Int.reduceLE, Int.reduceLT, ↓reduceIte, Int.reduceBEq, Int.reduceBNe, Int.reduceAdd, Int.reduceSub, Int.reduceMul, qFin_ret, qFin_normal, ints_length, ints_take, hk]; (try ((refine okTr_and ?_ ?_); (· rfl))))
      (repeat ((with_reducible refine And.intro ?_ ?_); (· first | with_reducible assumption | omega | with_reducible rfl | (simp only [List.length_append, List.length_cons, List.length_nil, List.length_singleton]; omega) | (simp [ints_length, okEl_eq, AV.parts]; done) | (simp [ints_length, okEl_eq, AV.parts]; omega) | rfl)))
      refine CallK.p (ref02_Same (marksB B.2) (marksB B.2) hb hb) ?_; (simp only [go_sem, Nat.reduceAdd, Nat.reduceMul, Int.reduceToNat, Nat.reduceLeDiff, Int.reduceLE, Int.reduceLT, ↓reduceIte, Int.reduceBEq, Int.reduceBNe, Int.reduceAdd, Int.reduceSub, Int.reduceMul, qFin_ret, qFin_normal, same_self]; (try ((refine okTr_and ?_ ?_); (· rfl))))
      refine CallK.p (live32) ?_; (simp only [go_sem, Nat.reduceAdd, Nat.reduceMul, Int.reduceToNat, Nat.reduceLeDiff, Int.reduceLE, Int.reduceLT, ↓reduceIte, Int.reduceBEq, Int.reduceBNe, Int.reduceAdd, Int.reduceSub, Int.reduceMul, qFin_ret, qFin_normal]; (try ((refine okTr_and ?_ ?_); (· rfl))))
      ((refine FinK.fin r26 [] ?_ ?_ ?_ ?_ ?_ ?_); (· decide); (· rfl); (· simp); (· rfl); (· first | with_reducible rfl | (simp [ints_nil, ren_lit, ren_ref, ren_any, ren_agg, ren_tup, ren_sl, ren_fn, tren_none, tren_full, tren_row, oren_cells, oren_row, oren_dead, ixs_z, ixs_1, ixs_2, ixs_3, ren_ints, List.map_cons, List.map_nil]; done) | rfl); (· simp [resAL, resA1, loadA, oneOr, ints_nil, ren_lit, ren_ref, ren_any, ren_agg, ren_tup, ren_sl, ren_fn, tren_none, tren_full, tren_row, oren_cells, oren_row, oren_dead, ixs_z, ixs_1, ixs_2, ixs_3, ren_ints, List.map_cons, List.map_nil]))
    · have q : (B.1.code != 0) = true := by simpa using hc
      (simp only [go_sem, Nat.reduceAdd, Nat.reduceMul, Int.reduceToNat, Nat.reduceLeDiff, Int.reduceLE, Int.reduceLT, ↓reduceIte, Int.reduceBEq, Int.reduceBNe, Int.reduceAdd, Int.reduceSub, Int.reduceMul, qFin_ret, qFin_normal, q]; (try ((refine okTr_and ?_ ?_); (· rfl))))
      refine CallK.p (live32) ?_; (simp only [go_sem, Nat.reduceAdd, Nat.reduceMul, Int.reduceToNat, Nat.reduceLeDiff, Int.reduceLE, Int.reduceLT, ↓reduceIte, Int.reduceBEq, Int.reduceBNe, Int.reduceAdd, Int.reduceSub, Int.reduceMul, qFin_ret, qFin_normal]; (try ((refine okTr_and ?_ ?_); (· rfl))))
      ((refine FinK.fin r26 [] ?_ ?_ ?_ ?_ ?_ ?_); (· decide); (· rfl); (· simp); (· rfl); (· first | with_reducible rfl | (simp [ints_nil, ren_lit, ren_ref, ren_any, ren_agg, ren_tup, ren_sl, ren_fn, tren_none, tren_full, tren_row, oren_cells, oren_row, oren_dead, ixs_z, ixs_1, ixs_2, ixs_3, ren_ints, List.map_cons, List.map_nil]; done) | rfl); (· simp [resAL, resA1, loadA, oneOr, ints_nil, ren_lit, ren_ref, ren_any, ren_agg, ren_tup, ren_sl, ren_fn, tren_none, tren_full, tren_row, oren_cells, oren_row, oren_dead, ixs_z, ixs_1, ixs_2, ixs_3, ren_ints, List.map_cons, List.map_nil]))
set_option maxHeartbeats 1000000 in
set_option maxRecDepth 100000 in
theorem law_IndexWrites (l o : List Mk) (m : List Int) (hl : Mks l) (hm : Bys m) : Does Try.prog 27 [slM l, slM o, slA .u8 m] [] (bA true) [] := by
  have f2 : (WS.new 2000).fine := WS.fine.new (by decide)
  have bb : ∀ w : Bool, (w != w) = false := by decide
  refine Does.run Try.func27 b27 n27 Try.ntmps27 (by simp only [List.cons_append, List.nil_append, List.length_cons, List.length_nil, Nat.zero_add, Nat.reduceAdd, Nat.reduceSub, List.replicate]; rfl) ?_; simp only [c27, go_sem, Nat.reduceAdd, Nat.reduceMul, Int.reduceToNat, Nat.reduceLeDiff, Int.reduceLE, Int.reduceLT, ↓reduceIte, Int.reduceBEq, Int.reduceBNe, Int.reduceAdd, Int.reduceSub, Int.reduceMul, qFin_ret, qFin_normal, mks_length]; (try ((refine okTr_and ?_ ?_); (· rfl)))
  by_cases h : 100 < (l.length : Int)
  · have q : decide (100 < (l.length : Int)) = true := by simpa using h
    (simp only [go_sem, Nat.reduceAdd, Nat.reduceMul, Int.reduceToNat, Nat.reduceLeDiff, Int.reduceLE, Int.reduceLT, ↓reduceIte, Int.reduceBEq, Int.reduceBNe, Int.reduceAdd, Int.reduceSub, Int.reduceMul, qFin_ret, qFin_normal, q]; (try ((refine okTr_and ?_ ?_); (· rfl))))
    refine CallK.p (live32) ?_; (simp only [go_sem, Nat.reduceAdd, Nat.reduceMul, Int.reduceToNat, Nat.reduceLeDiff, Int.reduceLE, Int.reduceLT, ↓reduceIte, Int.reduceBEq, Int.reduceBNe, Int.reduceAdd, Int.reduceSub, Int.reduceMul, qFin_ret, qFin_normal]; (try ((refine okTr_and ?_ ?_); (· rfl))))
    ((refine FinK.fin r27 [] ?_ ?_ ?_ ?_ ?_ ?_); (· decide); (· rfl); (· simp); (· rfl); (· first | with_reducible rfl | (simp [ints_nil, ren_lit, ren_ref, ren_any, ren_agg, ren_tup, ren_sl, ren_fn, tren_none, tren_full, tren_row, oren_cells, oren_row, oren_dead, ixs_z, ixs_1, ixs_2, ixs_3, ren_ints, List.map_cons, List.map_nil]; done) | rfl); (· simp [resAL, resA1, loadA, oneOr, ints_nil, ren_lit, ren_ref, ren_any, ren_agg, ren_tup, ren_sl, ren_fn, tren_none, tren_full, tren_row, oren_cells, oren_row, oren_dead, ixs_z, ixs_1, ixs_2, ixs_3, ren_ints, List.map_cons, List.map_nil]))
  · have q : decide (100 < (l.length : Int)) = false := by simpa using h
    by_cases h2 : 100 < (o.length : Int)
    · have q2 : decide (100 < (o.length : Int)) = true := by simpa using h2
      (simp only [go_sem, Nat.reduceAdd, Nat.reduceMul, Int.reduceToNat, Nat.reduceLeDiff, Int.reduceLE, Int.reduceLT, ↓reduceIte, Int.reduceBEq, Int.reduceBNe, Int.reduceAdd, Int.reduceSub, Int.reduceMul, qFin_ret, qFin_normal, q, mks_length, q2]; (try ((refine okTr_and ?_ ?_); (· rfl))))
      refine CallK.p (live32) ?_; (simp only [go_sem, Nat.reduceAdd, Nat.reduceMul, Int.reduceToNat, Nat.reduceLeDiff, Int.reduceLE, Int.reduceLT, ↓reduceIte, Int.reduceBEq, Int.reduceBNe, Int.reduceAdd, Int.reduceSub, Int.reduceMul, qFin_ret, qFin_normal]; (try ((refine okTr_and ?_ ?_); (· rfl))))
      ((refine FinK.fin r27 [] ?_ ?_ ?_ ?_ ?_ ?_); (· decide); (· rfl); (· simp); (· rfl); (· first | with_reducible rfl | (simp [ints_nil, ren_lit, ren_ref, ren_any, ren_agg, ren_tup, ren_sl, ren_fn, tren_none, tren_full, tren_row, oren_cells, oren_row, oren_dead, ixs_z, ixs_1, ixs_2, ixs_3, ren_ints, List.map_cons, List.map_nil]; done) | rfl); (· simp [resAL, resA1, loadA, oneOr, ints_nil, ren_lit, ren_ref, ren_any, ren_agg, ren_tup, ren_sl, ren_fn, tren_none, tren_full, tren_row, oren_cells, oren_row, oren_dead, ixs_z, ixs_1, ixs_2, ixs_3, ren_ints, List.map_cons, List.map_nil]))
    · have q2 : decide (100 < (o.length : Int)) = false := by simpa using h2
      (simp only [go_sem, Nat.reduceAdd, Nat.reduceMul, Int.reduceToNat, Nat.reduceLeDiff, Int.reduceLE, Int.reduceLT, ↓reduceIte, Int.reduceBEq, Int.reduceBNe, Int.reduceAdd, Int.reduceSub, Int.reduceMul, qFin_ret, qFin_normal, q, mks_length, q2, ints_length]; (try ((refine okTr_and ?_ ?_); (· rfl))))
      refine cdK_split (fun h => ?_) (fun h => ?_)
      · (simp only [go_sem, Nat.reduceAdd, Nat.reduceMul, Int.reduceToNat, Nat.reduceLeDiff, Int.reduceLE, Int.reduceLT, ↓reduceIte, Int.reduceBEq, Int.reduceBNe, Int.reduceAdd, Int.reduceSub, Int.reduceMul, qFin_ret, qFin_normal]; (try ((refine okTr_and ?_ ?_); (· rfl))))
        refine CallK.p (live32) ?_; (simp only [go_sem, Nat.reduceAdd, Nat.reduceMul, Int.reduceToNat, Nat.reduceLeDiff, Int.reduceLE, Int.reduceLT, ↓reduceIte, Int.reduceBEq, Int.reduceBNe, Int.reduceAdd, Int.reduceSub, Int.reduceMul, qFin_ret, qFin_normal]; (try ((refine okTr_and ?_ ?_); (· rfl))))
        ((refine FinK.fin r27 [] ?_ ?_ ?_ ?_ ?_ ?_); (· decide); (· rfl); (· simp); (· rfl); (· first | with_reducible rfl | (simp [ints_nil, ren_lit, ren_ref, ren_any, ren_agg, ren_tup, ren_sl, ren_fn, tren_none, tren_full, tren_row, oren_cells, oren_row, oren_dead, ixs_z, ixs_1, ixs_2, ixs_3, ren_ints, List.map_cons, List.map_nil]; done) | rfl); (· simp [resAL, resA1, loadA, oneOr, ints_nil, ren_lit, ren_ref, ren_any, ren_agg, ren_tup, ren_sl, ren_fn, tren_none, tren_full, tren_row, oren_cells, oren_row, oren_dead, ixs_z, ixs_1, ixs_2, ixs_3, ren_ints, List.map_cons, List.map_nil]))
      · have hn2 : m.length ≤ 300 := by simp at h; omega
        (simp only [go_sem, Nat.reduceAdd, Nat.reduceMul, Int.reduceToNat, Nat.reduceLeDiff, Int.reduceLE, Int.reduceLT, ↓reduceIte, Int.reduceBEq, Int.reduceBNe, Int.reduceAdd, Int.reduceSub, Int.reduceMul, qFin_ret, qFin_normal]; (try ((refine okTr_and ?_ ?_); (· rfl))))
        refine CallK.p (index_Bytes l hl (by omega)) ?_; (simp only [go_sem, Nat.reduceAdd, Nat.reduceMul, Int.reduceToNat, Nat.reduceLeDiff, Int.reduceLE, Int.reduceLT, ↓reduceIte, Int.reduceBEq, Int.reduceBNe, Int.reduceAdd, Int.reduceSub, Int.reduceMul, qFin_ret, qFin_normal]; (try ((refine okTr_and ?_ ?_); (· rfl))))
        refine CallK.n (pen_New 2000) ?_; (simp only [go_sem, Nat.reduceAdd, Nat.reduceMul, Int.reduceToNat, Nat.reduceLeDiff, Int.reduceLE, Int.reduceLT, ↓reduceIte, Int.reduceBEq, Int.reduceBNe, Int.reduceAdd, Int.reduceSub, Int.reduceMul, qFin_ret, qFin_normal]; (try ((refine okTr_and ?_ ?_); (· rfl))))
        refine CallK.u2 (index_Put (WS.new 2000) l _ _ (by decide) f2 hl (by omega)) rfl rfl ?_
        cases hf : rightM l
        · have hw : (WS.new 2000).marks l = ⟨2000, [], 3⟩ := by unfold WS.marks; rw [hf]; rfl
          have hR : markR l = [] := by unfold markR; rw [hf]; rfl
          have hwb : (WS.mk 2000 [] 3).bytes = [] := rfl
          (simp only [go_sem, Nat.reduceAdd, Nat.reduceMul, Int.reduceToNat, Nat.reduceLeDiff, Int.reduceLE, Int.reduceLT, ↓reduceIte, Int.reduceBEq, Int.reduceBNe, Int.reduceAdd, Int.reduceSub, Int.reduceMul, qFin_ret, qFin_normal, hw]; (try ((refine okTr_and ?_ ?_); (· rfl))))
          refine CallK.r2 (Writer_Bytes _ _ _ (by decide) (by decide)) rfl rfl ?_; (simp only [go_sem, Nat.reduceAdd, Nat.reduceMul, Int.reduceToNat, Nat.reduceLeDiff, Int.reduceLE, Int.reduceLT, ↓reduceIte, Int.reduceBEq, Int.reduceBNe, Int.reduceAdd, Int.reduceSub, Int.reduceMul, qFin_ret, qFin_normal, hf, hR, hwb]; (try ((refine okTr_and ?_ ?_); (· rfl))))
          refine CallK.p (ref02_Same [] [] (by unfold Bys; simp) (by unfold Bys; simp)) ?_; (simp only [go_sem, Nat.reduceAdd, Nat.reduceMul, Int.reduceToNat, Nat.reduceLeDiff, Int.reduceLE, Int.reduceLT, ↓reduceIte, Int.reduceBEq, Int.reduceBNe, Int.reduceAdd, Int.reduceSub, Int.reduceMul, qFin_ret, qFin_normal, same_self]; (try ((refine okTr_and ?_ ?_); (· rfl))))
          refine CallK.p (index_Right l hl (by omega)) ?_; (simp only [go_sem, Nat.reduceAdd, Nat.reduceMul, Int.reduceToNat, Nat.reduceLeDiff, Int.reduceLE, Int.reduceLT, ↓reduceIte, Int.reduceBEq, Int.reduceBNe, Int.reduceAdd, Int.reduceSub, Int.reduceMul, qFin_ret, qFin_normal]; (try ((refine okTr_and ?_ ?_); (· rfl))))
          refine CallK.p (ref32_Right l hl (by omega)) ?_; (simp only [go_sem, Nat.reduceAdd, Nat.reduceMul, Int.reduceToNat, Nat.reduceLeDiff, Int.reduceLE, Int.reduceLT, ↓reduceIte, Int.reduceBEq, Int.reduceBNe, Int.reduceAdd, Int.reduceSub, Int.reduceMul, qFin_ret, qFin_normal, bb]; (try ((refine okTr_and ?_ ?_); (· rfl))))
          refine CallK.p (index_Same l o (by omega)) ?_; (simp only [go_sem, Nat.reduceAdd, Nat.reduceMul, Int.reduceToNat, Nat.reduceLeDiff, Int.reduceLE, Int.reduceLT, ↓reduceIte, Int.reduceBEq, Int.reduceBNe, Int.reduceAdd, Int.reduceSub, Int.reduceMul, qFin_ret, qFin_normal]; (try ((refine okTr_and ?_ ?_); (· rfl))))
          refine CallK.p (ref32_Same l o (by omega)) ?_; (simp only [go_sem, Nat.reduceAdd, Nat.reduceMul, Int.reduceToNat, Nat.reduceLeDiff, Int.reduceLE, Int.reduceLT, ↓reduceIte, Int.reduceBEq, Int.reduceBNe, Int.reduceAdd, Int.reduceSub, Int.reduceMul, qFin_ret, qFin_normal, bb]; (try ((refine okTr_and ?_ ?_); (· rfl))))
          refine CallK.p (ref32_Right l hl (by omega)) ?_; (simp only [go_sem, Nat.reduceAdd, Nat.reduceMul, Int.reduceToNat, Nat.reduceLeDiff, Int.reduceLE, Int.reduceLT, ↓reduceIte, Int.reduceBEq, Int.reduceBNe, Int.reduceAdd, Int.reduceSub, Int.reduceMul, qFin_ret, qFin_normal, hf, ints_nil]; (try ((refine okTr_and ?_ ?_); (· rfl))))
          refine CallK.p (live32) ?_; (simp only [go_sem, Nat.reduceAdd, Nat.reduceMul, Int.reduceToNat, Nat.reduceLeDiff, Int.reduceLE, Int.reduceLT, ↓reduceIte, Int.reduceBEq, Int.reduceBNe, Int.reduceAdd, Int.reduceSub, Int.reduceMul, qFin_ret, qFin_normal]; (try ((refine okTr_and ?_ ?_); (· rfl))))
          ((refine FinK.fin r27 [] ?_ ?_ ?_ ?_ ?_ ?_); (· decide); (· rfl); (· simp); (· rfl); (· first | with_reducible rfl | (simp [ints_nil, ren_lit, ren_ref, ren_any, ren_agg, ren_tup, ren_sl, ren_fn, tren_none, tren_full, tren_row, oren_cells, oren_row, oren_dead, ixs_z, ixs_1, ixs_2, ixs_3, ren_ints, List.map_cons, List.map_nil]; done) | rfl); (· simp [resAL, resA1, loadA, oneOr, ints_nil, ren_lit, ren_ref, ren_any, ren_agg, ren_tup, ren_sl, ren_fn, tren_none, tren_full, tren_row, oren_cells, oren_row, oren_dead, ixs_z, ixs_1, ixs_2, ixs_3, ren_ints, List.map_cons, List.map_nil]))
        · have hr := marks_room hf
          obtain ⟨hwf, h16⟩ := rightM_wf.1 hf
          have hw : (WS.new 2000).marks l = ⟨2000, marksB l, 0⟩ := by rw [WS.new_is (by omega), put_marks rfl hf (by simp only [List.length_nil]; omega)]; simp only [List.nil_append]
          have hR : markR l = marksB l := by unfold markR; rw [if_pos hf]
          have hb := marksB_bys hwf (by omega)
          have hap : Bys (marksB l ++ m) := by
            intro y hy
            rcases List.mem_append.1 hy with h | h
            · exact hb y h
            · exact hm y h
          have hal : (marksB l ++ m).length ≤ 2400 := by rw [List.length_append]; omega
          have hok : ROk (RS.new (marksB l ++ m)) := ROk.new hap (by omega)
          have hro := marks_own hok rfl hf (r := m) (new_rest _)
          have hg : ((RS.new (marksB l ++ m)).adv ((marksB l).length : Int)).good = true := rfl
          have hat : ((RS.new (marksB l ++ m)).adv ((marksB l).length : Int)).at_ = (marksB l).length := by simp [RS.adv, RS.new]
          (simp only [go_sem, Nat.reduceAdd, Nat.reduceMul, Int.reduceToNat, Nat.reduceLeDiff, Int.reduceLE, Int.reduceLT, ↓reduceIte, Int.reduceBEq, Int.reduceBNe, Int.reduceAdd, Int.reduceSub, Int.reduceMul, qFin_ret, qFin_normal, hw]; (try ((refine okTr_and ?_ ?_); (· rfl))))
          refine CallK.r2 (Writer_Bytes _ _ _ (by decide) (by simp only; omega)) rfl rfl ?_; (simp only [go_sem, Nat.reduceAdd, Nat.reduceMul, Int.reduceToNat, Nat.reduceLeDiff, Int.reduceLE, Int.reduceLT, ↓reduceIte, Int.reduceBEq, Int.reduceBNe, Int.reduceAdd, Int.reduceSub, Int.reduceMul, qFin_ret, qFin_normal, WS.bytes, hf, hR]; (try ((refine okTr_and ?_ ?_); (· rfl))))
          refine CallK.p (ref02_Same (marksB l) (marksB l) hb hb) ?_; (simp only [go_sem, Nat.reduceAdd, Nat.reduceMul, Int.reduceToNat, Nat.reduceLeDiff, Int.reduceLE, Int.reduceLT, ↓reduceIte, Int.reduceBEq, Int.reduceBNe, Int.reduceAdd, Int.reduceSub, Int.reduceMul, qFin_ret, qFin_normal, same_self]; (try ((refine okTr_and ?_ ?_); (· rfl))))
          refine CallK.p (index_Right l hl (by omega)) ?_; (simp only [go_sem, Nat.reduceAdd, Nat.reduceMul, Int.reduceToNat, Nat.reduceLeDiff, Int.reduceLE, Int.reduceLT, ↓reduceIte, Int.reduceBEq, Int.reduceBNe, Int.reduceAdd, Int.reduceSub, Int.reduceMul, qFin_ret, qFin_normal]; (try ((refine okTr_and ?_ ?_); (· rfl))))
          refine CallK.p (ref32_Right l hl (by omega)) ?_; (simp only [go_sem, Nat.reduceAdd, Nat.reduceMul, Int.reduceToNat, Nat.reduceLeDiff, Int.reduceLE, Int.reduceLT, ↓reduceIte, Int.reduceBEq, Int.reduceBNe, Int.reduceAdd, Int.reduceSub, Int.reduceMul, qFin_ret, qFin_normal, bb]; (try ((refine okTr_and ?_ ?_); (· rfl))))
          refine CallK.p (index_Same l o (by omega)) ?_; (simp only [go_sem, Nat.reduceAdd, Nat.reduceMul, Int.reduceToNat, Nat.reduceLeDiff, Int.reduceLE, Int.reduceLT, ↓reduceIte, Int.reduceBEq, Int.reduceBNe, Int.reduceAdd, Int.reduceSub, Int.reduceMul, qFin_ret, qFin_normal]; (try ((refine okTr_and ?_ ?_); (· rfl))))
          refine CallK.p (ref32_Same l o (by omega)) ?_; (simp only [go_sem, Nat.reduceAdd, Nat.reduceMul, Int.reduceToNat, Nat.reduceLeDiff, Int.reduceLE, Int.reduceLT, ↓reduceIte, Int.reduceBEq, Int.reduceBNe, Int.reduceAdd, Int.reduceSub, Int.reduceMul, qFin_ret, qFin_normal, bb]; (try ((refine okTr_and ?_ ?_); (· rfl))))
          refine CallK.p (ref32_Right l hl (by omega)) ?_; (simp only [go_sem, Nat.reduceAdd, Nat.reduceMul, Int.reduceToNat, Nat.reduceLeDiff, Int.reduceLE, Int.reduceLT, ↓reduceIte, Int.reduceBEq, Int.reduceBNe, Int.reduceAdd, Int.reduceSub, Int.reduceMul, qFin_ret, qFin_normal, hf, ints_append, ints_length]; (try ((refine okTr_and ?_ ?_); (· rfl))))
          (repeat ((with_reducible refine And.intro ?_ ?_); (· first | with_reducible assumption | omega | with_reducible rfl | (simp only [List.length_append, List.length_cons, List.length_nil, List.length_singleton]; omega) | (simp [ints_length, okEl_eq, AV.parts]; done) | (simp [ints_length, okEl_eq, AV.parts]; omega) | rfl)))
          refine CallK.n (cursor_New (marksB l ++ m)) ?_; (simp only [go_sem, Nat.reduceAdd, Nat.reduceMul, Int.reduceToNat, Nat.reduceLeDiff, Int.reduceLE, Int.reduceLT, ↓reduceIte, Int.reduceBEq, Int.reduceBNe, Int.reduceAdd, Int.reduceSub, Int.reduceMul, qFin_ret, qFin_normal]; (try ((refine okTr_and ?_ ?_); (· rfl))))
          refine CallK.u1 (index_Read (RS.new (marksB l ++ m)) _ hok (by show (marksB l ++ m).length * 24 ≤ _; omega)) rfl ?_; (simp only [go_sem, Nat.reduceAdd, Nat.reduceMul, Int.reduceToNat, Nat.reduceLeDiff, Int.reduceLE, Int.reduceLT, ↓reduceIte, Int.reduceBEq, Int.reduceBNe, Int.reduceAdd, Int.reduceSub, Int.reduceMul, qFin_ret, qFin_normal, hro]; (try ((refine okTr_and ?_ ?_); (· rfl))))
          refine CallK.n (ref32_Bytes l hf) ?_; (simp only [go_sem, Nat.reduceAdd, Nat.reduceMul, Int.reduceToNat, Nat.reduceLeDiff, Int.reduceLE, Int.reduceLT, ↓reduceIte, Int.reduceBEq, Int.reduceBNe, Int.reduceAdd, Int.reduceSub, Int.reduceMul, qFin_ret, qFin_normal]; (try ((refine okTr_and ?_ ?_); (· rfl))))
          refine CallK.p (ref02_Same (marksB l) (marksB l) hb hb) ?_; (simp only [go_sem, Nat.reduceAdd, Nat.reduceMul, Int.reduceToNat, Nat.reduceLeDiff, Int.reduceLE, Int.reduceLT, ↓reduceIte, Int.reduceBEq, Int.reduceBNe, Int.reduceAdd, Int.reduceSub, Int.reduceMul, qFin_ret, qFin_normal, same_self]; (try ((refine okTr_and ?_ ?_); (· rfl))))
          refine CallK.r1 (Reader_Good _ _) rfl ?_; (simp only [go_sem, Nat.reduceAdd, Nat.reduceMul, Int.reduceToNat, Nat.reduceLeDiff, Int.reduceLE, Int.reduceLT, ↓reduceIte, Int.reduceBEq, Int.reduceBNe, Int.reduceAdd, Int.reduceSub, Int.reduceMul, qFin_ret, qFin_normal, hg]; (try ((refine okTr_and ?_ ?_); (· rfl))))
          refine CallK.r1 (Reader_At _ _) rfl ?_; (simp only [go_sem, Nat.reduceAdd, Nat.reduceMul, Int.reduceToNat, Nat.reduceLeDiff, Int.reduceLE, Int.reduceLT, ↓reduceIte, Int.reduceBEq, Int.reduceBNe, Int.reduceAdd, Int.reduceSub, Int.reduceMul, qFin_ret, qFin_normal, hat, ints_length]; (try ((refine okTr_and ?_ ?_); (· rfl))))
          refine CallK.p (ref32_Same l l (by omega)) ?_; (simp only [go_sem, Nat.reduceAdd, Nat.reduceMul, Int.reduceToNat, Nat.reduceLeDiff, Int.reduceLE, Int.reduceLT, ↓reduceIte, Int.reduceBEq, Int.reduceBNe, Int.reduceAdd, Int.reduceSub, Int.reduceMul, qFin_ret, qFin_normal, sameM_self]; (try ((refine okTr_and ?_ ?_); (· rfl))))
          refine CallK.p (live32) ?_; (simp only [go_sem, Nat.reduceAdd, Nat.reduceMul, Int.reduceToNat, Nat.reduceLeDiff, Int.reduceLE, Int.reduceLT, ↓reduceIte, Int.reduceBEq, Int.reduceBNe, Int.reduceAdd, Int.reduceSub, Int.reduceMul, qFin_ret, qFin_normal]; (try ((refine okTr_and ?_ ?_); (· rfl))))
          ((refine FinK.fin r27 [] ?_ ?_ ?_ ?_ ?_ ?_); (· decide); (· rfl); (· simp); (· rfl); (· first | with_reducible rfl | (simp [ints_nil, ren_lit, ren_ref, ren_any, ren_agg, ren_tup, ren_sl, ren_fn, tren_none, tren_full, tren_row, oren_cells, oren_row, oren_dead, ixs_z, ixs_1, ixs_2, ixs_3, ren_ints, List.map_cons, List.map_nil]; done) | rfl); (· simp [resAL, resA1, loadA, oneOr, ints_nil, ren_lit, ren_ref, ren_any, ren_agg, ren_tup, ren_sl, ren_fn, tren_none, tren_full, tren_row, oren_cells, oren_row, oren_dead, ixs_z, ixs_1, ixs_2, ixs_3, ren_ints, List.map_cons, List.map_nil]))
def atG (l : List Mk) (i : Nat) : Int := if i = 0 then (l.getD 0 mk0).pos else (l.getD (i - 1) mk0).fin
set_option maxHeartbeats 1000000 in
set_option maxRecDepth 100000 in
theorem law_IndexGaps (l : List Mk) (pos : Int) (hl : Mks l) (p0 : 0 ≤ pos) : Does Try.prog 16 [slM l, uA pos] [] (bA true) [] := by
  have b1 : ∀ a : Int, (a == a) = true := by simp
  have b2 : ∀ a : Int, (a != a) = false := by simp
  have b3 : ∀ a : Bool, (a != a) = false := by decide
  refine Does.run Try.func16 b16 n16 Try.ntmps16 (by simp only [List.cons_append, List.nil_append, List.length_cons, List.length_nil, Nat.zero_add, Nat.reduceAdd, Nat.reduceSub, List.replicate]; rfl) ?_; simp only [c16, go_sem, Nat.reduceAdd, Nat.reduceMul, Int.reduceToNat, Nat.reduceLeDiff, Int.reduceLE, Int.reduceLT, ↓reduceIte, Int.reduceBEq, Int.reduceBNe, Int.reduceAdd, Int.reduceSub, Int.reduceMul, qFin_ret, qFin_normal, mks_length]; (try ((refine okTr_and ?_ ?_); (· rfl)))
  refine cdK_split (fun h => ?_) (fun h => ?_)
  · (simp only [go_sem, Nat.reduceAdd, Nat.reduceMul, Int.reduceToNat, Nat.reduceLeDiff, Int.reduceLE, Int.reduceLT, ↓reduceIte, Int.reduceBEq, Int.reduceBNe, Int.reduceAdd, Int.reduceSub, Int.reduceMul, qFin_ret, qFin_normal]; (try ((refine okTr_and ?_ ?_); (· rfl))))
    refine CallK.p (live32) ?_; (simp only [go_sem, Nat.reduceAdd, Nat.reduceMul, Int.reduceToNat, Nat.reduceLeDiff, Int.reduceLE, Int.reduceLT, ↓reduceIte, Int.reduceBEq, Int.reduceBNe, Int.reduceAdd, Int.reduceSub, Int.reduceMul, qFin_ret, qFin_normal]; (try ((refine okTr_and ?_ ?_); (· rfl))))
    ((refine FinK.fin r16 [] ?_ ?_ ?_ ?_ ?_ ?_); (· decide); (· rfl); (· simp); (· rfl); (· first | with_reducible rfl | (simp [ints_nil, ren_lit, ren_ref, ren_any, ren_agg, ren_tup, ren_sl, ren_fn, tren_none, tren_full, tren_row, oren_cells, oren_row, oren_dead, ixs_z, ixs_1, ixs_2, ixs_3, ren_ints, List.map_cons, List.map_nil]; done) | rfl); (· simp [resAL, resA1, loadA, oneOr, ints_nil, ren_lit, ren_ref, ren_any, ren_agg, ren_tup, ren_sl, ren_fn, tren_none, tren_full, tren_row, oren_cells, oren_row, oren_dead, ixs_z, ixs_1, ixs_2, ixs_3, ren_ints, List.map_cons, List.map_nil]))
  · have hn : l.length ≤ 100 := by simp at h; omega
    (simp only [go_sem, Nat.reduceAdd, Nat.reduceMul, Int.reduceToNat, Nat.reduceLeDiff, Int.reduceLE, Int.reduceLT, ↓reduceIte, Int.reduceBEq, Int.reduceBNe, Int.reduceAdd, Int.reduceSub, Int.reduceMul, qFin_ret, qFin_normal]; (try ((refine okTr_and ?_ ?_); (· rfl))))
    refine CallK.p (index_Gaps l hl (by omega)) ?_; (simp only [go_sem, Nat.reduceAdd, Nat.reduceMul, Int.reduceToNat, Nat.reduceLeDiff, Int.reduceLE, Int.reduceLT, ↓reduceIte, Int.reduceBEq, Int.reduceBNe, Int.reduceAdd, Int.reduceSub, Int.reduceMul, qFin_ret, qFin_normal]; (try ((refine okTr_and ?_ ?_); (· rfl))))
    refine CallK.p (index_Near l pos hl (by omega)) ?_; (simp only [go_sem, Nat.reduceAdd, Nat.reduceMul, Int.reduceToNat, Nat.reduceLeDiff, Int.reduceLE, Int.reduceLT, ↓reduceIte, Int.reduceBEq, Int.reduceBNe, Int.reduceAdd, Int.reduceSub, Int.reduceMul, qFin_ret, qFin_normal]; (try ((refine okTr_and ?_ ?_); (· rfl))))
    refine CallK.p (ref32_Right l hl (by omega)) ?_
    cases hf : rightM l
    · have hg : gapsM l = [] := by unfold gapsM; rw [hf]; rfl
      have he : nearM l pos = (0, false) := by unfold nearM; rw [hf]; simp
      (simp only [go_sem, Nat.reduceAdd, Nat.reduceMul, Int.reduceToNat, Nat.reduceLeDiff, Int.reduceLE, Int.reduceLT, ↓reduceIte, Int.reduceBEq, Int.reduceBNe, Int.reduceAdd, Int.reduceSub, Int.reduceMul, qFin_ret, qFin_normal, hf, hg, he, prs_nil]; (try ((refine okTr_and ?_ ?_); (· rfl))))
      refine CallK.p (live32) ?_; (simp only [go_sem, Nat.reduceAdd, Nat.reduceMul, Int.reduceToNat, Nat.reduceLeDiff, Int.reduceLE, Int.reduceLT, ↓reduceIte, Int.reduceBEq, Int.reduceBNe, Int.reduceAdd, Int.reduceSub, Int.reduceMul, qFin_ret, qFin_normal]; (try ((refine okTr_and ?_ ?_); (· rfl))))
      ((refine FinK.fin r16 [] ?_ ?_ ?_ ?_ ?_ ?_); (· decide); (· rfl); (· simp); (· rfl); (· first | with_reducible rfl | (simp [ints_nil, ren_lit, ren_ref, ren_any, ren_agg, ren_tup, ren_sl, ren_fn, tren_none, tren_full, tren_row, oren_cells, oren_row, oren_dead, ixs_z, ixs_1, ixs_2, ixs_3, ren_ints, List.map_cons, List.map_nil]; done) | rfl); (· simp [resAL, resA1, loadA, oneOr, ints_nil, ren_lit, ren_ref, ren_any, ren_agg, ren_tup, ren_sl, ren_fn, tren_none, tren_full, tren_row, oren_cells, oren_row, oren_dead, ixs_z, ixs_1, ixs_2, ixs_3, ren_ints, List.map_cons, List.map_nil]))
    · obtain ⟨z, hz⟩ : ∃ z, fstI (beh pos) l = z := ⟨_, rfl⟩
      have hzl := fstI_le (beh pos) l
      rw [hz] at hzl
      by_cases hl0 : l.length = 0
      · have hg : gapsM l = [] := by unfold gapsM; rw [hf, hl0]; rfl
        have he : nearM l pos = (0, false) := by unfold nearM; rw [hz, if_neg (by omega)]
        (simp only [go_sem, Nat.reduceAdd, Nat.reduceMul, Int.reduceToNat, Nat.reduceLeDiff, Int.reduceLE, Int.reduceLT, ↓reduceIte, Int.reduceBEq, Int.reduceBNe, Int.reduceAdd, Int.reduceSub, Int.reduceMul, qFin_ret, qFin_normal, hf, hg, he, prs_nil, mks_length, len0 l hl0]; (try ((refine okTr_and ?_ ?_); (· rfl))))
        refine CallK.p (live32) ?_; (simp only [go_sem, Nat.reduceAdd, Nat.reduceMul, Int.reduceToNat, Nat.reduceLeDiff, Int.reduceLE, Int.reduceLT, ↓reduceIte, Int.reduceBEq, Int.reduceBNe, Int.reduceAdd, Int.reduceSub, Int.reduceMul, qFin_ret, qFin_normal]; (try ((refine okTr_and ?_ ?_); (· rfl))))
        ((refine FinK.fin r16 [] ?_ ?_ ?_ ?_ ?_ ?_); (· decide); (· rfl); (· simp); (· rfl); (· first | with_reducible rfl | (simp [ints_nil, ren_lit, ren_ref, ren_any, ren_agg, ren_tup, ren_sl, ren_fn, tren_none, tren_full, tren_row, oren_cells, oren_row, oren_dead, ixs_z, ixs_1, ixs_2, ixs_3, ren_ints, List.map_cons, List.map_nil]; done) | rfl); (· simp [resAL, resA1, loadA, oneOr, ints_nil, ren_lit, ren_ref, ren_any, ren_agg, ren_tup, ren_sl, ren_fn, tren_none, tren_full, tren_row, oren_cells, oren_row, oren_dead, ixs_z, ixs_1, ixs_2, ixs_3, ren_ints, List.map_cons, List.map_nil]))
      · have hg : gapsM l = gapTo l l.length := by unfold gapsM; rw [if_pos hf, show max l.length 1 = l.length from by omega]
        have g0 := mks_getD l 0 (by omega)
        obtain ⟨G, hG⟩ : ∃ G, gapTo l l.length = G := ⟨_, rfl⟩
        have hGl : G.length ≤ 100 := by have := gapTo_len l l.length; rw [hG] at this; omega
        (simp only [go_sem, Nat.reduceAdd, Nat.reduceMul, Int.reduceToNat, Nat.reduceLeDiff, Int.reduceLE, Int.reduceLT, ↓reduceIte, Int.reduceBEq, Int.reduceBNe, Int.reduceAdd, Int.reduceSub, Int.reduceMul, qFin_ret, qFin_normal, hf, hg, hG, mks_length, len1 l hl0, g0]; (try ((refine okTr_and ?_ ?_); (· rfl))))
        (repeat ((with_reducible refine And.intro ?_ ?_); (· first | with_reducible assumption | omega | with_reducible rfl | (simp only [List.length_append, List.length_cons, List.length_nil, List.length_singleton]; omega) | (simp [ints_length, okEl_eq, AV.parts]; done) | (simp [ints_length, okEl_eq, AV.parts]; omega) | rfl)))
        refine loop_of (α := Nat) (fun k => [slM l, uA pos, .any, .any, .any, slP G, uA (nearM l pos).1, bA (nearM l pos).2, uA (atG l k), iA (gapTo l (max k 1)).length, iA k, .any, .any, .any, .any, .any, .any, .any, .any, .any, .any, .any, .any, .any, .any, .any, .any, .any, .any, .any, .any, .any, .any, .any, .any, .any, .any, .any, .any, .any, .any, .any, .any, .any, .any, .any, .any, .any, .any, .any, .any, .any, .any, .any, .any, .any, .any, .any, .any, .any, .any, .any, .any, .any, .any, .any, .any, .any, .any, .any, .any, .any, .any, .any, .any, .any, .any, .any, .any, .any, .any, .any, .any, .any, .any, .any, .any, .any, .any, .any, .any, .any, .any, .any, .any, .any, .any, .any, .any, .any, .any, .any, .any, .any, .any, .any, .any, .any, .any, .any, .any, .any, .any, .any, .any, .any, .any, .any, .any, .any, .any, .any, .any, .any, .any, .any, .any, .any, .any, .any, .any, .any, .any, .any, .any, .any, .any, .any, .any, .any, .any, .any, .any, .any, .any, .any, .any, .any, .any, .any, .any, .any, .any, .any, .any, .any, .any, .any, .any, .any, .any, .any, .any, .any, .any, .any, .any, .any, .any, .any, .any, .any, .any, .any, .any]) (fun _ => []) (fun k => k ≤ l.length) (fun k => l.length - k) 0 (by simp) (Wk.to (by simp) (by simp [leT, atG, gapTo])) ?_
        intro k hk
        have hgl := gapTo_len l (max k 1)
        (simp only [go_sem, Nat.reduceAdd, Nat.reduceMul, Int.reduceToNat, Nat.reduceLeDiff, Int.reduceLE, Int.reduceLT, ↓reduceIte, Int.reduceBEq, Int.reduceBNe, Int.reduceAdd, Int.reduceSub, Int.reduceMul, qFin_ret, qFin_normal, mks_length]; (try ((refine okTr_and ?_ ?_); (· rfl))))
        refine cdK_split (fun h => ?_) (fun h => ?_)
        · have hlt : k < l.length := by simpa using h
          have g := mks_get l k hlt
          have ei := i64_succ k (by omega)
          have hx := right_at hf hlt
          obtain ⟨x, hxe⟩ : ∃ x, l.getD k mk0 = x := ⟨_, rfl⟩
          have hat : atG l (k + 1) = x.fin := by unfold atG; rw [if_neg (by omega), Nat.add_sub_cancel, hxe]
          rw [hxe] at g hx
          have w1 : IntKind.u64.wrap x.cnt = x.cnt := IntWalk.u64_in _ (by omega)
          have w2 : IntKind.u64.wrap (x.pos + x.cnt) = x.fin := IntWalk.u64_in _ (by omega)
          by_cases c : atG l k < x.pos
          · have q : decide (atG l k < x.pos) = true := by simpa using c
            obtain ⟨j, rfl⟩ : ∃ j, k = j + 1 := ⟨k - 1, by
              rcases Nat.eq_zero_or_pos k with h5 | h5
              · rw [h5] at c hxe; unfold atG at c; rw [if_pos rfl, hxe] at c; omega
              · omega⟩
            have hat1 : atG l (j + 1) = (l.getD j mk0).fin := by unfold atG; rw [if_neg (by omega), Nat.add_sub_cancel]
            rw [hat1] at c
            rw [← hxe] at c
            obtain ⟨k1, k2⟩ := gapTo_get l hlt c
            rw [hG] at k1 k2
            rw [hxe] at k2
            have em : max (j + 1) 1 = j + 1 := by omega
            have em2 : max (j + 1 + 1) 1 = j + 1 + 1 := by omega
            have hs : (gapTo l (j + 1 + 1)).length = (gapTo l (j + 1)).length + 1 := by simp only [gapTo, if_pos c]; simp
            have gG := prs_get G (gapTo l (j + 1)).length k1
            rw [k2] at gG
            have r1 : decide ((G.length : Int) ≤ ((gapTo l (j + 1)).length : Int)) = false := by simp only [decide_eq_false_iff_not]; omega
            have es : IntKind.i64.wrap (((gapTo l (j + 1)).length : Int) + 1) = ((gapTo l (j + 1 + 1)).length : Int) := by rw [hs]; exact i64_succ _ (by omega)
            rw [hat1] at q
            (simp only [go_sem, Nat.reduceAdd, Nat.reduceMul, Int.reduceToNat, Nat.reduceLeDiff, Int.reduceLE, Int.reduceLT, ↓reduceIte, Int.reduceBEq, Int.reduceBNe, Int.reduceAdd, Int.reduceSub, Int.reduceMul, qFin_ret, qFin_normal, hat1, em, g, mks_length, q, prs_length, r1, gG, b1, w1, w2, es, ei]; (try ((refine okTr_and ?_ ?_); (· rfl))))
            (repeat ((with_reducible refine And.intro ?_ ?_); (· first | with_reducible assumption | omega | with_reducible rfl | (simp only [List.length_append, List.length_cons, List.length_nil, List.length_singleton]; omega) | (simp [ints_length, okEl_eq, AV.parts]; done) | (simp [ints_length, okEl_eq, AV.parts]; omega) | rfl)))
            exact ⟨j + 1 + 1, hlt, by omega, Wk.to (by simp) (by simp only [hat, em2]; simp [leT])⟩
          · have q : decide (atG l k < x.pos) = false := by simpa using c
            have es : (gapTo l (max k 1)).length = (gapTo l (max (k + 1) 1)).length := by
              rcases Nat.eq_zero_or_pos k with h5 | h5
              · rw [h5]; rfl
              · obtain ⟨j, rfl⟩ : ∃ j, k = j + 1 := ⟨k - 1, by omega⟩
                have hat1 : atG l (j + 1) = (l.getD j mk0).fin := by unfold atG; rw [if_neg (by omega), Nat.add_sub_cancel]
                rw [show max (j + 1) 1 = j + 1 from by omega, show max (j + 1 + 1) 1 = j + 2 from by omega]
                simp only [gapTo]
                rw [if_neg (by rw [hxe, ← hat1]; exact c)]
            (simp only [go_sem, Nat.reduceAdd, Nat.reduceMul, Int.reduceToNat, Nat.reduceLeDiff, Int.reduceLE, Int.reduceLT, ↓reduceIte, Int.reduceBEq, Int.reduceBNe, Int.reduceAdd, Int.reduceSub, Int.reduceMul, qFin_ret, qFin_normal, g, mks_length, q, w1, w2, ei]; (try ((refine okTr_and ?_ ?_); (· rfl))))
            (repeat ((with_reducible refine And.intro ?_ ?_); (· first | with_reducible assumption | omega | with_reducible rfl | (simp only [List.length_append, List.length_cons, List.length_nil, List.length_singleton]; omega) | (simp [ints_length, okEl_eq, AV.parts]; done) | (simp [ints_length, okEl_eq, AV.parts]; omega) | rfl)))
            exact ⟨k + 1, hlt, by omega, Wk.to (by simp) (by simp only [hat, es]; simp [leT])⟩
        · have ek : k = l.length := by simp at h; omega
          subst ek
          have em : max l.length 1 = l.length := by omega
          have hat : atG l l.length = (l.getD (l.length - 1) mk0).fin := by unfold atG; rw [if_neg (by omega)]
          have hlast : (nearM l pos).2 = decide (pos < atG l l.length) := by
            rw [Bool.eq_iff_iff, decide_eq_true_eq, hat]
            unfold nearM
            rw [hz]
            constructor
            · intro h5
              split at h5
              · rename_i h6
                have h7 := fstI_at (p := beh pos) (l := l) (by omega)
                rw [hz] at h7
                simp only [beh, decide_eq_true_eq] at h7
                rcases Nat.lt_or_ge z (l.length - 1) with h8 | h8
                · have h9 := right_lt hf h8 (by omega)
                  have h10 := right_at hf (k := l.length - 1) (by omega)
                  unfold Mk.fin at *
                  omega
                · rw [show z = l.length - 1 from by omega] at h7; exact h7
              · cases h5
            · intro h5
              have hz2 : z < l.length := by
                rcases Nat.lt_or_ge z l.length with h6 | h6
                · exact h6
                · have h7 := fstI_before (p := beh pos) (l := l) (i := l.length - 1) (by omega)
                  simp only [beh, decide_eq_false_iff_not] at h7
                  omega
              rw [if_pos ⟨hf, hz2⟩]
          by_cases hzz : z < l.length
          · have hfm : nearM l pos = (max pos (l.getD z mk0).pos, true) := by unfold nearM; rw [hz, if_pos ⟨hf, hzz⟩]
            rw [hfm] at hlast
            have hxz := right_at hf hzz
            have hbz := fstI_at (p := beh pos) (l := l) (by omega)
            rw [hz] at hbz
            simp only [beh, decide_eq_true_eq] at hbz
            obtain ⟨y, hy⟩ : ∃ y, l.getD z mk0 = y := ⟨_, rfl⟩
            rw [hy] at hfm hxz hbz
            obtain ⟨w, hw⟩ : ∃ w, max pos y.pos = w := ⟨_, rfl⟩
            rw [hw] at hfm
            have hlast' : decide (pos < atG l l.length) = true := hlast.symm
            (simp only [go_sem, Nat.reduceAdd, Nat.reduceMul, Int.reduceToNat, Nat.reduceLeDiff, Int.reduceLE, Int.reduceLT, ↓reduceIte, Int.reduceBEq, Int.reduceBNe, Int.reduceAdd, Int.reduceSub, Int.reduceMul, qFin_ret, qFin_normal, em, hG, prs_length, b2, hfm, hlast', show ((true != true) = false) from rfl]; (try ((refine okTr_and ?_ ?_); (· rfl))))
            refine loop_of (α := Nat) (fun k => [slM l, uA pos, .any, .any, .any, .any, uA w, .any, .any, .any, .any, bA (decide (pos < w) || decide (z < k)), iA k, .any, .any, .any, .any, .any, .any, .any, .any, .any, .any, .any, .any, .any, .any, .any, .any, .any, .any, .any, .any, .any, .any, .any, .any, .any, .any, .any, .any, .any, .any, .any, .any, .any, .any, .any, .any, .any, .any, .any, .any, .any, .any, .any, .any, .any, .any, .any, .any, .any, .any, .any, .any, .any, .any, .any, .any, .any, .any, .any, .any, .any, .any, .any, .any, .any, .any, .any, .any, .any, .any, .any, .any, .any, .any, .any, .any, .any, .any, .any, .any, .any, .any, .any, .any, .any, .any, .any, .any, .any, .any, .any, .any, .any, .any, .any, .any, .any, .any, .any, .any, .any, .any, .any, .any, .any, .any, .any, .any, .any, .any, .any, .any, .any, .any, .any, .any, .any, .any, .any, .any, .any, .any, .any, .any, .any, .any, .any, .any, .any, .any, .any, .any, .any, .any, .any, .any, .any, .any, .any, .any, .any, .any, .any, .any, .any, .any, .any, .any, .any, .any, .any, .any, .any, .any, .any, .any, .any, .any, .any, .any, .any, .any]) (fun _ => []) (fun k => k ≤ l.length) (fun k => l.length - k) 0 (by simp) (Wk.to (by simp) (by simp [leT])) ?_
            intro k hk
            (simp only [go_sem, Nat.reduceAdd, Nat.reduceMul, Int.reduceToNat, Nat.reduceLeDiff, Int.reduceLE, Int.reduceLT, ↓reduceIte, Int.reduceBEq, Int.reduceBNe, Int.reduceAdd, Int.reduceSub, Int.reduceMul, qFin_ret, qFin_normal, mks_length]; (try ((refine okTr_and ?_ ?_); (· rfl))))
            refine cdK_split (fun h => ?_) (fun h => ?_)
            · have hlt : k < l.length := by simpa using h
              have g := mks_get l k hlt
              have ei := i64_succ k (by omega)
              have hx := right_at hf hlt
              obtain ⟨x, hxe⟩ : ∃ x, l.getD k mk0 = x := ⟨_, rfl⟩
              have hrel : (k < z → x.fin ≤ pos) ∧ (k = z → x = y) ∧ (z < k → y.fin ≤ x.pos) := by
                refine ⟨fun h5 => ?_, fun h5 => ?_, fun h5 => ?_⟩
                · have h7 := fstI_before (p := beh pos) (l := l) (i := k) (by omega)
                  rw [hxe] at h7
                  simp only [beh, decide_eq_false_iff_not] at h7
                  omega
                · rw [← hxe, ← hy, h5]
                · have h7 := right_lt hf h5 hlt
                  rw [hy, hxe] at h7; exact h7
              rw [hxe] at g hx
              obtain ⟨hr1, hr2, hr3⟩ := hrel
              have w1 : IntKind.u64.wrap x.cnt = x.cnt := IntWalk.u64_in _ (by omega)
              have w2 : IntKind.u64.wrap (x.pos + x.cnt) = x.fin := IntWalk.u64_in _ (by omega)
              by_cases c1 : x.pos ≤ pos ∧ pos < x.fin
              · have q1 : decide (x.pos ≤ pos) = true := by simpa using c1.1
                have q2 : decide (pos < x.fin) = true := by simpa using c1.2
                have hkz : k = z := by
                  rcases Nat.lt_trichotomy k z with h5 | h5 | h5
                  · have := hr1 h5; omega
                  · exact h5
                  · have := hr3 h5; omega
                have hxy := hr2 hkz
                have hwp : w = pos := by rw [← hw, ← hxy]; omega
                have q3 : (w == pos) = true := by simpa using hwp
                have q4 : decide (pos < x.pos) = false := by simp only [decide_eq_false_iff_not]; omega
                have ez : true = (decide (pos < w) || decide (z < k + 1)) := by
                  have : decide (z < k + 1) = true := by simp only [decide_eq_true_eq]; omega
                  rw [this]; simp
                (simp only [go_sem, Nat.reduceAdd, Nat.reduceMul, Int.reduceToNat, Nat.reduceLeDiff, Int.reduceLE, Int.reduceLT, ↓reduceIte, Int.reduceBEq, Int.reduceBNe, Int.reduceAdd, Int.reduceSub, Int.reduceMul, qFin_ret, qFin_normal, g, mks_length, q1, w1, w2, q2, q3, q4, ei]; (try ((refine okTr_and ?_ ?_); (· rfl))))
                (repeat ((with_reducible refine And.intro ?_ ?_); (· first | with_reducible assumption | omega | with_reducible rfl | (simp only [List.length_append, List.length_cons, List.length_nil, List.length_singleton]; omega) | (simp [ints_length, okEl_eq, AV.parts]; done) | (simp [ints_length, okEl_eq, AV.parts]; omega) | rfl)))
                exact ⟨k + 1, hlt, by omega, Wk.to (by simp) (by rw [← ez]; simp [leT])⟩
              · have ez : (decide (pos < w) || decide (z < k)) = (decide (pos < w) || decide (z < k + 1)) := by
                  by_cases hkz : k = z
                  · have hxy := hr2 hkz
                    rw [hxy] at c1
                    have : pos < w := by rw [← hw]; omega
                    have q5 : decide (pos < w) = true := by simpa using this
                    rw [q5]; rfl
                  · congr 1
                    rw [Bool.eq_iff_iff, decide_eq_true_eq, decide_eq_true_eq]; omega
                have q4 : decide (pos < x.pos) = false ∨ decide (pos < x.pos) = true ∧ decide (x.pos < w) = false := by
                  by_cases c2 : pos < x.pos
                  · right
                    refine ⟨by simpa using c2, ?_⟩
                    rw [decide_eq_false_iff_not]
                    intro h5
                    rcases Nat.lt_trichotomy k z with h6 | h6 | h6
                    · have := hr1 h6; unfold Mk.fin at this; omega
                    · have := hr2 h6; rw [this] at h5 c2; omega
                    · have := hr3 h6; unfold Mk.fin at this hbz; omega
                  · left; simpa using c2
                have hq : decide (x.pos ≤ pos) = false ∧ True ∨ decide (x.pos ≤ pos) = true ∧ decide (pos < x.fin) = false := by
                  by_cases c3 : x.pos ≤ pos
                  · right; refine ⟨by simpa using c3, ?_⟩; simp only [decide_eq_false_iff_not]; omega
                  · left; exact ⟨by simpa using c3, trivial⟩
                rcases hq with ⟨q1, q2⟩ | ⟨q1, q2⟩ <;> rcases q4 with q4 | ⟨q4, q5⟩
                · (simp only [go_sem, Nat.reduceAdd, Nat.reduceMul, Int.reduceToNat, Nat.reduceLeDiff, Int.reduceLE, Int.reduceLT, ↓reduceIte, Int.reduceBEq, Int.reduceBNe, Int.reduceAdd, Int.reduceSub, Int.reduceMul, qFin_ret, qFin_normal, g, mks_length, q1, w1, w2, q4, ei]; (try ((refine okTr_and ?_ ?_); (· rfl))))
                  (repeat ((with_reducible refine And.intro ?_ ?_); (· first | with_reducible assumption | omega | with_reducible rfl | (simp only [List.length_append, List.length_cons, List.length_nil, List.length_singleton]; omega) | (simp [ints_length, okEl_eq, AV.parts]; done) | (simp [ints_length, okEl_eq, AV.parts]; omega) | rfl)))
                  exact ⟨k + 1, hlt, by omega, Wk.to (by simp) (by rw [← ez]; simp [leT])⟩
                · (simp only [go_sem, Nat.reduceAdd, Nat.reduceMul, Int.reduceToNat, Nat.reduceLeDiff, Int.reduceLE, Int.reduceLT, ↓reduceIte, Int.reduceBEq, Int.reduceBNe, Int.reduceAdd, Int.reduceSub, Int.reduceMul, qFin_ret, qFin_normal, g, mks_length, q1, w1, w2, q4, q5, ei]; (try ((refine okTr_and ?_ ?_); (· rfl))))
                  (repeat ((with_reducible refine And.intro ?_ ?_); (· first | with_reducible assumption | omega | with_reducible rfl | (simp only [List.length_append, List.length_cons, List.length_nil, List.length_singleton]; omega) | (simp [ints_length, okEl_eq, AV.parts]; done) | (simp [ints_length, okEl_eq, AV.parts]; omega) | rfl)))
                  exact ⟨k + 1, hlt, by omega, Wk.to (by simp) (by rw [← ez]; simp [leT])⟩
                · (simp only [go_sem, Nat.reduceAdd, Nat.reduceMul, Int.reduceToNat, Nat.reduceLeDiff, Int.reduceLE, Int.reduceLT, ↓reduceIte, Int.reduceBEq, Int.reduceBNe, Int.reduceAdd, Int.reduceSub, Int.reduceMul, qFin_ret, qFin_normal, g, mks_length, q1, w1, w2, q2, q4, ei]; (try ((refine okTr_and ?_ ?_); (· rfl))))
                  (repeat ((with_reducible refine And.intro ?_ ?_); (· first | with_reducible assumption | omega | with_reducible rfl | (simp only [List.length_append, List.length_cons, List.length_nil, List.length_singleton]; omega) | (simp [ints_length, okEl_eq, AV.parts]; done) | (simp [ints_length, okEl_eq, AV.parts]; omega) | rfl)))
                  exact ⟨k + 1, hlt, by omega, Wk.to (by simp) (by rw [← ez]; simp [leT])⟩
                · (simp only [go_sem, Nat.reduceAdd, Nat.reduceMul, Int.reduceToNat, Nat.reduceLeDiff, Int.reduceLE, Int.reduceLT, ↓reduceIte, Int.reduceBEq, Int.reduceBNe, Int.reduceAdd, Int.reduceSub, Int.reduceMul, qFin_ret, qFin_normal, g, mks_length, q1, w1, w2, q2, q4, q5, ei]; (try ((refine okTr_and ?_ ?_); (· rfl))))
                  (repeat ((with_reducible refine And.intro ?_ ?_); (· first | with_reducible assumption | omega | with_reducible rfl | (simp only [List.length_append, List.length_cons, List.length_nil, List.length_singleton]; omega) | (simp [ints_length, okEl_eq, AV.parts]; done) | (simp [ints_length, okEl_eq, AV.parts]; omega) | rfl)))
                  exact ⟨k + 1, hlt, by omega, Wk.to (by simp) (by rw [← ez]; simp [leT])⟩
            · have ek2 : k = l.length := by simp at h; omega
              subst ek2
              have hbt : (decide (pos < w) || decide (z < l.length)) = true := by
                have : decide (z < l.length) = true := by simpa using hzz
                rw [this]; simp
              have hfw : fstI (hit w) l = z := by
                refine fstI_is hzz (by rw [hy]; exact hit_iff.2 (by unfold Mk.fin at *; omega)) fun i hi => ?_
                cases hh : hit w (l.getD i mk0) with
                | false => rfl
                | true =>
                  have := hit_one hf (by omega) hzz hh (by rw [hy]; exact hit_iff.2 (by unfold Mk.fin at *; omega))
                  omega
              have c2 : (if z < l.length then (z : Int) else -1) = z := if_pos hzz
              have c3 : decide ((0 : Int) ≤ z) = true := by simp
              (simp only [go_sem, Nat.reduceAdd, Nat.reduceMul, Int.reduceToNat, Nat.reduceLeDiff, Int.reduceLE, Int.reduceLT, ↓reduceIte, Int.reduceBEq, Int.reduceBNe, Int.reduceAdd, Int.reduceSub, Int.reduceMul, qFin_ret, qFin_normal, hbt]; (try ((refine okTr_and ?_ ?_); (· rfl))))
              refine CallK.p (ref32_Find l w hf) ?_; (simp only [go_sem, Nat.reduceAdd, Nat.reduceMul, Int.reduceToNat, Nat.reduceLeDiff, Int.reduceLE, Int.reduceLT, ↓reduceIte, Int.reduceBEq, Int.reduceBNe, Int.reduceAdd, Int.reduceSub, Int.reduceMul, qFin_ret, qFin_normal, hfw, c2, c3]; (try ((refine okTr_and ?_ ?_); (· rfl))))
              refine CallK.p (live32) ?_; (simp only [go_sem, Nat.reduceAdd, Nat.reduceMul, Int.reduceToNat, Nat.reduceLeDiff, Int.reduceLE, Int.reduceLT, ↓reduceIte, Int.reduceBEq, Int.reduceBNe, Int.reduceAdd, Int.reduceSub, Int.reduceMul, qFin_ret, qFin_normal]; (try ((refine okTr_and ?_ ?_); (· rfl))))
              ((refine FinK.fin r16 [] ?_ ?_ ?_ ?_ ?_ ?_); (· decide); (· rfl); (· simp); (· rfl); (· first | with_reducible rfl | (simp [ints_nil, ren_lit, ren_ref, ren_any, ren_agg, ren_tup, ren_sl, ren_fn, tren_none, tren_full, tren_row, oren_cells, oren_row, oren_dead, ixs_z, ixs_1, ixs_2, ixs_3, ren_ints, List.map_cons, List.map_nil]; done) | rfl); (· simp [resAL, resA1, loadA, oneOr, ints_nil, ren_lit, ren_ref, ren_any, ren_agg, ren_tup, ren_sl, ren_fn, tren_none, tren_full, tren_row, oren_cells, oren_row, oren_dead, ixs_z, ixs_1, ixs_2, ixs_3, ren_ints, List.map_cons, List.map_nil]))
          · have hfm : nearM l pos = (0, false) := by unfold nearM; rw [hz, if_neg (by omega)]
            rw [hfm] at hlast
            have hlast' : decide (pos < atG l l.length) = false := hlast.symm
            (simp only [go_sem, Nat.reduceAdd, Nat.reduceMul, Int.reduceToNat, Nat.reduceLeDiff, Int.reduceLE, Int.reduceLT, ↓reduceIte, Int.reduceBEq, Int.reduceBNe, Int.reduceAdd, Int.reduceSub, Int.reduceMul, qFin_ret, qFin_normal, em, hG, prs_length, b2, hfm, hlast', show ((false != false) = false) from rfl]; (try ((refine okTr_and ?_ ?_); (· rfl))))
            refine CallK.p (live32) ?_; (simp only [go_sem, Nat.reduceAdd, Nat.reduceMul, Int.reduceToNat, Nat.reduceLeDiff, Int.reduceLE, Int.reduceLT, ↓reduceIte, Int.reduceBEq, Int.reduceBNe, Int.reduceAdd, Int.reduceSub, Int.reduceMul, qFin_ret, qFin_normal]; (try ((refine okTr_and ?_ ?_); (· rfl))))
            ((refine FinK.fin r16 [] ?_ ?_ ?_ ?_ ?_ ?_); (· decide); (· rfl); (· simp); (· rfl); (· first | with_reducible rfl | (simp [ints_nil, ren_lit, ren_ref, ren_any, ren_agg, ren_tup, ren_sl, ren_fn, tren_none, tren_full, tren_row, oren_cells, oren_row, oren_dead, ixs_z, ixs_1, ixs_2, ixs_3, ren_ints, List.map_cons, List.map_nil]; done) | rfl); (· simp [resAL, resA1, loadA, oneOr, ints_nil, ren_lit, ren_ref, ren_any, ren_agg, ren_tup, ren_sl, ren_fn, tren_none, tren_full, tren_row, oren_cells, oren_row, oren_dead, ixs_z, ixs_1, ixs_2, ixs_3, ren_ints, List.map_cons, List.map_nil]))
end Go.Proofs.Ytgphhganepjaiaa
