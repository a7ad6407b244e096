/-
  Chapter 5: ZigzagBack.
-/
import Derived.Test.YtgphhganepjaiaaL05
set_option linter.all false
set_option linter.unusedSimpArgs false
set_option linter.unusedVariables false
set_option linter.unnecessarySimpa false
namespace Go.Proofs.Ytgphhganepjaiaa
open Go.RowKit

theorem back_own {l m : List Int} (hl : U64s l) (hr : rises l = true) : (RS.new (vbs (stps l l.length) ++ m)).rr l.length [] = (⟨vbs (stps l l.length) ++ m, (vbs (stps l l.length)).length, 0, 0⟩, l) := by
  have := rr_own (m := m) hl hr l.length 0 (RS.new (vbs (stps l l.length) ++ m)) (by omega) rfl (by simp [RS.new]) (by simp [RS.rest, RS.new])
  simpa [RS.adv, RS.new] using this
theorem law_ZigzagBack (l m : List Int) (k : Int) (hl : U64s l) (hm : Bys m) (k0 : 0 ≤ k) (k1 : k < 256) : Does Try.prog 22 [slU l, slA .u8 m, u8A k] [] (bA true) [] := by
  have ek : IntKind.i64.wrap k = k := IntWalk.i64_in _ (by omega)
  have ekm : (max k 0).toNat = k.toNat := by congr 1; omega
  refine Does.run Try.func22 b22 n22 Try.ntmps22 (by simp only [List.cons_append, List.nil_append, List.length_cons, List.length_nil, Nat.zero_add, Nat.reduceAdd, Nat.reduceSub, List.replicate]; rfl) ?_; simp only [c22, go_sem, Nat.reduceAdd, Nat.reduceMul, Int.reduceToNat, Nat.reduceLeDiff, Int.reduceLE, Int.reduceLT, ↓reduceIte, Int.reduceBEq, Int.reduceBNe, Int.reduceAdd, Int.reduceSub, Int.reduceMul, qFin_ret, qFin_normal, ints_length]; (try ((refine okTr_and ?_ ?_); (· rfl)))
  by_cases a : 200 < (l.length : Int)
  · have q1 : decide (200 < (l.length : Int)) = true := by simpa using a
    (simp only [go_sem, Nat.reduceAdd, Nat.reduceMul, Int.reduceToNat, Nat.reduceLeDiff, Int.reduceLE, Int.reduceLT, ↓reduceIte, Int.reduceBEq, Int.reduceBNe, Int.reduceAdd, Int.reduceSub, Int.reduceMul, qFin_ret, qFin_normal, q1]; (try ((refine okTr_and ?_ ?_); (· rfl))))
    refine CallK.p (live05) ?_
    (simp only [go_sem, Nat.reduceAdd, Nat.reduceMul, Int.reduceToNat, Nat.reduceLeDiff, Int.reduceLE, Int.reduceLT, ↓reduceIte, Int.reduceBEq, Int.reduceBNe, Int.reduceAdd, Int.reduceSub, Int.reduceMul, qFin_ret, qFin_normal]; (try ((refine okTr_and ?_ ?_); (· rfl))))
    ((refine FinK.fin r22 [] ?_ ?_ ?_ ?_ ?_ ?_); (· decide); (· rfl); (· simp); (· rfl); (· first | with_reducible rfl | (simp [ints_nil, ren_lit, ren_ref, ren_any, ren_agg, ren_tup, ren_sl, ren_fn, tren_none, tren_full, tren_row, oren_cells, oren_row, oren_dead, ixs_z, ixs_1, ixs_2, ixs_3, ren_ints, List.map_cons, List.map_nil]; done) | rfl); (· simp [resAL, resA1, loadA, oneOr, ints_nil, ren_lit, ren_ref, ren_any, ren_agg, ren_tup, ren_sl, ren_fn, tren_none, tren_full, tren_row, oren_cells, oren_row, oren_dead, ixs_z, ixs_1, ixs_2, ixs_3, ren_ints, List.map_cons, List.map_nil]))
  · have q1 : decide (200 < (l.length : Int)) = false := by simpa using a
    (simp only [go_sem, Nat.reduceAdd, Nat.reduceMul, Int.reduceToNat, Nat.reduceLeDiff, Int.reduceLE, Int.reduceLT, ↓reduceIte, Int.reduceBEq, Int.reduceBNe, Int.reduceAdd, Int.reduceSub, Int.reduceMul, qFin_ret, qFin_normal, q1, ints_length]; (try ((refine okTr_and ?_ ?_); (· rfl))))
    refine cdK_split (fun h => ?_) (fun h => ?_)
    · (simp only [go_sem, Nat.reduceAdd, Nat.reduceMul, Int.reduceToNat, Nat.reduceLeDiff, Int.reduceLE, Int.reduceLT, ↓reduceIte, Int.reduceBEq, Int.reduceBNe, Int.reduceAdd, Int.reduceSub, Int.reduceMul, qFin_ret, qFin_normal]; (try ((refine okTr_and ?_ ?_); (· rfl))))
      refine CallK.p (live05) ?_
      (simp only [go_sem, Nat.reduceAdd, Nat.reduceMul, Int.reduceToNat, Nat.reduceLeDiff, Int.reduceLE, Int.reduceLT, ↓reduceIte, Int.reduceBEq, Int.reduceBNe, Int.reduceAdd, Int.reduceSub, Int.reduceMul, qFin_ret, qFin_normal]; (try ((refine okTr_and ?_ ?_); (· rfl))))
      ((refine FinK.fin r22 [] ?_ ?_ ?_ ?_ ?_ ?_); (· decide); (· rfl); (· simp); (· rfl); (· first | with_reducible rfl | (simp [ints_nil, ren_lit, ren_ref, ren_any, ren_agg, ren_tup, ren_sl, ren_fn, tren_none, tren_full, tren_row, oren_cells, oren_row, oren_dead, ixs_z, ixs_1, ixs_2, ixs_3, ren_ints, List.map_cons, List.map_nil]; done) | rfl); (· simp [resAL, resA1, loadA, oneOr, ints_nil, ren_lit, ren_ref, ren_any, ren_agg, ren_tup, ren_sl, ren_fn, tren_none, tren_full, tren_row, oren_cells, oren_row, oren_dead, ixs_z, ixs_1, ixs_2, ixs_3, ren_ints, List.map_cons, List.map_nil]))
    · have hn : m.length ≤ 300 := by simp at h; omega
      have hok : ROk (RS.new m) := ROk.new hm (by omega)
      have hn8 : (RS.new m).l.length * 8 ≤ 140737488355328 := by show m.length * 8 ≤ _; omega
      obtain ⟨r1, r2, r3⟩ := rr_new hok k.toNat
      (simp only [go_sem, Nat.reduceAdd, Nat.reduceMul, Int.reduceToNat, Nat.reduceLeDiff, Int.reduceLE, Int.reduceLT, ↓reduceIte, Int.reduceBEq, Int.reduceBNe, Int.reduceAdd, Int.reduceSub, Int.reduceMul, qFin_ret, qFin_normal]; (try ((refine okTr_and ?_ ?_); (· rfl))))
      refine CallK.p (ref05_Rises l (by omega)) ?_
      (simp only [go_sem, Nat.reduceAdd, Nat.reduceMul, Int.reduceToNat, Nat.reduceLeDiff, Int.reduceLE, Int.reduceLT, ↓reduceIte, Int.reduceBEq, Int.reduceBNe, Int.reduceAdd, Int.reduceSub, Int.reduceMul, qFin_ret, qFin_normal]; (try ((refine okTr_and ?_ ?_); (· rfl))))
      cases hr : rises l
      case' false => (simp only [go_sem, Nat.reduceAdd, Nat.reduceMul, Int.reduceToNat, Nat.reduceLeDiff, Int.reduceLE, Int.reduceLT, ↓reduceIte, Int.reduceBEq, Int.reduceBNe, Int.reduceAdd, Int.reduceSub, Int.reduceMul, qFin_ret, qFin_normal, hr]; (try ((refine okTr_and ?_ ?_); (· rfl))))
      case' true =>
        have hv := vbs_len (stps l l.length)
        rw [stps_len] at hv
        have hvb := vbs_bys (stps_u64 hl hr l.length (Nat.le_refl _))
        have hap : Bys (vbs (stps l l.length) ++ m) := by
          intro y hy
          rcases List.mem_append.1 hy with h | h
          · exact hvb y h
          · exact hm y h
        have hok2 : ROk (RS.new (vbs (stps l l.length) ++ m)) := ROk.new hap (by rw [List.length_append]; omega)
        have hbo := back_own (m := m) hl hr
        have hml : (max (l.length : Int) 0).toNat = l.length := by omega
        (simp only [go_sem, Nat.reduceAdd, Nat.reduceMul, Int.reduceToNat, Nat.reduceLeDiff, Int.reduceLE, Int.reduceLT, ↓reduceIte, Int.reduceBEq, Int.reduceBNe, Int.reduceAdd, Int.reduceSub, Int.reduceMul, qFin_ret, qFin_normal, hr]; (try ((refine okTr_and ?_ ?_); (· rfl))))
        refine CallK.n (ref05_Bytes l hl hr (by omega)) ?_
        (simp only [go_sem, Nat.reduceAdd, Nat.reduceMul, Int.reduceToNat, Nat.reduceLeDiff, Int.reduceLE, Int.reduceLT, ↓reduceIte, Int.reduceBEq, Int.reduceBNe, Int.reduceAdd, Int.reduceSub, Int.reduceMul, qFin_ret, qFin_normal, ints_append, ints_length]; (try ((refine okTr_and ?_ ?_); (· rfl))))
        (repeat ((with_reducible refine And.intro ?_ ?_); (· first | with_reducible assumption | omega | with_reducible rfl | (simp only [List.length_append, List.length_cons, List.length_nil, List.length_singleton]; omega) | (simp [ints_length, okEl_eq, AV.parts]; done) | (simp [ints_length, okEl_eq, AV.parts]; omega) | rfl)))
        refine CallK.n (cursor_New (vbs (stps l l.length) ++ m)) ?_
        (simp only [go_sem, Nat.reduceAdd, Nat.reduceMul, Int.reduceToNat, Nat.reduceLeDiff, Int.reduceLE, Int.reduceLT, ↓reduceIte, Int.reduceBEq, Int.reduceBNe, Int.reduceAdd, Int.reduceSub, Int.reduceMul, qFin_ret, qFin_normal, ints_length]; (try ((refine okTr_and ?_ ?_); (· rfl))))
        refine CallK.u1 (zigzag_ReadRising (RS.new (vbs (stps l l.length) ++ m)) l.length _ hok2 (by show (vbs (stps l l.length) ++ m).length * 8 ≤ _; rw [List.length_append]; omega)) rfl ?_
        (simp only [go_sem, Nat.reduceAdd, Nat.reduceMul, Int.reduceToNat, Nat.reduceLeDiff, Int.reduceLE, Int.reduceLT, ↓reduceIte, Int.reduceBEq, Int.reduceBNe, Int.reduceAdd, Int.reduceSub, Int.reduceMul, qFin_ret, qFin_normal, hml, hbo]; (try ((refine okTr_and ?_ ?_); (· rfl))))
        refine CallK.p (ref05_Same l l (by omega)) ?_
        (simp only [go_sem, Nat.reduceAdd, Nat.reduceMul, Int.reduceToNat, Nat.reduceLeDiff, Int.reduceLE, Int.reduceLT, ↓reduceIte, Int.reduceBEq, Int.reduceBNe, Int.reduceAdd, Int.reduceSub, Int.reduceMul, qFin_ret, qFin_normal, same_self]; (try ((refine okTr_and ?_ ?_); (· rfl))))
        refine CallK.r1 (Reader_Good _ _) rfl ?_
        (simp only [go_sem, Nat.reduceAdd, Nat.reduceMul, Int.reduceToNat, Nat.reduceLeDiff, Int.reduceLE, Int.reduceLT, ↓reduceIte, Int.reduceBEq, Int.reduceBNe, Int.reduceAdd, Int.reduceSub, Int.reduceMul, qFin_ret, qFin_normal, show (RS.mk (vbs (stps l l.length) ++ m) (vbs (stps l l.length)).length 0 0).good = true from rfl]; (try ((refine okTr_and ?_ ?_); (· rfl))))
        refine CallK.r1 (Reader_At _ _) rfl ?_
        (simp only [go_sem, Nat.reduceAdd, Nat.reduceMul, Int.reduceToNat, Nat.reduceLeDiff, Int.reduceLE, Int.reduceLT, ↓reduceIte, Int.reduceBEq, Int.reduceBNe, Int.reduceAdd, Int.reduceSub, Int.reduceMul, qFin_ret, qFin_normal]; (try ((refine okTr_and ?_ ?_); (· rfl))))
        refine CallK.p (zigzag_RisingSize l hl (by omega)) ?_
        (simp only [go_sem, Nat.reduceAdd, Nat.reduceMul, Int.reduceToNat, Nat.reduceLeDiff, Int.reduceLE, Int.reduceLT, ↓reduceIte, Int.reduceBEq, Int.reduceBNe, Int.reduceAdd, Int.reduceSub, Int.reduceMul, qFin_ret, qFin_normal, hr]; (try ((refine okTr_and ?_ ?_); (· rfl))))
      all_goals
        refine CallK.n (cursor_New m) ?_
        (simp only [go_sem, Nat.reduceAdd, Nat.reduceMul, Int.reduceToNat, Nat.reduceLeDiff, Int.reduceLE, Int.reduceLT, ↓reduceIte, Int.reduceBEq, Int.reduceBNe, Int.reduceAdd, Int.reduceSub, Int.reduceMul, qFin_ret, qFin_normal, ek]; (try ((refine okTr_and ?_ ?_); (· rfl))))
        refine CallK.u1 (zigzag_ReadRising (RS.new m) k _ hok hn8) rfl ?_
        (simp only [go_sem, Nat.reduceAdd, Nat.reduceMul, Int.reduceToNat, Nat.reduceLeDiff, Int.reduceLE, Int.reduceLT, ↓reduceIte, Int.reduceBEq, Int.reduceBNe, Int.reduceAdd, Int.reduceSub, Int.reduceMul, qFin_ret, qFin_normal, ekm]; (try ((refine okTr_and ?_ ?_); (· rfl))))
        generalize (RS.new m).rr k.toNat [] = R at *
        refine CallK.r1 (Reader_Good R.1 _) rfl ?_
        by_cases hc : R.1.code = 0
        · obtain ⟨b1, b2, b3, b4, b5, b6⟩ := r2 hc
          have hv2 := vbs_len (stps R.2 R.2.length)
          rw [stps_len] at hv2
          have hv3 : (vbs (stps R.2 R.2.length)).length ≤ 300 := by rw [← b6]; simp; omega
          have hw : (WS.new 300).rising R.2 = ⟨300, vbs (stps R.2 R.2.length), 0⟩ := by
            unfold WS.rising; rw [if_pos b1, puts_fit (by rfl) _ (by simp [WS.new]; omega)]; rfl
          have hb := vbs_bys (stps_u64 b2 b1 R.2.length (Nat.le_refl _))
          have c1 := b4.at0
          have c2 := b4.at1
          rw [b5] at c2
          have e8 : ((R.2.length : Int) == k) = true := by simp; omega
          (simp only [go_sem, Nat.reduceAdd, Nat.reduceMul, Int.reduceToNat, Nat.reduceLeDiff, Int.reduceLE, Int.reduceLT, ↓reduceIte, Int.reduceBEq, Int.reduceBNe, Int.reduceAdd, Int.reduceSub, Int.reduceMul, qFin_ret, qFin_normal, good_true hc]; (try ((refine okTr_and ?_ ?_); (· rfl))))
          refine CallK.n (pen_New 300) ?_
          (simp only [go_sem, Nat.reduceAdd, Nat.reduceMul, Int.reduceToNat, Nat.reduceLeDiff, Int.reduceLE, Int.reduceLT, ↓reduceIte, Int.reduceBEq, Int.reduceBNe, Int.reduceAdd, Int.reduceSub, Int.reduceMul, qFin_ret, qFin_normal]; (try ((refine okTr_and ?_ ?_); (· rfl))))
          refine CallK.u2 (zigzag_PutRising (WS.new 300) R.2 _ _ (by simp) (WS.ok.new (by decide)) b2 (by show 0 + R.2.length * 10 ≤ _; omega)) rfl rfl ?_
          (simp only [go_sem, Nat.reduceAdd, Nat.reduceMul, Int.reduceToNat, Nat.reduceLeDiff, Int.reduceLE, Int.reduceLT, ↓reduceIte, Int.reduceBEq, Int.reduceBNe, Int.reduceAdd, Int.reduceSub, Int.reduceMul, qFin_ret, qFin_normal, hw]; (try ((refine okTr_and ?_ ?_); (· rfl))))
          refine CallK.r2 (Writer_Bytes _ _ _ (by simp) (by simp only; omega)) rfl rfl ?_
          (simp only [go_sem, Nat.reduceAdd, Nat.reduceMul, Int.reduceToNat, Nat.reduceLeDiff, Int.reduceLE, Int.reduceLT, ↓reduceIte, Int.reduceBEq, Int.reduceBNe, Int.reduceAdd, Int.reduceSub, Int.reduceMul, qFin_ret, qFin_normal, WS.bytes, ints_length, ek, e8]; (try ((refine okTr_and ?_ ?_); (· rfl))))
          refine CallK.r1 (Reader_At R.1 _) rfl ?_
          (simp only [go_sem, Nat.reduceAdd, Nat.reduceMul, Int.reduceToNat, Nat.reduceLeDiff, Int.reduceLE, Int.reduceLT, ↓reduceIte, Int.reduceBEq, Int.reduceBNe, Int.reduceAdd, Int.reduceSub, Int.reduceMul, qFin_ret, qFin_normal, ints_length, ints_take, b6]; (try ((refine okTr_and ?_ ?_); (· rfl))))
          (repeat ((with_reducible refine And.intro ?_ ?_); (· first | with_reducible assumption | omega | with_reducible rfl | (simp only [List.length_append, List.length_cons, List.length_nil, List.length_singleton]; omega) | (simp [ints_length, okEl_eq, AV.parts]; done) | (simp [ints_length, okEl_eq, AV.parts]; omega) | rfl)))
          refine CallK.p (ref02_Same (vbs (stps R.2 R.2.length)) (vbs (stps R.2 R.2.length)) hb hb) ?_
          (simp only [go_sem, Nat.reduceAdd, Nat.reduceMul, Int.reduceToNat, Nat.reduceLeDiff, Int.reduceLE, Int.reduceLT, ↓reduceIte, Int.reduceBEq, Int.reduceBNe, Int.reduceAdd, Int.reduceSub, Int.reduceMul, qFin_ret, qFin_normal, same_self]; (try ((refine okTr_and ?_ ?_); (· rfl))))
          refine CallK.p (live05) ?_
          (simp only [go_sem, Nat.reduceAdd, Nat.reduceMul, Int.reduceToNat, Nat.reduceLeDiff, Int.reduceLE, Int.reduceLT, ↓reduceIte, Int.reduceBEq, Int.reduceBNe, Int.reduceAdd, Int.reduceSub, Int.reduceMul, qFin_ret, qFin_normal]; (try ((refine okTr_and ?_ ?_); (· rfl))))
          ((refine FinK.fin r22 [] ?_ ?_ ?_ ?_ ?_ ?_); (· decide); (· rfl); (· simp); (· rfl); (· first | with_reducible rfl | (simp [ints_nil, ren_lit, ren_ref, ren_any, ren_agg, ren_tup, ren_sl, ren_fn, tren_none, tren_full, tren_row, oren_cells, oren_row, oren_dead, ixs_z, ixs_1, ixs_2, ixs_3, ren_ints, List.map_cons, List.map_nil]; done) | rfl); (· simp [resAL, resA1, loadA, oneOr, ints_nil, ren_lit, ren_ref, ren_any, ren_agg, ren_tup, ren_sl, ren_fn, tren_none, tren_full, tren_row, oren_cells, oren_row, oren_dead, ixs_z, ixs_1, ixs_2, ixs_3, ren_ints, List.map_cons, List.map_nil]))
        · have hnil := r3 hc
          (simp only [go_sem, Nat.reduceAdd, Nat.reduceMul, Int.reduceToNat, Nat.reduceLeDiff, Int.reduceLE, Int.reduceLT, ↓reduceIte, Int.reduceBEq, Int.reduceBNe, Int.reduceAdd, Int.reduceSub, Int.reduceMul, qFin_ret, qFin_normal, good_false hc, hnil, ints_nil]; (try ((refine okTr_and ?_ ?_); (· rfl))))
          refine CallK.p (live05) ?_
          (simp only [go_sem, Nat.reduceAdd, Nat.reduceMul, Int.reduceToNat, Nat.reduceLeDiff, Int.reduceLE, Int.reduceLT, ↓reduceIte, Int.reduceBEq, Int.reduceBNe, Int.reduceAdd, Int.reduceSub, Int.reduceMul, qFin_ret, qFin_normal]; (try ((refine okTr_and ?_ ?_); (· rfl))))
          ((refine FinK.fin r22 [] ?_ ?_ ?_ ?_ ?_ ?_); (· decide); (· rfl); (· simp); (· rfl); (· first | with_reducible rfl | (simp [ints_nil, ren_lit, ren_ref, ren_any, ren_agg, ren_tup, ren_sl, ren_fn, tren_none, tren_full, tren_row, oren_cells, oren_row, oren_dead, ixs_z, ixs_1, ixs_2, ixs_3, ren_ints, List.map_cons, List.map_nil]; done) | rfl); (· simp [resAL, resA1, loadA, oneOr, ints_nil, ren_lit, ren_ref, ren_any, ren_agg, ren_tup, ren_sl, ren_fn, tren_none, tren_full, tren_row, oren_cells, oren_row, oren_dead, ixs_z, ixs_1, ixs_2, ixs_3, ren_ints, List.map_cons, List.map_nil]))
end Go.Proofs.Ytgphhganepjaiaa
