/-
  Chapter 17: EpochReads.
-/
import Derived.Test.YtgphhganepjaiaaK6
import Derived.Test.YtgphhganepjaiaaTop
namespace Go.Proofs.Ytgphhganepjaiaa
open Go.RowKit

/-- Of a right epoch at the front the bytes are those that it is written as. -/
theorem epo_new {l : List Int} (hl : Bys l) (_hn : l.length ≤ 140737488355328) (ok : Int → Bool) (hc : ((RS.new l).epo ok).1.code = 0) :
    vb ((RS.new l).epo ok).2 = l.take ((RS.new l).epo ok).1.at_.toNat ∧ 0 ≤ ((RS.new l).epo ok).1.at_ ∧ ((RS.new l).epo ok).1.at_ ≤ l.length ∧ 0 ≤ ((RS.new l).epo ok).2 ∧ ((RS.new l).epo ok).2 < 18446744073709551616 := by
  have h0 : (vgo 0 l).1 = 0 := by
    rcases Decidable.em ((vgo 0 l).1 = 0) with h | h
    · exact h
    · obtain ⟨e1, e2, e3⟩ := vint_new_bad h
      unfold RS.epo at hc
      rw [if_neg (by rw [e1]; exact h)] at hc
      simp only at hc
      rw [e1] at hc; exact absurd hc h
  have hv := vint_new_good h0
  obtain ⟨k1, k2, k3, k4, k5⟩ := vgo_back hl h0
  unfold RS.epo at hc ⊢
  rw [hv] at hc ⊢
  rw [if_pos (show ((RS.new l).adv _).code = 0 from rfl)] at hc ⊢
  split at hc
  · rename_i ho
    rw [if_pos ho]
    simp only [RS.adv, RS.new, Int.zero_add]
    exact ⟨k1, by omega, by omega, k4, k5⟩
  · simp [RS.fail, RS.adv, RS.new, flt] at hc
theorem law_EpochReads (l : List Int) (hl : Bys l) : Does Try.prog 14 [slA .u8 l] [] (bA true) [] := by
  refine Does.run Try.func14 b14 n14 Try.ntmps14 (by simp only [List.cons_append, List.nil_append, List.length_cons, List.length_nil, Nat.zero_add, Nat.reduceSub, List.replicate]; rfl) ?_; simp only [c14, qSeq_normal, aw_reg, aw_seq, aw_cond, aReg_nil, aReg_cons, setD_some, ev_tmp, ev_const, ofC_int, ofC_bool, e_mov, e_bin, e_len, kBin_int, i_gtr, len_sl, okTr_nil, kReg_go, List.getD_cons_zero, List.getD_cons_succ, List.set_cons_zero, List.set_cons_succ, List.map_nil, List.length_nil, List.nil_append, List.cons_append, List.append_nil, updL_nil, newU, true_and, List.append_nil, ints_length]; (try ((refine okTr_and ?_ ?_); (· rfl)))
  refine cdK_split (fun h => ?_) (fun h => ?_)
  · (simp only [aw_reg, aw_seq, aReg_cons, ev_func, e_call, call_fn, List.map_nil, List.append_nil, List.append_nil]; (try ((refine okTr_and ?_ ?_); (· rfl))))
    refine CallK.p (live17) ?_
    (simp only [qSeq_normal, qSeq_ret, aw_ret, aReg_nil, aReg_cons, setD_some, ev_tmp, e_mov, okTr_nil, kReg_go, List.getD_cons_zero, List.getD_cons_succ, List.set_cons_zero, List.set_cons_succ, List.map_nil, List.nil_append, List.cons_append, List.append_nil, updL_nil, newU, true_and, List.append_nil, qFin_ret]; (try ((refine okTr_and ?_ ?_); (· rfl))))
    ((refine FinK.fin r14 [] ?_ ?_ ?_ ?_ ?_ ?_); (· decide); (· rfl); (· simp); (· rfl); (· first | rfl | simp [ints_nil, ren_lit, ren_ref, ren_any, ren_agg, ren_tup, ren_sl, ren_fn, tren_none, tren_full, tren_row, oren_cells, oren_row, oren_dead, ixs_z, ixs_1, ixs_2, ixs_3, ren_ints, List.map_cons, List.map_nil]); (· simp [resAL, resA1, oneOr, ren_lit]))
  · have hn : l.length ≤ 140737488355328 := by simp at h; omega
    have hok : ROk (RS.new l) := ROk.new hl hn
    (simp only [qSeq_normal, aw_skip, aw_reg, aw_seq, aw_block, aReg_nil, aReg_cons, setD_some, ev_const, ofC_int, e_mov, okTr_nil, kReg_go, List.set_cons_zero, List.set_cons_succ, List.map_nil, List.nil_append, List.append_nil, updL_nil, newU, true_and, List.append_nil]; (try ((refine okTr_and ?_ ?_); (· rfl))))
    refine loop_of (α := Nat) (fun k => [slA .u8 l, .any, .any, iA ((k : Int) + 1), .any, .any, .any, .any, .any, .any, .any, .any, .any, .any, .any, .any, .any, .any, .any, .any, .any, .any, .any, .any, .any, .any, .any, .any, .any, .any, .any, .any, .any, .any, .any, .any, .any, .any, .any, .any, .any, .any, .any, .any, .any, .any, .any, .any, .any, .any, .any, .any, .any, .any, .any, .any, .any, .any, .any, .any, .any, .any, .any, .any, .any, .any, .any, .any, .any, .any]) (fun _ => []) (fun k => k ≤ 3) (fun k => 3 - k) 0 (by simp) (Wk.to (by simp) (by simp [leT])) ?_
    rintro k hk
    have hk' : k = 0 ∨ k = 1 ∨ k = 2 ∨ k = 3 := by omega
    have z0 : ((0 : Nat) : Int) = 0 := rfl
    have z1 : ((1 : Nat) : Int) = 1 := rfl
    have z2 : ((2 : Nat) : Int) = 2 := rfl
    have z3 : ((3 : Nat) : Int) = 3 := rfl
    rcases hk' with rfl | rfl | rfl | rfl
    · (simp only [qSeq_normal, cdK_true, aw_skip, aw_reg, aw_seq, aw_cond, aw_block, aReg_nil, aReg_cons, setD_some, ev_tmp, ev_const, ev_func, ofC_int, e_mov, e_bin, e_call, kBin_int, i_lss, call_fn, okTr_nil, kReg_go, List.getD_cons_zero, List.getD_cons_succ, List.set_cons_zero, List.set_cons_succ, List.map_cons, List.map_nil, List.nil_append, List.cons_append, List.append_nil, updL_nil, newU, true_and, Int.reduceLT, List.append_nil, decide_true, Int.reduceAdd, z0]; (try ((refine okTr_and ?_ ?_); (· rfl))))
      refine CallK.n (cursor_New l) ?_
      (simp only [qSeq_normal, cdK_true, aw_reg, aw_seq, aw_cond, aw_block, aReg_nil, aReg_cons, setD_some, ev_tmp, ev_const, ev_func, ofC_int, e_mov, e_bin, e_call, kBin_int, i_eql, call_fn, okTr_nil, kReg_go, List.getD_cons_zero, List.getD_cons_succ, List.set_cons_zero, List.set_cons_succ, List.map_cons, List.map_nil, List.length_nil, List.nil_append, List.cons_append, List.append_nil, updL_nil, newU, true_and, List.append_nil, beq_self_eq_true]; (try ((refine okTr_and ?_ ?_); (· rfl))))
      refine CallK.u1 (epoch_Read (RS.new l) _ hok) rfl ?_
      generalize hR : (RS.new l).epo epRight = R
      have hnew := epo_new hl hn epRight
      rw [hR] at hnew
      (simp only [qSeq_normal, qBlock_normal, aw_reg, aw_seq, aReg_nil, aReg_cons, setD_some, ev_tmp, ev_func, ofC1_int, ofC1_nil, parts_sl, splice_nil, splice_cons, e_mov, e_build, e_call, kBuild_eq, fillA_nil, fillA_cons, call_fn, okTr_nil, kReg_go, List.getD_cons_zero, List.getD_cons_succ, List.set_cons_zero, List.set_cons_succ, List.map_cons, List.map_nil, List.length_cons, List.length_nil, List.nil_append, List.cons_append, List.append_nil, updL_nil, updL_cons, newU, Nat.reduceAdd, Nat.zero_add, and_true, true_and, Nat.reduceLeDiff, List.append_nil, ↓reduceIte]; (try ((refine okTr_and ?_ ?_); (· rfl))))
      refine CallK.p (ref17_Read (RS.new l) _ (by decide) hok) ?_
      (simp only [qSeq_normal, aw_reg, aw_seq, aReg_nil, aReg_cons, aReg_guard, gdF_ff, setD_some, setD_none, ev_tmp, ev_func, ofC1_int, ofC1_nil, parts_agg, splice_nil, splice_cons, e_mov, e_new, e_store, e_bin, e_ext, e_call, kBin_int, i_neq, st_ref, ext_tup, call_fn, okTr_nil, kReg_go, List.getD_cons_zero, List.getD_cons_succ, List.set_cons_zero, List.set_cons_succ, List.getElem?_cons_zero, List.getElem?_cons_succ, List.map_cons, List.map_nil, List.length_cons, List.length_nil, List.nil_append, List.cons_append, List.append_nil, updL_nil, updL_cons, newU, Nat.reduceAdd, Nat.zero_add, true_and, Nat.le_refl, List.append_nil, bne_self_eq_false, show epKind 1 = epRight from rfl, hR]; (try ((refine okTr_and ?_ ?_); (· rfl))))
      refine CallK.r1 (Reader_Fault R.1 _) rfl ?_
      (simp only [aReg_cons, aReg_guard, gdF_ff, setD_some, ev_tmp, ev_const, ofC_int, ofC_bool, e_mov, e_pick, e_load, e_bin, e_eqa, e_fadr, kPick_lit, kBin_int, i_eql, l_ref, eqa_agg, cellsEq_nil, cellsEq_cons, eqOk_nil, eqOk_cons, fadr_ref, kReg_go, List.getD_cons_zero, List.getD_cons_succ, List.set_cons_zero, List.set_cons_succ, List.getElem?_cons_zero, List.getElem?_cons_succ, List.map_nil, List.length_cons, List.length_nil, List.nil_append, List.cons_append, List.append_nil, updL_nil, newU, Nat.reduceAdd, Nat.zero_add, Nat.add_zero, List.drop_zero, List.drop_succ_cons, List.take_succ_cons, List.take_nil, true_and, Nat.le_refl, List.append_nil, ↓reduceIte, Bool.not_true, cond_false, Bool.and_self, beq_self_eq_true]; (try ((refine okTr_and ?_ ?_); (· rfl))))
      by_cases hc : R.1.code = 0
      · obtain ⟨n1, n2, n3, n4, n5⟩ := hnew hc
        have hc1 : (R.1.code == 0) = true := by simpa using hc
        have hvb := vb_by n4 n5
        (simp only [aReg_guard, gdF_tt, setD_some, ev_tmp, ev_func, e_mov, e_call, call_fn, kReg_go, List.getD_cons_zero, List.getD_cons_succ, List.set_cons_zero, List.set_cons_succ, List.map_cons, List.map_nil, List.nil_append, List.cons_append, List.append_nil, updL_nil, newU, List.append_nil, hc1]; (try ((refine okTr_and ?_ ?_); (· rfl))))
        refine CallK.r1 (Reader_At R.1 _) rfl ?_
        (simp only [aReg_guard, gdF_tt, gdF_ff, setD_some, ev_tmp, ev_func, e_mov, e_load, e_bin, e_fadr, e_call, kBin_int, i_neq, l_ref, fadr_ref, call_fn, kReg_go, List.getD_cons_zero, List.getD_cons_succ, List.set_cons_zero, List.set_cons_succ, List.getElem?_cons_zero, List.getElem?_cons_succ, List.map_cons, List.map_nil, List.nil_append, List.cons_append, List.append_nil, updL_nil, newU, Nat.zero_add, List.append_nil, bne_self_eq_false]; (try ((refine okTr_and ?_ ?_); (· rfl))))
        refine CallK.p (ref04_Bytes R.2 n4 n5) ?_
        (simp only [aReg_guard, gdF_ff, setD_some, ev_tmp, ev_func, e_mov, e_call, call_fn, kReg_go, List.getD_cons_zero, List.getD_cons_succ, List.set_cons_zero, List.set_cons_succ, List.map_cons, List.map_nil, List.nil_append, List.cons_append, List.append_nil, updL_nil, newU, List.append_nil]; (try ((refine okTr_and ?_ ?_); (· rfl))))
        refine CallK.r1 (Reader_At R.1 _) rfl ?_
        (simp only [aReg_guard, gdF_ff, setD_some, ev_tmp, ev_func, e_slice, e_call, call_fn, sli_h, kReg_go, List.getD_cons_zero, List.getD_cons_succ, List.set_cons_zero, List.set_cons_succ, List.map_cons, List.map_nil, List.nil_append, List.cons_append, List.append_nil, updL_nil, newU, Option.map_some, Option.map_none, true_and, List.append_nil, true_or, ints_length, ints_take, ← n1]; (try ((refine okTr_and ?_ ?_); (· rfl))))
        (repeat ((with_reducible refine And.intro ?_ ?_); (· first | assumption | rfl | omega | (simp [ints_length, okEl_eq, AV.parts]; done) | (simp [ints_length, okEl_eq, AV.parts]; omega))))
        refine CallK.p (ref02_Same (vb R.2) (vb R.2) hvb hvb) ?_
        (simp only [qLoop_normal, qSeq_normal, qBlock_normal, cdK_false, aw_skip, aw_reg, aw_cond, aReg_nil, aReg_cons, aReg_guard, gdF_tt, gdF_ff, setD_some, ev_tmp, ev_const, ofC_int, ofC_bool, e_mov, e_pick, e_bin, e_un, kPick_lit, kBin_int, i_add, un_not, okTr_nil, kReg_go, List.getD_cons_zero, List.getD_cons_succ, List.set_cons_zero, List.set_cons_succ, List.map_nil, List.nil_append, List.cons_append, List.append_nil, updL_nil, newU, true_and, List.append_nil, Bool.not_true, cond_true, cond_false, Int.reduceAdd, w64_2, same_self (vb R.2)]; (try ((refine okTr_and ?_ ?_); (· rfl))))
        refine ⟨1, by omega, by omega, Wk.sel [] (by simp) rfl (by simp) rfl (by simp) (by simp [selT, ren_lit, ren_any, ren_sl, tren_none, ren_ints])⟩
      · have hc1 : (R.1.code == 0) = false := by simpa using hc
        (simp only [qLoop_normal, qSeq_normal, qBlock_normal, cdK_false, aw_skip, aw_reg, aw_cond, aReg_nil, aReg_cons, aReg_guard, gdF_ff, gdF_ft, gdF_undef, setD_some, ev_tmp, ev_const, ofC_int, ofC_bool, e_mov, e_pick, e_bin, kPick_lit, kBin_int, i_add, okTr_nil, kReg_go, List.getD_cons_zero, List.getD_cons_succ, List.set_cons_zero, List.set_cons_succ, List.map_nil, List.nil_append, List.cons_append, List.append_nil, updL_nil, newU, true_and, List.append_nil, cond_false, Int.reduceAdd, w64_2, hc1]; (try ((refine okTr_and ?_ ?_); (· rfl))))
        refine ⟨1, by omega, by omega, Wk.sel [] (by simp) rfl (by simp) rfl (by simp) (by simp [selT, ren_lit, ren_any, ren_sl, tren_none, ren_ints])⟩
    · (simp only [qSeq_normal, cdK_true, aw_skip, aw_reg, aw_seq, aw_cond, aw_block, aReg_nil, aReg_cons, setD_some, ev_tmp, ev_const, ev_func, ofC_int, e_mov, e_bin, e_call, kBin_int, i_lss, call_fn, okTr_nil, kReg_go, List.getD_cons_zero, List.getD_cons_succ, List.set_cons_zero, List.set_cons_succ, List.map_cons, List.map_nil, List.nil_append, List.cons_append, List.append_nil, updL_nil, newU, true_and, Int.reduceLT, List.append_nil, decide_true, Int.reduceAdd, z1]; (try ((refine okTr_and ?_ ?_); (· rfl))))
      refine CallK.n (cursor_New l) ?_
      (simp only [qSeq_normal, cdK_true, cdK_false, aw_reg, aw_seq, aw_cond, aw_block, aReg_nil, aReg_cons, setD_some, ev_tmp, ev_const, ev_func, ofC_int, e_mov, e_bin, e_call, kBin_int, i_eql, call_fn, okTr_nil, kReg_go, List.getD_cons_zero, List.getD_cons_succ, List.set_cons_zero, List.set_cons_succ, List.map_cons, List.map_nil, List.length_nil, List.nil_append, List.cons_append, List.append_nil, updL_nil, newU, true_and, List.append_nil, Int.reduceBEq, beq_self_eq_true]; (try ((refine okTr_and ?_ ?_); (· rfl))))
      refine CallK.u1 (epoch_ReadPos (RS.new l) _ hok) rfl ?_
      generalize hR : (RS.new l).epo epPos = R
      have hnew := epo_new hl hn epPos
      rw [hR] at hnew
      (simp only [qSeq_normal, qBlock_normal, aw_reg, aw_seq, aReg_nil, aReg_cons, setD_some, ev_tmp, ev_func, ofC1_int, ofC1_nil, parts_sl, splice_nil, splice_cons, e_mov, e_build, e_call, kBuild_eq, fillA_nil, fillA_cons, call_fn, okTr_nil, kReg_go, List.getD_cons_zero, List.getD_cons_succ, List.set_cons_zero, List.set_cons_succ, List.map_cons, List.map_nil, List.length_cons, List.length_nil, List.nil_append, List.cons_append, List.append_nil, updL_nil, updL_cons, newU, Nat.reduceAdd, Nat.zero_add, and_true, true_and, Nat.reduceLeDiff, List.append_nil, ↓reduceIte]; (try ((refine okTr_and ?_ ?_); (· rfl))))
      refine CallK.p (ref17_Read (RS.new l) _ (by decide) hok) ?_
      (simp only [qSeq_normal, aw_reg, aw_seq, aReg_nil, aReg_cons, aReg_guard, gdF_ff, setD_some, setD_none, ev_tmp, ev_func, ofC1_int, ofC1_nil, parts_agg, splice_nil, splice_cons, e_mov, e_new, e_store, e_bin, e_ext, e_call, kBin_int, i_neq, st_ref, ext_tup, call_fn, okTr_nil, kReg_go, List.getD_cons_zero, List.getD_cons_succ, List.set_cons_zero, List.set_cons_succ, List.getElem?_cons_zero, List.getElem?_cons_succ, List.map_cons, List.map_nil, List.length_cons, List.length_nil, List.nil_append, List.cons_append, List.append_nil, updL_nil, updL_cons, newU, Nat.reduceAdd, Nat.zero_add, true_and, Nat.le_refl, List.append_nil, bne_self_eq_false, show epKind 2 = epPos from rfl, hR]; (try ((refine okTr_and ?_ ?_); (· rfl))))
      refine CallK.r1 (Reader_Fault R.1 _) rfl ?_
      (simp only [aReg_cons, aReg_guard, gdF_ff, setD_some, ev_tmp, ev_const, ofC_int, ofC_bool, e_mov, e_pick, e_load, e_bin, e_eqa, e_fadr, kPick_lit, kBin_int, i_eql, l_ref, eqa_agg, cellsEq_nil, cellsEq_cons, eqOk_nil, eqOk_cons, fadr_ref, kReg_go, List.getD_cons_zero, List.getD_cons_succ, List.set_cons_zero, List.set_cons_succ, List.getElem?_cons_zero, List.getElem?_cons_succ, List.map_nil, List.length_cons, List.length_nil, List.nil_append, List.cons_append, List.append_nil, updL_nil, newU, Nat.reduceAdd, Nat.zero_add, Nat.add_zero, List.drop_zero, List.drop_succ_cons, List.take_succ_cons, List.take_nil, true_and, Nat.le_refl, List.append_nil, ↓reduceIte, Bool.not_true, cond_false, Bool.and_self, beq_self_eq_true]; (try ((refine okTr_and ?_ ?_); (· rfl))))
      by_cases hc : R.1.code = 0
      · obtain ⟨n1, n2, n3, n4, n5⟩ := hnew hc
        have hc1 : (R.1.code == 0) = true := by simpa using hc
        have hvb := vb_by n4 n5
        (simp only [aReg_guard, gdF_tt, setD_some, ev_tmp, ev_func, e_mov, e_call, call_fn, kReg_go, List.getD_cons_zero, List.getD_cons_succ, List.set_cons_zero, List.set_cons_succ, List.map_cons, List.map_nil, List.nil_append, List.cons_append, List.append_nil, updL_nil, newU, List.append_nil, hc1]; (try ((refine okTr_and ?_ ?_); (· rfl))))
        refine CallK.r1 (Reader_At R.1 _) rfl ?_
        (simp only [aReg_guard, gdF_tt, gdF_ff, setD_some, ev_tmp, ev_func, e_mov, e_load, e_bin, e_fadr, e_call, kBin_int, i_neq, l_ref, fadr_ref, call_fn, kReg_go, List.getD_cons_zero, List.getD_cons_succ, List.set_cons_zero, List.set_cons_succ, List.getElem?_cons_zero, List.getElem?_cons_succ, List.map_cons, List.map_nil, List.nil_append, List.cons_append, List.append_nil, updL_nil, newU, Nat.zero_add, List.append_nil, bne_self_eq_false]; (try ((refine okTr_and ?_ ?_); (· rfl))))
        refine CallK.p (ref04_Bytes R.2 n4 n5) ?_
        (simp only [aReg_guard, gdF_ff, setD_some, ev_tmp, ev_func, e_mov, e_call, call_fn, kReg_go, List.getD_cons_zero, List.getD_cons_succ, List.set_cons_zero, List.set_cons_succ, List.map_cons, List.map_nil, List.nil_append, List.cons_append, List.append_nil, updL_nil, newU, List.append_nil]; (try ((refine okTr_and ?_ ?_); (· rfl))))
        refine CallK.r1 (Reader_At R.1 _) rfl ?_
        (simp only [aReg_guard, gdF_ff, setD_some, ev_tmp, ev_func, e_slice, e_call, call_fn, sli_h, kReg_go, List.getD_cons_zero, List.getD_cons_succ, List.set_cons_zero, List.set_cons_succ, List.map_cons, List.map_nil, List.nil_append, List.cons_append, List.append_nil, updL_nil, newU, Option.map_some, Option.map_none, true_and, List.append_nil, true_or, ints_length, ints_take, ← n1]; (try ((refine okTr_and ?_ ?_); (· rfl))))
        (repeat ((with_reducible refine And.intro ?_ ?_); (· first | assumption | rfl | omega | (simp [ints_length, okEl_eq, AV.parts]; done) | (simp [ints_length, okEl_eq, AV.parts]; omega))))
        refine CallK.p (ref02_Same (vb R.2) (vb R.2) hvb hvb) ?_
        (simp only [qLoop_normal, qSeq_normal, qBlock_normal, cdK_false, aw_skip, aw_reg, aw_cond, aReg_nil, aReg_cons, aReg_guard, gdF_tt, gdF_ff, setD_some, ev_tmp, ev_const, ofC_int, ofC_bool, e_mov, e_pick, e_bin, e_un, kPick_lit, kBin_int, i_add, un_not, okTr_nil, kReg_go, List.getD_cons_zero, List.getD_cons_succ, List.set_cons_zero, List.set_cons_succ, List.map_nil, List.nil_append, List.cons_append, List.append_nil, updL_nil, newU, true_and, List.append_nil, Bool.not_true, cond_true, cond_false, Int.reduceAdd, w64_3, same_self (vb R.2)]; (try ((refine okTr_and ?_ ?_); (· rfl))))
        refine ⟨2, by omega, by omega, Wk.sel [] (by simp) rfl (by simp) rfl (by simp) (by simp [selT, ren_lit, ren_any, ren_sl, tren_none, ren_ints])⟩
      · have hc1 : (R.1.code == 0) = false := by simpa using hc
        (simp only [qLoop_normal, qSeq_normal, qBlock_normal, cdK_false, aw_skip, aw_reg, aw_cond, aReg_nil, aReg_cons, aReg_guard, gdF_ff, gdF_ft, gdF_undef, setD_some, ev_tmp, ev_const, ofC_int, ofC_bool, e_mov, e_pick, e_bin, kPick_lit, kBin_int, i_add, okTr_nil, kReg_go, List.getD_cons_zero, List.getD_cons_succ, List.set_cons_zero, List.set_cons_succ, List.map_nil, List.nil_append, List.cons_append, List.append_nil, updL_nil, newU, true_and, List.append_nil, cond_false, Int.reduceAdd, w64_3, hc1]; (try ((refine okTr_and ?_ ?_); (· rfl))))
        refine ⟨2, by omega, by omega, Wk.sel [] (by simp) rfl (by simp) rfl (by simp) (by simp [selT, ren_lit, ren_any, ren_sl, tren_none, ren_ints])⟩
    · (simp only [qSeq_normal, cdK_true, aw_skip, aw_reg, aw_seq, aw_cond, aw_block, aReg_nil, aReg_cons, setD_some, ev_tmp, ev_const, ev_func, ofC_int, e_mov, e_bin, e_call, kBin_int, i_lss, call_fn, okTr_nil, kReg_go, List.getD_cons_zero, List.getD_cons_succ, List.set_cons_zero, List.set_cons_succ, List.map_cons, List.map_nil, List.nil_append, List.cons_append, List.append_nil, updL_nil, newU, true_and, Int.reduceLT, List.append_nil, decide_true, Int.reduceAdd, z2]; (try ((refine okTr_and ?_ ?_); (· rfl))))
      refine CallK.n (cursor_New l) ?_
      (simp only [qSeq_normal, cdK_false, aw_reg, aw_seq, aw_cond, aw_block, aReg_nil, aReg_cons, setD_some, ev_tmp, ev_const, ev_func, ofC_int, e_mov, e_bin, e_call, kBin_int, i_eql, call_fn, okTr_nil, kReg_go, List.getD_cons_zero, List.getD_cons_succ, List.set_cons_zero, List.set_cons_succ, List.map_cons, List.map_nil, List.length_nil, List.nil_append, List.cons_append, List.append_nil, updL_nil, newU, true_and, List.append_nil, Int.reduceBEq]; (try ((refine okTr_and ?_ ?_); (· rfl))))
      refine CallK.u1 (epoch_ReadTail (RS.new l) _ hok) rfl ?_
      generalize hR : (RS.new l).epo epTail = R
      have hnew := epo_new hl hn epTail
      rw [hR] at hnew
      (simp only [qSeq_normal, qBlock_normal, aw_reg, aw_seq, aReg_nil, aReg_cons, setD_some, ev_tmp, ev_func, ofC1_int, ofC1_nil, parts_sl, splice_nil, splice_cons, e_mov, e_build, e_call, kBuild_eq, fillA_nil, fillA_cons, call_fn, okTr_nil, kReg_go, List.getD_cons_zero, List.getD_cons_succ, List.set_cons_zero, List.set_cons_succ, List.map_cons, List.map_nil, List.length_cons, List.length_nil, List.nil_append, List.cons_append, List.append_nil, updL_nil, updL_cons, newU, Nat.reduceAdd, Nat.zero_add, and_true, true_and, Nat.reduceLeDiff, List.append_nil, ↓reduceIte]; (try ((refine okTr_and ?_ ?_); (· rfl))))
      refine CallK.p (ref17_Read (RS.new l) _ (by decide) hok) ?_
      (simp only [qSeq_normal, aw_reg, aw_seq, aReg_nil, aReg_cons, aReg_guard, gdF_ff, setD_some, setD_none, ev_tmp, ev_func, ofC1_int, ofC1_nil, parts_agg, splice_nil, splice_cons, e_mov, e_new, e_store, e_bin, e_ext, e_call, kBin_int, i_neq, st_ref, ext_tup, call_fn, okTr_nil, kReg_go, List.getD_cons_zero, List.getD_cons_succ, List.set_cons_zero, List.set_cons_succ, List.getElem?_cons_zero, List.getElem?_cons_succ, List.map_cons, List.map_nil, List.length_cons, List.length_nil, List.nil_append, List.cons_append, List.append_nil, updL_nil, updL_cons, newU, Nat.reduceAdd, Nat.zero_add, true_and, Nat.le_refl, List.append_nil, bne_self_eq_false, show epKind 3 = epTail from rfl, hR]; (try ((refine okTr_and ?_ ?_); (· rfl))))
      refine CallK.r1 (Reader_Fault R.1 _) rfl ?_
      (simp only [aReg_cons, aReg_guard, gdF_ff, setD_some, ev_tmp, ev_const, ofC_int, ofC_bool, e_mov, e_pick, e_load, e_bin, e_eqa, e_fadr, kPick_lit, kBin_int, i_eql, l_ref, eqa_agg, cellsEq_nil, cellsEq_cons, eqOk_nil, eqOk_cons, fadr_ref, kReg_go, List.getD_cons_zero, List.getD_cons_succ, List.set_cons_zero, List.set_cons_succ, List.getElem?_cons_zero, List.getElem?_cons_succ, List.map_nil, List.length_cons, List.length_nil, List.nil_append, List.cons_append, List.append_nil, updL_nil, newU, Nat.reduceAdd, Nat.zero_add, Nat.add_zero, List.drop_zero, List.drop_succ_cons, List.take_succ_cons, List.take_nil, true_and, Nat.le_refl, List.append_nil, ↓reduceIte, Bool.not_true, cond_false, Bool.and_self, beq_self_eq_true]; (try ((refine okTr_and ?_ ?_); (· rfl))))
      by_cases hc : R.1.code = 0
      · obtain ⟨n1, n2, n3, n4, n5⟩ := hnew hc
        have hc1 : (R.1.code == 0) = true := by simpa using hc
        have hvb := vb_by n4 n5
        (simp only [aReg_guard, gdF_tt, setD_some, ev_tmp, ev_func, e_mov, e_call, call_fn, kReg_go, List.getD_cons_zero, List.getD_cons_succ, List.set_cons_zero, List.set_cons_succ, List.map_cons, List.map_nil, List.nil_append, List.cons_append, List.append_nil, updL_nil, newU, List.append_nil, hc1]; (try ((refine okTr_and ?_ ?_); (· rfl))))
        refine CallK.r1 (Reader_At R.1 _) rfl ?_
        (simp only [aReg_guard, gdF_tt, gdF_ff, setD_some, ev_tmp, ev_func, e_mov, e_load, e_bin, e_fadr, e_call, kBin_int, i_neq, l_ref, fadr_ref, call_fn, kReg_go, List.getD_cons_zero, List.getD_cons_succ, List.set_cons_zero, List.set_cons_succ, List.getElem?_cons_zero, List.getElem?_cons_succ, List.map_cons, List.map_nil, List.nil_append, List.cons_append, List.append_nil, updL_nil, newU, Nat.zero_add, List.append_nil, bne_self_eq_false]; (try ((refine okTr_and ?_ ?_); (· rfl))))
        refine CallK.p (ref04_Bytes R.2 n4 n5) ?_
        (simp only [aReg_guard, gdF_ff, setD_some, ev_tmp, ev_func, e_mov, e_call, call_fn, kReg_go, List.getD_cons_zero, List.getD_cons_succ, List.set_cons_zero, List.set_cons_succ, List.map_cons, List.map_nil, List.nil_append, List.cons_append, List.append_nil, updL_nil, newU, List.append_nil]; (try ((refine okTr_and ?_ ?_); (· rfl))))
        refine CallK.r1 (Reader_At R.1 _) rfl ?_
        (simp only [aReg_guard, gdF_ff, setD_some, ev_tmp, ev_func, e_slice, e_call, call_fn, sli_h, kReg_go, List.getD_cons_zero, List.getD_cons_succ, List.set_cons_zero, List.set_cons_succ, List.map_cons, List.map_nil, List.nil_append, List.cons_append, List.append_nil, updL_nil, newU, Option.map_some, Option.map_none, true_and, List.append_nil, true_or, ints_length, ints_take, ← n1]; (try ((refine okTr_and ?_ ?_); (· rfl))))
        (repeat ((with_reducible refine And.intro ?_ ?_); (· first | assumption | rfl | omega | (simp [ints_length, okEl_eq, AV.parts]; done) | (simp [ints_length, okEl_eq, AV.parts]; omega))))
        refine CallK.p (ref02_Same (vb R.2) (vb R.2) hvb hvb) ?_
        (simp only [qLoop_normal, qSeq_normal, qBlock_normal, cdK_false, aw_skip, aw_reg, aw_cond, aReg_nil, aReg_cons, aReg_guard, gdF_tt, gdF_ff, setD_some, ev_tmp, ev_const, ofC_int, ofC_bool, e_mov, e_pick, e_bin, e_un, kPick_lit, kBin_int, i_add, un_not, okTr_nil, kReg_go, List.getD_cons_zero, List.getD_cons_succ, List.set_cons_zero, List.set_cons_succ, List.map_nil, List.nil_append, List.cons_append, List.append_nil, updL_nil, newU, true_and, List.append_nil, Bool.not_true, cond_true, cond_false, Int.reduceAdd, w64_4, same_self (vb R.2)]; (try ((refine okTr_and ?_ ?_); (· rfl))))
        refine ⟨3, by omega, by omega, Wk.sel [] (by simp) rfl (by simp) rfl (by simp) (by simp [selT, ren_lit, ren_any, ren_sl, tren_none, ren_ints])⟩
      · have hc1 : (R.1.code == 0) = false := by simpa using hc
        (simp only [qLoop_normal, qSeq_normal, qBlock_normal, cdK_false, aw_skip, aw_reg, aw_cond, aReg_nil, aReg_cons, aReg_guard, gdF_ff, gdF_ft, gdF_undef, setD_some, ev_tmp, ev_const, ofC_int, ofC_bool, e_mov, e_pick, e_bin, kPick_lit, kBin_int, i_add, okTr_nil, kReg_go, List.getD_cons_zero, List.getD_cons_succ, List.set_cons_zero, List.set_cons_succ, List.map_nil, List.nil_append, List.cons_append, List.append_nil, updL_nil, newU, true_and, List.append_nil, cond_false, Int.reduceAdd, w64_4, hc1]; (try ((refine okTr_and ?_ ?_); (· rfl))))
        refine ⟨3, by omega, by omega, Wk.sel [] (by simp) rfl (by simp) rfl (by simp) (by simp [selT, ren_lit, ren_any, ren_sl, tren_none, ren_ints])⟩
    · (simp only [qLoop_exit, qSeq_normal, qSeq_exit, qBlock_exit, cdK_false, aw_reg, aw_seq, aw_cond, aw_exit, aReg_nil, aReg_cons, setD_some, ev_tmp, ev_const, ev_func, ofC_int, e_mov, e_bin, e_call, kBin_int, i_lss, call_fn, okTr_nil, kReg_go, List.getD_cons_zero, List.getD_cons_succ, List.set_cons_zero, List.set_cons_succ, List.map_nil, List.nil_append, List.cons_append, List.append_nil, updL_nil, newU, true_and, Int.reduceLT, List.append_nil, ↓reduceIte, decide_false, Int.reduceAdd, z3]; (try ((refine okTr_and ?_ ?_); (· rfl))))
      refine CallK.p (live17) ?_
      (simp only [qSeq_normal, aw_ret, aReg_nil, aReg_cons, setD_some, ev_tmp, e_mov, okTr_nil, kReg_go, List.getD_cons_zero, List.getD_cons_succ, List.set_cons_zero, List.set_cons_succ, List.map_nil, List.nil_append, List.cons_append, List.append_nil, updL_nil, newU, true_and, List.append_nil, qFin_ret]; (try ((refine okTr_and ?_ ?_); (· rfl))))
      ((refine FinK.fin r14 [] ?_ ?_ ?_ ?_ ?_ ?_); (· decide); (· rfl); (· simp); (· rfl); (· first | rfl | simp [ints_nil, ren_lit, ren_ref, ren_any, ren_agg, ren_tup, ren_sl, ren_fn, tren_none, tren_full, tren_row, oren_cells, oren_row, oren_dead, ixs_z, ixs_1, ixs_2, ixs_3, ren_ints, List.map_cons, List.map_nil]); (· simp [resAL, resA1, oneOr, ren_lit]))
end Go.Proofs.Ytgphhganepjaiaa
