/-
  Contracts of the reference's reader (a value), and of its numbers.
-/
import Derived.Test.YtgphhganepjaiaaK3
import Derived.Test.YtgphhganepjaiaaPl3
namespace Go.Proofs.Ytgphhganepjaiaa
open Go.RowKit

/-- A reader as a value. -/
abbrev cv (s : RS) : AV := .agg [slA .u8 s.l, iA s.at_, iA s.code, iA s.fat]

theorem ref01_At0 (c a : Int) : Does Try.prog 131 [iA c, iA a] [] (fltA (flt c a)) [] := by
  refine Does.run Try.func131 b131 n131 Try.ntmps131 (by simp only [List.cons_append, List.nil_append, List.length_cons, List.length_nil, Nat.zero_add, Nat.reduceAdd, Nat.reduceSub, List.replicate]; rfl) ?_; simp only [c131, qSeq_normal, aw_reg, aw_seq, aw_cond, aReg_nil, aReg_cons, setD_some, setD_none, ev_tmp, ev_const, ofC_int, ofC1_int, parts_agg, splice_nil, splice_cons, e_mov, e_new, e_build, e_store, e_bin, kBin_int, i_neq, kBuild_eq, fillA_nil, st_ref, okTr_nil, kReg_go, List.getD_cons_zero, List.getD_cons_succ, List.set_cons_zero, List.set_cons_succ, List.getElem?_cons_zero, List.getElem?_cons_succ, List.map_cons, List.map_nil, List.length_cons, List.length_nil, List.nil_append, List.cons_append, List.append_nil, updL_nil, updL_cons, newU, Nat.reduceAdd, Nat.zero_add, true_and, Nat.le_refl, List.append_nil]; (try ((refine okTr_and ?_ ?_); (· rfl)))
  refine cdK_split (fun h => ?_) (fun h => ?_)
  · have h' : ¬ c = 0 := by simpa using h
    (simp only [qSeq_normal, aw_reg, aw_seq, aw_ret, aReg_nil, aReg_cons, setD_some, setD_none, ev_tmp, parts_lit_int, parts_agg, splice_nil, splice_cons, e_mov, e_load, e_store, e_fadr, l_ref, st_ref, fadr_ref, okTr_nil, kReg_go, List.getD_cons_zero, List.getD_cons_succ, List.set_cons_zero, List.set_cons_succ, List.getElem?_cons_zero, List.getElem?_cons_succ, List.map_cons, List.map_nil, List.length_cons, List.length_nil, List.nil_append, List.cons_append, List.append_nil, updL_nil, updL_cons, newU, Nat.reduceAdd, Nat.zero_add, Nat.add_zero, List.drop_zero, List.take_succ_cons, List.take_nil, true_and, Nat.le_refl, Nat.reduceLeDiff, List.append_nil, qFin_ret]; (try ((refine okTr_and ?_ ?_); (· rfl))))
    ((refine FinK.fin r131 [] ?_ ?_ ?_ ?_ ?_ ?_); (· decide); (· rfl); (· simp); (· rfl); (· first | rfl | simp [ints_nil, ren_lit, ren_ref, ren_any, ren_agg, ren_tup, ren_sl, ren_fn, tren_none, tren_full, tren_row, oren_cells, oren_row, oren_dead, ixs_z, ixs_1, ixs_2, ixs_3, ren_ints, List.map_cons, List.map_nil, flt, h']); (· simp [resAL, resA1, loadA, oneOr, ren_lit, ren_agg, List.map_cons, List.map_nil, flt, h']))
  · have h' : c = 0 := by simpa using h
    (simp only [qSeq_normal, aw_skip, aw_reg, aw_seq, aw_ret, aReg_nil, aReg_cons, setD_some, setD_none, ev_tmp, parts_agg, splice_nil, splice_cons, e_load, e_store, l_ref, st_ref, okTr_nil, kReg_go, List.getD_cons_zero, List.getD_cons_succ, List.set_cons_zero, List.set_cons_succ, List.getElem?_cons_zero, List.getElem?_cons_succ, List.map_cons, List.map_nil, List.length_cons, List.length_nil, List.nil_append, List.cons_append, List.append_nil, updL_nil, updL_cons, newU, Nat.reduceAdd, Nat.zero_add, List.drop_zero, List.take_succ_cons, List.take_nil, true_and, Nat.le_refl, List.append_nil, qFin_ret]; (try ((refine okTr_and ?_ ?_); (· rfl))))
    ((refine FinK.fin r131 [] ?_ ?_ ?_ ?_ ?_ ?_); (· decide); (· rfl); (· simp); (· rfl); (· first | rfl | simp [ints_nil, ren_lit, ren_ref, ren_any, ren_agg, ren_tup, ren_sl, ren_fn, tren_none, tren_full, tren_row, oren_cells, oren_row, oren_dead, ixs_z, ixs_1, ixs_2, ixs_3, ren_ints, List.map_cons, List.map_nil, flt, h']); (· simp [resAL, resA1, loadA, oneOr, ren_lit, ren_agg, List.map_cons, List.map_nil, flt, h']))
theorem ref01_At (c a : Int) : Ct Try.prog 131 [iA c, iA a] [] (fun _ => fltA (flt c a)) [] (fun _ => []) := (ref01_At0 c a).toCt (by intros; simp [ren_lit, List.map_cons, List.map_nil]) (by intros; simp [ren_lit, ren_agg, List.map_cons, List.map_nil, flt])

theorem ref02_Fail0 (s : RS) (c a : Int) : Does Try.prog 129 [cv s, iA c, iA a] [] (cv (s.fail c a)) [] := by
  refine Does.run Try.func129 b129 n129 Try.ntmps129 (by simp only [List.cons_append, List.nil_append, List.length_cons, List.length_nil, Nat.zero_add, Nat.reduceAdd, Nat.reduceSub, List.replicate]; rfl) ?_; simp only [c129, qSeq_normal, aw_reg, aw_seq, aw_cond, aReg_nil, aReg_cons, setD_some, ev_tmp, ev_const, ofC_int, ofC1_int, ofC1_nil, e_new, e_box, e_load, e_bin, e_fadr, kBin_int, i_eql, kBox_agg, l_ref, fadr_ref, okTr_nil, kReg_go, List.getD_cons_zero, List.getD_cons_succ, List.set_cons_zero, List.set_cons_succ, List.getElem?_cons_zero, List.getElem?_cons_succ, List.map_cons, List.map_nil, List.length_cons, List.length_nil, List.nil_append, List.cons_append, List.append_nil, updL_nil, newU, Nat.zero_add, Nat.add_zero, true_and, List.append_nil]; (try ((refine okTr_and ?_ ?_); (· rfl)))
  refine cdK_split (fun h => ?_) (fun h => ?_)
  · have h' : s.code = 0 := by simpa using h
    (simp only [aw_reg, aReg_cons, setD_some, ev_tmp, ev_func, e_mov, e_call, call_fn, kReg_go, List.getD_cons_zero, List.getD_cons_succ, List.set_cons_zero, List.set_cons_succ, List.map_cons, List.map_nil, List.nil_append, List.cons_append, List.append_nil, updL_nil, newU, List.append_nil]; (try ((refine okTr_and ?_ ?_); (· rfl))))
    refine CallK.p (ref01_At c a) ?_
    (simp only [qSeq_normal, aw_reg, aw_seq, aw_ret, aReg_nil, aReg_cons, setD_some, setD_none, ev_tmp, parts_agg, splice_nil, splice_cons, e_load, e_store, e_fadr, l_ref, st_ref, fadr_ref, okTr_nil, kReg_go, List.getD_cons_zero, List.getD_cons_succ, List.set_cons_zero, List.set_cons_succ, List.getElem?_cons_zero, List.getElem?_cons_succ, List.map_cons, List.map_nil, List.length_cons, List.length_nil, List.nil_append, List.cons_append, List.append_nil, updL_nil, updL_cons, newU, Nat.reduceAdd, Nat.zero_add, List.drop_zero, List.take_succ_cons, List.take_nil, true_and, Nat.le_refl, List.append_nil, qFin_ret]; (try ((refine okTr_and ?_ ?_); (· rfl))))
    ((refine FinK.fin r129 [] ?_ ?_ ?_ ?_ ?_ ?_); (· decide); (· rfl); (· simp); (· rfl); (· first | rfl | simp [ints_nil, ren_lit, ren_ref, ren_any, ren_agg, ren_tup, ren_sl, ren_fn, tren_none, tren_full, tren_row, oren_cells, oren_row, oren_dead, ixs_z, ixs_1, ixs_2, ixs_3, ren_ints, List.map_cons, List.map_nil, RS.fail, h']); (· simp [resAL, resA1, loadA, oneOr, ren_lit, ren_agg, ren_sl, tren_none, ren_ints, List.map_cons, List.map_nil, RS.fail, h']))
  · have h' : ¬ s.code = 0 := by simpa using h
    (simp only [qSeq_normal, aw_skip, aw_reg, aw_seq, aw_ret, aReg_nil, aReg_cons, setD_some, setD_none, ev_tmp, parts_agg, splice_nil, splice_cons, e_load, e_store, l_ref, st_ref, okTr_nil, kReg_go, List.getD_cons_zero, List.getD_cons_succ, List.set_cons_zero, List.set_cons_succ, List.getElem?_cons_zero, List.getElem?_cons_succ, List.map_cons, List.map_nil, List.length_cons, List.length_nil, List.nil_append, List.cons_append, List.append_nil, updL_nil, updL_cons, newU, Nat.reduceAdd, Nat.zero_add, List.drop_zero, List.take_succ_cons, List.take_nil, true_and, Nat.le_refl, List.append_nil, qFin_ret]; (try ((refine okTr_and ?_ ?_); (· rfl))))
    ((refine FinK.fin r129 [] ?_ ?_ ?_ ?_ ?_ ?_); (· decide); (· rfl); (· simp); (· rfl); (· first | rfl | simp [ints_nil, ren_lit, ren_ref, ren_any, ren_agg, ren_tup, ren_sl, ren_fn, tren_none, tren_full, tren_row, oren_cells, oren_row, oren_dead, ixs_z, ixs_1, ixs_2, ixs_3, ren_ints, List.map_cons, List.map_nil, RS.fail, h']); (· simp [resAL, resA1, loadA, oneOr, ren_lit, ren_agg, ren_sl, tren_none, ren_ints, List.map_cons, List.map_nil, RS.fail, h']))
theorem ref02_Fail (s : RS) (c a : Int) : Ct Try.prog 129 [cv s, iA c, iA a] [] (fun _ => cv (s.fail c a)) [] (fun _ => []) := (ref02_Fail0 s c a).toCt (by intros; simp [ren_lit, ren_agg, ren_sl, tren_none, ren_ints, List.map_cons, List.map_nil]) (by intros; simp [ren_lit, ren_agg, ren_sl, tren_none, ren_ints, List.map_cons, List.map_nil])

theorem bytes_same {l m : List Int} (hl : Bys l) (hm : Bys m) : ((bytesOf (ints .u8 l)).toList == (bytesOf (ints .u8 m)).toList) = sameB l m := by
  rw [ByteArray.toList_eq, ByteArray.toList_eq]
  unfold sameB
  rw [Bool.eq_iff_iff]
  simp only [beq_iff_eq, decide_eq_true_eq]
  constructor
  · intro h
    refine bys_inj l m hl hm ?_
    have h' : (ints .u8 l).map AV.byte = (ints .u8 m).map AV.byte := by simpa [bytesOf] using h
    unfold ints at h'
    rw [List.map_map, List.map_map] at h'
    exact h'
  · rintro rfl; rfl
theorem ref02_Same0 (l m : List Int) (hl : Bys l) (hm : Bys m) : Does Try.prog 41 [slA .u8 l, slA .u8 m] [] (bA (sameB l m)) [] := by
  refine Does.run Try.func41 b41 n41 Try.ntmps41 (by simp only [List.cons_append, List.nil_append, List.length_cons, List.length_nil, Nat.zero_add, Nat.reduceAdd, Nat.reduceSub, List.replicate]; rfl) ?_; simp only [c41, qSeq_normal, aw_reg, aw_seq, aw_ret, aReg_nil, aReg_cons, setD_some, ev_tmp, ev_const, ofC_bool, e_mov, e_bin, e_b2s, kBin_str, s_eql, b2s_sl, okTr_nil, kReg_go, List.getD_cons_zero, List.getD_cons_succ, List.set_cons_zero, List.set_cons_succ, List.map_nil, List.length_nil, List.nil_append, List.cons_append, List.append_nil, updL_nil, newU, true_and, List.append_nil, true_or, qFin_ret, ints_u8, bytes_same hl hm]; (try ((refine okTr_and ?_ ?_); (· rfl)))
  ((refine FinK.fin r41 [] ?_ ?_ ?_ ?_ ?_ ?_); (· decide); (· rfl); (· simp); (· rfl); (· first | rfl | simp [ints_nil, ren_lit, ren_ref, ren_any, ren_agg, ren_tup, ren_sl, ren_fn, tren_none, tren_full, tren_row, oren_cells, oren_row, oren_dead, ixs_z, ixs_1, ixs_2, ixs_3, ren_ints, List.map_cons, List.map_nil]); (· simp [resAL, resA1, oneOr, ren_lit]))
theorem ref02_Same (l m : List Int) (hl : Bys l) (hm : Bys m) : Ct Try.prog 41 [slA .u8 l, slA .u8 m] [] (fun _ => bA (sameB l m)) [] (fun _ => []) := (ref02_Same0 l m hl hm).toCt (by intros; simp [ren_sl, tren_none, ren_ints, List.map_cons, List.map_nil]) (by intros; simp [ren_lit])

theorem ref02_Take0 (s : RS) (n : Int) (hs : s.ok) : Does Try.prog 139 [cv s, iA n] [] (.tup [cv (s.take n).1, slA .u8 (s.take n).2]) [] := by
  obtain ⟨a, b, c⟩ := hs
  refine Does.run Try.func139 b139 n139 Try.ntmps139 (by simp only [List.cons_append, List.nil_append, List.length_cons, List.length_nil, Nat.zero_add, Nat.reduceAdd, Nat.reduceSub, List.replicate]; rfl) ?_; simp only [c139, qSeq_normal, aw_reg, aw_seq, aw_cond, aReg_nil, aReg_cons, setD_some, ev_tmp, ev_const, ofC_int, ofC_nil, ofC1_int, ofC1_nil, e_mov, e_new, e_box, e_load, e_bin, e_fadr, kBin_int, i_neq, kBox_agg, l_ref, fadr_ref, okTr_nil, kReg_go, List.getD_cons_zero, List.getD_cons_succ, List.set_cons_zero, List.set_cons_succ, List.getElem?_cons_zero, List.getElem?_cons_succ, List.map_cons, List.map_nil, List.length_cons, List.length_nil, List.nil_append, List.cons_append, List.append_nil, updL_nil, newU, Nat.zero_add, Nat.add_zero, true_and, List.append_nil]; (try ((refine okTr_and ?_ ?_); (· rfl)))
  refine cdK_split (fun h => ?_) (fun h => ?_)
  · have h' : ¬ s.code = 0 := by simpa using h
    (simp only [qSeq_normal, qSeq_ret, aw_reg, aw_seq, aw_ret, aReg_nil, aReg_cons, setD_some, setD_none, ev_tmp, ev_const, ofC_nil, parts_agg, splice_nil, splice_cons, e_mov, e_load, e_store, l_ref, st_ref, okTr_nil, kReg_go, List.getD_cons_zero, List.getD_cons_succ, List.set_cons_zero, List.set_cons_succ, List.getElem?_cons_zero, List.getElem?_cons_succ, List.map_cons, List.map_nil, List.length_cons, List.length_nil, List.nil_append, List.cons_append, List.append_nil, updL_nil, updL_cons, newU, Nat.reduceAdd, Nat.zero_add, List.drop_zero, List.take_succ_cons, List.take_nil, true_and, Nat.le_refl, List.append_nil, qFin_ret]; (try ((refine okTr_and ?_ ?_); (· rfl))))
    (refine FinK.untag 5 rfl ?_; simp only [untag1_sl, List.set_cons_zero, List.set_cons_succ])
    ((refine FinK.fin r139 [] ?_ ?_ ?_ ?_ ?_ ?_); (· decide); (· rfl); (· simp); (· rfl); (· first | rfl | simp [ints_nil, ren_lit, ren_ref, ren_any, ren_agg, ren_tup, ren_sl, ren_fn, tren_none, tren_full, tren_row, oren_cells, oren_row, oren_dead, ixs_z, ixs_1, ixs_2, ixs_3, ren_ints, List.map_cons, List.map_nil, RS.take, RS.skip, h']); (· simp [resAL, resA1, loadA, oneOr, ints_nil, ren_lit, ren_agg, ren_tup, ren_sl, tren_none, ren_ints, List.map_cons, List.map_nil, RS.take, RS.skip, h']))
  · have h' : s.code = 0 := by simpa using h
    (simp only [qSeq_normal, aw_skip, aw_reg, aw_seq, aw_cond, aReg_nil, aReg_cons, setD_some, ev_tmp, ev_const, ofC_int, e_mov, e_bin, kBin_int, i_lss, okTr_nil, kReg_go, List.getD_cons_zero, List.getD_cons_succ, List.set_cons_zero, List.set_cons_succ, List.map_nil, List.nil_append, List.cons_append, List.append_nil, updL_nil, newU, true_and, List.append_nil]; (try ((refine okTr_and ?_ ?_); (· rfl))))
    refine cdK_split (fun h => ?_) (fun h => ?_)
    · have h2 : n < 0 := by simpa using h
      (simp only [aw_reg, aw_seq, aReg_cons, setD_some, ev_tmp, ev_const, ev_func, ofC_int, e_load, e_fadr, e_call, l_ref, fadr_ref, call_fn, kReg_go, List.getD_cons_zero, List.getD_cons_succ, List.set_cons_zero, List.set_cons_succ, List.getElem?_cons_zero, List.getElem?_cons_succ, List.map_cons, List.map_nil, List.length_cons, List.length_nil, List.nil_append, List.cons_append, List.append_nil, updL_nil, newU, Nat.reduceAdd, Nat.zero_add, List.drop_zero, List.take_succ_cons, List.take_nil, true_and, Nat.le_refl, List.append_nil]; (try ((refine okTr_and ?_ ?_); (· rfl))))
      refine CallK.p (ref02_Fail s _ _) ?_
      (simp only [qSeq_normal, qSeq_ret, aw_ret, aReg_nil, aReg_cons, setD_some, setD_none, ev_tmp, ev_const, ofC_nil, parts_agg, splice_nil, splice_cons, e_mov, e_store, st_ref, okTr_nil, kReg_go, List.getD_cons_zero, List.getD_cons_succ, List.set_cons_zero, List.set_cons_succ, List.getElem?_cons_zero, List.getElem?_cons_succ, List.map_cons, List.map_nil, List.length_cons, List.length_nil, List.nil_append, List.cons_append, List.append_nil, updL_nil, updL_cons, newU, Nat.reduceAdd, Nat.zero_add, true_and, Nat.le_refl, List.append_nil, qFin_ret]; (try ((refine okTr_and ?_ ?_); (· rfl))))
      (refine FinK.untag 5 rfl ?_; simp only [untag1_sl, List.set_cons_zero, List.set_cons_succ])
      ((refine FinK.fin r139 [] ?_ ?_ ?_ ?_ ?_ ?_); (· decide); (· rfl); (· simp); (· rfl); (· first | rfl | simp [ints_nil, ren_lit, ren_ref, ren_any, ren_agg, ren_tup, ren_sl, ren_fn, tren_none, tren_full, tren_row, oren_cells, oren_row, oren_dead, ixs_z, ixs_1, ixs_2, ixs_3, ren_ints, List.map_cons, List.map_nil, RS.take, RS.skip, h', h2]); (· simp [resAL, resA1, loadA, oneOr, ints_nil, ren_lit, ren_agg, ren_tup, ren_sl, tren_none, ren_ints, List.map_cons, List.map_nil, RS.take, RS.skip, h', h2]))
    · have h2 : ¬ n < 0 := by simpa using h
      have e : IntKind.i64.wrap ((s.l.length : Int) - s.at_) = s.left := by rw [IntWalk.i64_in _ (by omega)]; rfl
      (simp only [qSeq_normal, aw_skip, aw_reg, aw_seq, aw_cond, aReg_nil, aReg_cons, setD_some, ev_tmp, e_mov, e_load, e_bin, e_fadr, e_len, kBin_int, i_sub, i_gtr, l_ref, fadr_ref, len_sl, okTr_nil, kReg_go, List.getD_cons_zero, List.getD_cons_succ, List.set_cons_zero, List.set_cons_succ, List.getElem?_cons_zero, List.getElem?_cons_succ, List.map_nil, List.nil_append, List.cons_append, List.append_nil, updL_nil, newU, Nat.zero_add, Nat.add_zero, true_and, List.append_nil, ints_length, e]; (try ((refine okTr_and ?_ ?_); (· rfl))))
      refine cdK_split (fun h => ?_) (fun h => ?_)
      · have h3 : s.left < n := by simpa using h
        (simp only [aw_reg, aw_seq, aReg_cons, setD_some, ev_tmp, ev_const, ev_func, ofC_int, e_load, e_fadr, e_call, e_len, l_ref, fadr_ref, call_fn, len_sl, kReg_go, List.getD_cons_zero, List.getD_cons_succ, List.set_cons_zero, List.set_cons_succ, List.getElem?_cons_zero, List.map_cons, List.map_nil, List.length_cons, List.length_nil, List.nil_append, List.cons_append, List.append_nil, updL_nil, newU, Nat.reduceAdd, Nat.zero_add, Nat.add_zero, List.drop_zero, List.take_succ_cons, List.take_nil, true_and, Nat.le_refl, List.append_nil, ints_length]; (try ((refine okTr_and ?_ ?_); (· rfl))))
        refine CallK.p (ref02_Fail s _ _) ?_
        (simp only [qSeq_normal, qSeq_ret, aw_ret, aReg_nil, aReg_cons, setD_some, setD_none, ev_tmp, ev_const, ofC_nil, parts_agg, splice_nil, splice_cons, e_mov, e_store, st_ref, okTr_nil, kReg_go, List.getD_cons_zero, List.getD_cons_succ, List.set_cons_zero, List.set_cons_succ, List.getElem?_cons_zero, List.getElem?_cons_succ, List.map_cons, List.map_nil, List.length_cons, List.length_nil, List.nil_append, List.cons_append, List.append_nil, updL_nil, updL_cons, newU, Nat.reduceAdd, Nat.zero_add, true_and, Nat.le_refl, List.append_nil, qFin_ret]; (try ((refine okTr_and ?_ ?_); (· rfl))))
        (refine FinK.untag 5 rfl ?_; simp only [untag1_sl, List.set_cons_zero, List.set_cons_succ])
        ((refine FinK.fin r139 [] ?_ ?_ ?_ ?_ ?_ ?_); (· decide); (· rfl); (· simp); (· rfl); (· first | rfl | simp [ints_nil, ren_lit, ren_ref, ren_any, ren_agg, ren_tup, ren_sl, ren_fn, tren_none, tren_full, tren_row, oren_cells, oren_row, oren_dead, ixs_z, ixs_1, ixs_2, ixs_3, ren_ints, List.map_cons, List.map_nil, RS.take, RS.skip, h', h2, h3]); (· simp [resAL, resA1, loadA, oneOr, ints_nil, ren_lit, ren_agg, ren_tup, ren_sl, tren_none, ren_ints, List.map_cons, List.map_nil, RS.take, RS.skip, h', h2, h3]))
      · have h3 : ¬ s.left < n := by simpa using h
        have h3' := h3
        unfold RS.left at h3'
        have e2 : IntKind.i64.wrap (s.at_ + n) = s.at_ + n := IntWalk.i64_in _ (by omega)
        have e3 : (s.at_ + n - s.at_).toNat = n.toNat := by congr 1; omega
        (simp only [qSeq_normal, aw_skip, aw_reg, aw_seq, aw_ret, aReg_nil, aReg_cons, setD_some, setD_none, ev_tmp, ev_const, ofC_nil, parts_lit_int, parts_agg, splice_nil, splice_cons, e_mov, e_load, e_store, e_bin, e_slice, e_fadr, e_app, kBin_int, i_add, l_ref, st_ref, fadr_ref, app_full, okTr_nil, sli_lh, kReg_go, List.getD_cons_zero, List.getD_cons_succ, List.set_cons_zero, List.set_cons_succ, List.getElem?_cons_zero, List.getElem?_cons_succ, List.map_cons, List.map_nil, List.length_cons, List.length_nil, List.nil_append, List.cons_append, List.append_nil, updL_nil, updL_cons, newU, Nat.reduceAdd, Nat.zero_add, Nat.add_zero, Option.map_some, Option.map_none, List.drop_zero, List.take_succ_cons, List.take_nil, true_and, Nat.le_refl, Nat.reduceLeDiff, List.append_nil, or_true, true_or, qFin_ret, e2, e3, ints_length, ints_take, ints_drop]; (try ((refine okTr_and ?_ ?_); (· rfl))))
        (repeat ((with_reducible refine And.intro ?_ ?_); (· first | assumption | rfl | omega | (simp; done) | (simp; omega))))
        (refine FinK.untag 5 rfl ?_; simp only [untag1_sl, List.set_cons_zero, List.set_cons_succ])
        ((refine FinK.fin r139 [] ?_ ?_ ?_ ?_ ?_ ?_); (· decide); (· rfl); (· simp); (· rfl); (· first | rfl | simp [ints_nil, ren_lit, ren_ref, ren_any, ren_agg, ren_tup, ren_sl, ren_fn, tren_none, tren_full, tren_row, oren_cells, oren_row, oren_dead, ixs_z, ixs_1, ixs_2, ixs_3, ren_ints, List.map_cons, List.map_nil, RS.take, RS.skip, h', h2, h3]); (· simp [resAL, resA1, loadA, oneOr, ren_lit, ren_agg, ren_tup, ren_sl, tren_none, ren_ints, List.map_cons, List.map_nil, RS.take, RS.skip, h', h2, h3]))
theorem ref02_Take (s : RS) (n : Int) (hs : s.ok) : Ct Try.prog 139 [cv s, iA n] [] (fun _ => .tup [cv (s.take n).1, slA .u8 (s.take n).2]) [] (fun _ => []) := (ref02_Take0 s n hs).toCt (by intros; simp [ren_lit, ren_agg, ren_sl, tren_none, ren_ints, List.map_cons, List.map_nil]) (by intros; simp [ren_lit, ren_agg, ren_tup, ren_sl, tren_none, ren_ints, List.map_cons, List.map_nil])

theorem ref04_Bytes0 : ∀ (k : Nat) (x : Int), 0 ≤ x → x < 18446744073709551616 → x < 128 ^ (k + 1) → Does Try.prog 42 [uA x] [] (slA .u8 (vb x)) [] := by
  intro k
  induction k with
  | zero =>
    intro x h0 h1 hk
    have hlt : x < 128 := by simpa using hk
    have t : decide (x < 128) = true := by simpa using hlt
    have ew : IntKind.u8.wrap x = x := IntWalk.u8_in _ (by omega)
    have eb := vb_lt hlt
    have e1 : [u8A x] = ints .u8 [x] := rfl
    refine Does.run Try.func42 b42 n42 Try.ntmps42 (by simp only [List.cons_append, List.nil_append, List.length_cons, List.length_nil, Nat.zero_add, Nat.reduceSub, List.replicate]; rfl) ?_; simp only [c42, qSeq_normal, qSeq_ret, cdK_true, aw_reg, aw_seq, aw_cond, aw_ret, aReg_nil, aReg_cons, setD_some, ev_tmp, ev_const, ofC_int, ofC_nil, parts_lit_int, e_mov, e_bsl, e_bin, e_cvt, kBin_int, i_lss, kBsl_eq, okEl_eq, cvt_int, okTr_nil, kReg_go, List.getD_cons_zero, List.getD_cons_succ, List.set_cons_zero, List.set_cons_succ, List.map_cons, List.map_nil, List.length_cons, List.length_nil, List.nil_append, List.cons_append, List.append_nil, updL_nil, newU, Nat.zero_add, true_and, List.append_nil, List.all_cons, List.all_nil, Bool.and_self, beq_self_eq_true, qFin_ret, t]; (try ((refine okTr_and ?_ ?_); (· rfl)))
    (simp only [ew, e1]; (try ((refine okTr_and ?_ ?_); (· rfl))))
    (repeat ((with_reducible refine And.intro ?_ ?_); (· first | assumption | rfl | omega | (simp [ints_length, okEl_eq, AV.parts]; done) | (simp [ints_length, okEl_eq, AV.parts]; omega))))
    (refine FinK.untag 2 rfl ?_; simp only [untag1_sl, List.set_cons_zero, List.set_cons_succ])
    ((refine FinK.fin r42 [] ?_ ?_ ?_ ?_ ?_ ?_); (· decide); (· rfl); (· simp); (· rfl); (· first | rfl | simp [ints_nil, ren_lit, ren_ref, ren_any, ren_agg, ren_tup, ren_sl, ren_fn, tren_none, tren_full, tren_row, oren_cells, oren_row, oren_dead, ixs_z, ixs_1, ixs_2, ixs_3, ren_ints, List.map_cons, List.map_nil, eb]); (· simp [resAL, resA1, oneOr, ren_sl, tren_none, ren_ints, eb]))
  | succ k ih =>
    intro x h0 h1 hk
    refine Does.run Try.func42 b42 n42 Try.ntmps42 (by simp only [List.cons_append, List.nil_append, List.length_cons, List.length_nil, Nat.zero_add, Nat.reduceSub, List.replicate]; rfl) ?_; simp only [c42, qSeq_normal, aw_reg, aw_seq, aw_cond, aReg_nil, aReg_cons, setD_some, ev_tmp, ev_const, ofC_int, ofC_nil, e_mov, e_bin, kBin_int, i_lss, okTr_nil, kReg_go, List.getD_cons_zero, List.getD_cons_succ, List.set_cons_zero, List.set_cons_succ, List.map_nil, List.length_nil, List.nil_append, List.cons_append, List.append_nil, updL_nil, newU, true_and, List.append_nil]; (try ((refine okTr_and ?_ ?_); (· rfl)))
    refine cdK_split (fun h => ?_) (fun h => ?_)
    · have hlt : x < 128 := by simpa using h
      have ew : IntKind.u8.wrap x = x := IntWalk.u8_in _ (by omega)
      have eb := vb_lt hlt
      have e1 : [u8A x] = ints .u8 [x] := rfl
      (simp only [qSeq_normal, qSeq_ret, aw_reg, aw_seq, aw_ret, aReg_nil, aReg_cons, setD_some, ev_tmp, e_mov, e_bsl, e_cvt, kBsl_eq, cvt_int, okTr_nil, kReg_go, List.getD_cons_zero, List.getD_cons_succ, List.set_cons_zero, List.set_cons_succ, List.map_cons, List.map_nil, List.nil_append, List.cons_append, List.append_nil, updL_nil, newU, true_and, List.append_nil, ints_okEl, qFin_ret, ew, e1]; (try ((refine okTr_and ?_ ?_); (· rfl))))
      (repeat ((with_reducible refine And.intro ?_ ?_); (· first | assumption | rfl | omega | (simp [ints_length, okEl_eq, AV.parts]; done) | (simp [ints_length, okEl_eq, AV.parts]; omega))))
      (refine FinK.untag 2 rfl ?_; simp only [untag1_sl, List.set_cons_zero, List.set_cons_succ])
      ((refine FinK.fin r42 [] ?_ ?_ ?_ ?_ ?_ ?_); (· decide); (· rfl); (· simp); (· rfl); (· first | rfl | simp [ints_nil, ren_lit, ren_ref, ren_any, ren_agg, ren_tup, ren_sl, ren_fn, tren_none, tren_full, tren_row, oren_cells, oren_row, oren_dead, ixs_z, ixs_1, ixs_2, ixs_3, ren_ints, List.map_cons, List.map_nil, eb]); (· simp [resAL, resA1, oneOr, ren_sl, tren_none, ren_ints, eb]))
    · have hge : 128 ≤ x := by simp at h; omega
      have eb := vb_ge hge h1
      have hl := (vb_len (x / 128)).2
      have em : x.tmod 128 = x % 128 := Int.tmod_eq_emod_of_nonneg h0
      have ed : IntKind.u64.wrap (x.tdiv 128) = x / 128 := by rw [Int.tdiv_eq_ediv_of_nonneg h0, IntWalk.u64_in _ (by omega)]
      have ea : IntKind.u64.wrap (128 + x % 128) = 128 + x % 128 := IntWalk.u64_in _ (by omega)
      have eu : IntKind.u8.wrap (128 + x % 128) = 128 + x % 128 := IntWalk.u8_in _ (by omega)
      have e1 : [u8A (128 + x % 128)] = ints .u8 [128 + x % 128] := rfl
      have hih := (ih (x / 128) (by omega) (by omega) (by rw [Int.pow_succ] at hk; omega)).toCt (by intros; simp [ren_lit, List.map_cons, List.map_nil]) (by intros; simp [ren_sl, tren_none, ren_ints, ren_ints])
      (simp only [qSeq_normal, aw_skip, aw_reg, aw_seq, aReg_cons, setD_some, ev_tmp, ev_const, ev_func, ofC_int, e_mov, e_bsl, e_bin, e_cvt, e_call, kBin_int, i_add, i_quo, i_rem, kBsl_eq, cvt_int, call_fn, kReg_go, List.getD_cons_zero, List.getD_cons_succ, List.set_cons_zero, List.set_cons_succ, List.map_cons, List.map_nil, List.nil_append, List.cons_append, List.append_nil, updL_nil, newU, true_and, List.append_nil, ints_okEl, em, ed, ea, eu, e1]; (try ((refine okTr_and ?_ ?_); (· rfl))))
      (repeat ((with_reducible refine And.intro ?_ ?_); (· first | assumption | rfl | omega | (simp [ints_length, okEl_eq, AV.parts]; done) | (simp [ints_length, okEl_eq, AV.parts]; omega))))
      refine CallK.p (hih) ?_
      (simp only [qSeq_normal, aw_ret, aReg_nil, aReg_cons, setD_some, ev_tmp, e_mov, e_app, app_full, okTr_nil, kReg_go, List.getD_cons_zero, List.getD_cons_succ, List.set_cons_zero, List.set_cons_succ, List.map_cons, List.map_nil, List.length_cons, List.length_nil, List.nil_append, List.cons_append, List.append_nil, updL_nil, newU, Nat.zero_add, true_and, List.append_nil, true_or, qFin_ret, ints_append, ints_length]; (try ((refine okTr_and ?_ ?_); (· rfl))))
      (repeat ((with_reducible refine And.intro ?_ ?_); (· first | assumption | rfl | omega | (simp [ints_length, okEl_eq, AV.parts]; done) | (simp [ints_length, okEl_eq, AV.parts]; omega))))
      (refine FinK.untag 2 rfl ?_; simp only [untag1_sl, List.set_cons_zero, List.set_cons_succ])
      ((refine FinK.fin r42 [] ?_ ?_ ?_ ?_ ?_ ?_); (· decide); (· rfl); (· simp); (· rfl); (· first | rfl | simp [ints_nil, ren_lit, ren_ref, ren_any, ren_agg, ren_tup, ren_sl, ren_fn, tren_none, tren_full, tren_row, oren_cells, oren_row, oren_dead, ixs_z, ixs_1, ixs_2, ixs_3, ren_ints, List.map_cons, List.map_nil, eb]); (· simp [resAL, resA1, oneOr, ren_sl, tren_none, ren_ints, eb]))
theorem ref04_Bytes (x : Int) (h0 : 0 ≤ x) (h1 : x < 18446744073709551616) : Ct Try.prog 42 [uA x] [] (fun _ => slA .u8 (vb x)) [] (fun _ => []) := (ref04_Bytes0 9 x h0 h1 (by omega)).toCt (by intros; simp [ren_lit, List.map_cons, List.map_nil]) (by intros; simp [ren_sl, tren_none, ren_ints, ren_ints])

abbrev vG (q : Int × Int × (Int × Int)) : AV := .tup [uA q.1, iA q.2.1, fltA q.2.2]
theorem u8_get (l : List Int) (i : Int) (h0 : 0 ≤ i) (h1 : i < l.length) : (ints .u8 l).getD i.toNat .any = u8A (l.getD i.toNat 0) := u8_in_list _ (by omega)
set_option maxRecDepth 100000 in
theorem ref04_Get0 (l : List Int) (hl : Bys l) (_hn : l.length ≤ 140737488355328) : Does Try.prog 80 [slA .u8 l] [] (vG (vGet l)) [] := by
  refine Does.run Try.func80 b80 n80 Try.ntmps80 (by simp only [List.cons_append, List.nil_append, List.length_cons, List.length_nil, Nat.zero_add, Nat.reduceSub, List.replicate]; rfl) ?_; simp only [c80, qSeq_normal, aw_reg, aw_seq, aw_block, aReg_nil, aReg_cons, setD_some, ev_const, ofC_int, ofC1_int, e_mov, e_new, okTr_nil, kReg_go, List.set_cons_zero, List.set_cons_succ, List.map_cons, List.map_nil, List.length_nil, List.nil_append, List.cons_append, List.append_nil, updL_nil, newU, true_and, List.append_nil]; (try ((refine okTr_and ?_ ?_); (· rfl)))
  refine loop_of (α := Nat) (fun k => [slA .u8 l, .any, uA 0, iA 0, .ref 0 0, iA k, .any, .any, .any, .any, .any, .any, .any, .any, .any, .any, .any, .any, .any, .any, .any, .any, .any, .any, .any, .any, .any, .any, .any, .any, .any, .any, .any, .any, .any, .any, .any, .any, .any, .any, .any, .any, .any, .any, .any, .any, .any, .any, .any, .any, .any, .any, .any, .any, .any, .any, .any, .any, .any, .any, .any, .any]) (fun _ => [.cells [iA 0, iA 0]]) (fun k => k ≤ l.length ∧ k ≤ 9 ∧ UptoL l k) (fun k => l.length - k) 0 ⟨by simp, by simp, uptoL_zero l⟩ (Wk.forget (by simp [leT])) ?_
  rintro k ⟨hk, hk9, hu⟩
  (simp only [qSeq_normal, aw_reg, aw_seq, aw_cond, aReg_nil, aReg_cons, setD_some, ev_tmp, e_mov, e_bin, e_len, kBin_int, i_lss, len_sl, okTr_nil, kReg_go, List.getD_cons_zero, List.getD_cons_succ, List.set_cons_zero, List.set_cons_succ, List.map_nil, List.nil_append, List.cons_append, List.append_nil, updL_nil, newU, true_and, List.append_nil, ints_length]; (try ((refine okTr_and ?_ ?_); (· rfl))))
  refine cdK_split (fun h => ?_) (fun h => ?_)
  · have hlt : k < l.length := by simpa using h
    obtain ⟨z, hz⟩ : ∃ z, l.getD k 0 = z := ⟨_, rfl⟩
    have hzb : 0 ≤ z ∧ z < 256 := hz ▸ hl _ (getD_mem l k hlt)
    have eg : (ints .u8 l).getD (k : Int).toNat .any = u8A z := by rw [← hz]; exact u8_get l k (by omega) (by omega)
    have t1 : ((k : Int) == 9) = decide (k = 9) := by rw [Bool.eq_iff_iff]; simp; omega
    have t2 : decide ((0 : Int) < k) = decide (0 < k) := by rw [Bool.eq_iff_iff]; simp
    (simp only [qSeq_normal, aw_skip, aw_reg, aw_seq, aw_block, aReg_cons, aReg_guard, setD_some, ev_tmp, ev_const, ofC_int, e_mov, e_bin, kBin_int, i_eql, kReg_go, List.getD_cons_zero, List.getD_cons_succ, List.set_cons_zero, List.set_cons_succ, List.map_nil, List.nil_append, List.cons_append, List.append_nil, updL_nil, newU, List.append_nil, t1]; (try ((refine okTr_and ?_ ?_); (· rfl))))
    by_cases c1 : k = 9 ∧ 1 < z
    · have hv := vGet_over hu hlt c1.1 (by rw [hz]; exact c1.2)
      have q1 : decide (k = 9) = true := by simpa using c1.1
      have q2 : decide (1 < z) = true := by simpa using c1.2
      (simp only [qSeq_normal, cdK_true, aw_reg, aw_seq, aw_cond, aReg_nil, aReg_cons, aReg_guard, gdF_tt, setD_some, ev_tmp, ev_const, ev_func, ofC_int, ofC_bool, cells_lit, e_mov, e_pick, e_load, e_bin, e_iadr, e_call, kPick_lit, kBin_int, i_gtr, l_iptr1, iadr_sl, call_fn, okTr_nil, kReg_go, List.getD_cons_zero, List.getD_cons_succ, List.set_cons_zero, List.set_cons_succ, List.map_cons, List.map_nil, List.nil_append, List.cons_append, List.append_nil, updL_nil, newU, true_and, List.append_nil, cond_true, q1, q2, eg, ints_length]; (try ((refine okTr_and ?_ ?_); (· rfl))))
      (repeat ((with_reducible refine And.intro ?_ ?_); (· first | assumption | rfl | omega | (simp [ints_length, okEl_eq, AV.parts]; done) | (simp [ints_length, okEl_eq, AV.parts]; omega))))
      refine CallK.p (ref01_At _ _) ?_
      (simp only [qLoop_ret, qSeq_normal, qSeq_ret, qBlock_ret, aw_ret, aReg_nil, aReg_cons, setD_some, setD_none, ev_tmp, ev_const, ofC_int, parts_agg, splice_nil, splice_cons, e_mov, e_store, st_ref, okTr_nil, kReg_go, List.getD_cons_zero, List.getD_cons_succ, List.set_cons_zero, List.set_cons_succ, List.getElem?_cons_zero, List.map_cons, List.map_nil, List.length_cons, List.length_nil, List.nil_append, List.cons_append, List.append_nil, updL_nil, updL_cons, newU, Nat.reduceAdd, Nat.zero_add, true_and, Nat.le_refl, List.append_nil, qFin_ret]; (try ((refine okTr_and ?_ ?_); (· rfl))))
      ((refine FinK.fin r80 [] ?_ ?_ ?_ ?_ ?_ ?_); (· decide); (· rfl); (· simp); (· rfl); (· first | rfl | simp [ints_nil, ren_lit, ren_ref, ren_any, ren_agg, ren_tup, ren_sl, ren_fn, tren_none, tren_full, tren_row, oren_cells, oren_row, oren_dead, ixs_z, ixs_1, ixs_2, ixs_3, ren_ints, List.map_cons, List.map_nil, hv, flt]); (· simp [resAL, resA1, loadA, oneOr, ren_lit, ren_agg, ren_tup, List.map_cons, List.map_nil, hv, flt]))
    · have p1 : (decide (k = 9) = true ∧ decide (1 < z) = false) ∨ (decide (k = 9) = false ∧ True) := by
        simp only [decide_eq_true_eq, decide_eq_false_iff_not, and_true]; omega
      by_cases c2 : 0 < k ∧ z = 0
      · have hv := vGet_min hu hlt c2.1 (by rw [hz]; exact c2.2)
        have q3 : decide (0 < k) = true := by simpa using c2.1
        have q4 : (z == 0) = true := by simpa using c2.2
        rcases p1 with ⟨q1, q2⟩ | ⟨q1, q2⟩ <;>
        · (simp only [qSeq_normal, cdK_true, cdK_false, aw_skip, aw_reg, aw_seq, aw_cond, aReg_nil, aReg_cons, aReg_guard, gdF_tt, gdF_ft, setD_some, ev_tmp, ev_const, ev_func, ofC_int, ofC_bool, cells_lit, e_mov, e_pick, e_load, e_bin, e_iadr, e_call, kPick_lit, kBin_int, i_eql, i_gtr, l_iptr1, iadr_sl, call_fn, okTr_nil, kReg_go, List.getD_cons_zero, List.getD_cons_succ, List.set_cons_zero, List.set_cons_succ, List.map_cons, List.map_nil, List.nil_append, List.cons_append, List.append_nil, updL_nil, newU, true_and, List.append_nil, cond_true, cond_false, q1, q2, t2, q3, q4, eg, ints_length]; (try ((refine okTr_and ?_ ?_); (· rfl))))
          (repeat ((with_reducible refine And.intro ?_ ?_); (· first | assumption | rfl | omega | (simp [ints_length, okEl_eq, AV.parts]; done) | (simp [ints_length, okEl_eq, AV.parts]; omega))))
          refine CallK.p (ref01_At _ _) ?_
          (simp only [qLoop_ret, qSeq_normal, qSeq_ret, qBlock_ret, aw_ret, aReg_nil, aReg_cons, setD_some, setD_none, ev_tmp, ev_const, ofC_int, parts_agg, splice_nil, splice_cons, e_mov, e_store, st_ref, okTr_nil, kReg_go, List.getD_cons_zero, List.getD_cons_succ, List.set_cons_zero, List.set_cons_succ, List.getElem?_cons_zero, List.map_cons, List.map_nil, List.length_cons, List.length_nil, List.nil_append, List.cons_append, List.append_nil, updL_nil, updL_cons, newU, Nat.reduceAdd, Nat.zero_add, true_and, Nat.le_refl, List.append_nil, qFin_ret]; (try ((refine okTr_and ?_ ?_); (· rfl))))
          ((refine FinK.fin r80 [] ?_ ?_ ?_ ?_ ?_ ?_); (· decide); (· rfl); (· simp); (· rfl); (· first | rfl | simp [ints_nil, ren_lit, ren_ref, ren_any, ren_agg, ren_tup, ren_sl, ren_fn, tren_none, tren_full, tren_row, oren_cells, oren_row, oren_dead, ixs_z, ixs_1, ixs_2, ixs_3, ren_ints, List.map_cons, List.map_nil, hv, flt]); (· simp [resAL, resA1, loadA, oneOr, ren_lit, ren_agg, ren_tup, List.map_cons, List.map_nil, hv, flt]))
      · have p2 : (decide (0 < k) = true ∧ (z == 0) = false) ∨ (decide (0 < k) = false ∧ True) := by
          simp only [decide_eq_true_eq, decide_eq_false_iff_not, and_true, beq_eq_false_iff_ne]; omega
        rcases p1 with ⟨q1, q2⟩ | ⟨q1, q2⟩ <;> rcases p2 with ⟨q3, q4⟩ | ⟨q3, q4⟩ <;>
        · (simp only [qSeq_normal, cdK_false, aw_skip, aw_reg, aw_seq, aw_cond, aReg_nil, aReg_cons, aReg_guard, gdF_tt, gdF_ft, setD_some, ev_tmp, ev_const, ofC_int, ofC_bool, cells_lit, e_mov, e_pick, e_load, e_bin, e_iadr, kPick_lit, kBin_int, i_eql, i_lss, i_gtr, l_iptr1, iadr_sl, okTr_nil, kReg_go, List.getD_cons_zero, List.getD_cons_succ, List.set_cons_zero, List.set_cons_succ, List.map_nil, List.nil_append, List.cons_append, List.append_nil, updL_nil, newU, true_and, List.append_nil, cond_true, cond_false, q1, q2, t2, q3, q4, eg, ints_length]; (try ((refine okTr_and ?_ ?_); (· rfl))))
          (repeat ((with_reducible refine And.intro ?_ ?_); (· first | assumption | rfl | omega | (simp [ints_length, okEl_eq, AV.parts]; done) | (simp [ints_length, okEl_eq, AV.parts]; omega))))
          refine cdK_split (fun h => ?_) (fun h => ?_)
          · have c3 : z < 128 := by simpa using h
            have hv := vGet_last hu hlt (by rw [hz]; exact c1) (by rw [hz]; exact c2) (by rw [hz]; exact c3) (by rw [hz]; omega)
            have hV := valTo_u64 (l := l) (k := k) hk9 (by rw [hz]; exact c1) (by rw [hz]; exact c3) (by rw [hz]; omega)
            (simp only [qSeq_normal, aw_reg, aw_seq, aw_block, aReg_nil, aReg_cons, setD_some, ev_tmp, ev_const, ofC_int, e_mov, okTr_nil, kReg_go, List.getD_cons_zero, List.getD_cons_succ, List.set_cons_zero, List.set_cons_succ, List.map_nil, List.nil_append, List.cons_append, List.append_nil, updL_nil, newU, true_and, List.append_nil]; (try ((refine okTr_and ?_ ?_); (· rfl))))
            refine loop_of (α := Nat × Int) (fun a => [slA .u8 l, .any, uA 0, iA 0, .ref 0 0, iA k, uA a.2, iA ((a.1 : Int) - 1), .any, .any, .any, .any, .any, .any, .any, .any, .any, .any, .any, .any, .any, .any, .any, .any, .any, .any, .any, .any, .any, .any, .any, .any, .any, .any, .any, .any, .any, .any, .any, .any, .any, .any, .any, .any, .any, .any, .any, .any, .any, .any, .any, .any, .any, .any, .any, .any, .any, .any, .any, .any, .any, .any]) (fun _ => [.cells [iA 0, iA 0]]) (fun a => a.1 ≤ k + 1 ∧ 0 ≤ a.2 ∧ valTo l (k + 1) = 128 ^ a.1 * a.2 + valTo l a.1) (fun a => a.1) (k + 1, 0) ⟨Nat.le_refl _, Int.le_refl _, by simp⟩ (Wk.forget (by simp [leT])) ?_
            rintro ⟨j, X⟩ ⟨hj, hX, he⟩
            simp only at hj hX he
            (simp only [qSeq_normal, aw_reg, aw_seq, aw_cond, aReg_nil, aReg_cons, setD_some, ev_tmp, ev_const, ofC_int, e_mov, e_bin, kBin_int, i_geq, okTr_nil, kReg_go, List.getD_cons_zero, List.getD_cons_succ, List.set_cons_zero, List.set_cons_succ, List.map_nil, List.nil_append, List.cons_append, List.append_nil, updL_nil, newU, true_and, List.append_nil]; (try ((refine okTr_and ?_ ?_); (· rfl))))
            refine cdK_split (fun h => ?_) (fun h => ?_)
            · obtain ⟨j', rfl⟩ : ∃ j', j = j' + 1 := ⟨j - 1, by simp at h; omega⟩
              obtain ⟨he2, hub⟩ := horner l (k + 1) j' X he hX hV
              have ej : ((j' + 1 : Nat) : Int) - 1 = (j' : Int) := by omega
              obtain ⟨y, hy⟩ : ∃ y, l.getD j' 0 = y := ⟨_, rfl⟩
              have hyb : 0 ≤ y ∧ y < 256 := hy ▸ hl _ (getD_mem l j' (by omega))
              have eg2 : (ints .u8 l).getD (j' : Int).toNat .any = u8A y := by rw [← hy]; exact u8_get l j' (by omega) (by omega)
              rw [hy] at he2 hub
              have em : y.tmod 128 = y % 128 := Int.tmod_eq_emod_of_nonneg (by omega)
              have ec : IntKind.u64.wrap (y % 128) = y % 128 := IntWalk.u64_in _ (by omega)
              have ew : IntKind.u64.wrap (128 * X) = 128 * X := IntWalk.u64_in _ (by omega)
              have ew2 : IntKind.u64.wrap (128 * X + y % 128) = 128 * X + y % 128 := IntWalk.u64_in _ (by omega)
              have ew3 : IntKind.i64.wrap ((j' : Int) - 1) = (j' : Int) - 1 := IntWalk.i64_in _ (by omega)
              (simp only [qLoop_normal, qSeq_normal, qBlock_normal, aw_skip, aw_reg, aw_seq, aw_block, aReg_nil, aReg_cons, setD_some, ev_tmp, ev_const, ofC_int, cells_lit, e_mov, e_load, e_bin, e_cvt, e_iadr, kBin_int, i_add, i_sub, i_mul, i_rem, l_iptr1, cvt_int, iadr_sl, okTr_nil, kReg_go, List.getD_cons_zero, List.getD_cons_succ, List.set_cons_zero, List.set_cons_succ, List.map_nil, List.nil_append, List.cons_append, List.append_nil, updL_nil, newU, true_and, List.append_nil, ej, eg2, em, ec, ew, ew2, ew3, ints_length]; (try ((refine okTr_and ?_ ?_); (· rfl))))
              (repeat ((with_reducible refine And.intro ?_ ?_); (· first | assumption | rfl | omega | (simp [ints_length, okEl_eq, AV.parts]; done) | (simp [ints_length, okEl_eq, AV.parts]; omega))))
              exact ⟨(j', 128 * X + y % 128), ⟨by simp only; omega, by simp only; omega, he2⟩, by simp only; omega, Wk.forget (by simp [leT])⟩
            · obtain rfl : j = 0 := by simp at h; omega
              have ek1 : IntKind.i64.wrap ((k : Int) + 1) = (k : Int) + 1 := IntWalk.i64_in _ (by omega)
              have he' : valTo l (k + 1) = X := by rw [he]; simp [valTo]
              (simp only [qLoop_ret, qLoop_exit, qSeq_normal, qSeq_ret, qSeq_exit, qBlock_ret, qBlock_exit, aw_reg, aw_seq, aw_exit, aw_ret, aReg_nil, aReg_cons, setD_some, setD_none, ev_tmp, ev_const, ofC_int, ofC1_int, parts_agg, splice_nil, splice_cons, e_mov, e_build, e_store, e_bin, kBin_int, i_add, kBuild_eq, fillA_nil, st_ref, okTr_nil, kReg_go, List.getD_cons_zero, List.getD_cons_succ, List.set_cons_zero, List.set_cons_succ, List.getElem?_cons_zero, List.map_cons, List.map_nil, List.length_cons, List.length_nil, List.nil_append, List.cons_append, List.append_nil, updL_nil, updL_cons, newU, Nat.reduceAdd, Nat.zero_add, true_and, Nat.le_refl, Int.reduceLE, List.append_nil, ↓reduceIte, Int.cast_ofNat_Int, decide_false, Int.reduceSub, qFin_ret, ek1]; (try ((refine okTr_and ?_ ?_); (· rfl))))
              ((refine FinK.fin r80 [] ?_ ?_ ?_ ?_ ?_ ?_); (· decide); (· rfl); (· simp); (· rfl); (· first | rfl | simp [ints_nil, ren_lit, ren_ref, ren_any, ren_agg, ren_tup, ren_sl, ren_fn, tren_none, tren_full, tren_row, oren_cells, oren_row, oren_dead, ixs_z, ixs_1, ixs_2, ixs_3, ren_ints, List.map_cons, List.map_nil, hv, he']); (· simp [resAL, resA1, loadA, oneOr, ren_lit, ren_agg, ren_tup, List.map_cons, List.map_nil, hv, he']))
          · have c3 : ¬ z < 128 := by simpa using h
            have hu2 := uptoL_more hu hlt (by rw [hz]; exact c1) (by rw [hz]; exact c2) (by rw [hz]; exact c3)
            have ek1 : IntKind.i64.wrap ((k : Int) + 1) = ((k + 1 : Nat) : Int) := by rw [IntWalk.i64_in _ (by omega)]; omega
            (simp only [qLoop_normal, qSeq_normal, qBlock_normal, aw_skip, aw_reg, aReg_nil, aReg_cons, setD_some, ev_tmp, ev_const, ofC_int, e_mov, e_bin, kBin_int, i_add, okTr_nil, kReg_go, List.getD_cons_zero, List.getD_cons_succ, List.set_cons_zero, List.set_cons_succ, List.map_nil, List.nil_append, List.cons_append, List.append_nil, updL_nil, newU, true_and, List.append_nil, ek1]; (try ((refine okTr_and ?_ ?_); (· rfl))))
            exact ⟨k + 1, ⟨by omega, by omega, hu2⟩, by omega, Wk.forget (by simp [leT])⟩
  · have ek : k = l.length := by simp at h; omega
    subst ek
    have hv := vGet_end hu
    (simp only [qLoop_exit, qSeq_normal, qSeq_exit, qBlock_exit, aw_reg, aw_seq, aw_exit, aReg_cons, setD_some, ev_tmp, ev_const, ev_func, ofC_int, e_mov, e_call, e_len, call_fn, len_sl, kReg_go, List.getD_cons_zero, List.getD_cons_succ, List.set_cons_zero, List.set_cons_succ, List.map_cons, List.map_nil, List.nil_append, List.cons_append, List.append_nil, updL_nil, newU, List.append_nil, ↓reduceIte, ints_length]; (try ((refine okTr_and ?_ ?_); (· rfl))))
    refine CallK.p (ref01_At _ _) ?_
    (simp only [qSeq_normal, aw_ret, aReg_nil, aReg_cons, setD_some, setD_none, ev_tmp, ev_const, ofC_int, parts_agg, splice_nil, splice_cons, e_mov, e_store, st_ref, okTr_nil, kReg_go, List.getD_cons_zero, List.getD_cons_succ, List.set_cons_zero, List.set_cons_succ, List.getElem?_cons_zero, List.map_cons, List.map_nil, List.length_cons, List.length_nil, List.nil_append, List.cons_append, List.append_nil, updL_nil, updL_cons, newU, Nat.reduceAdd, Nat.zero_add, true_and, Nat.le_refl, List.append_nil, qFin_ret]; (try ((refine okTr_and ?_ ?_); (· rfl))))
    ((refine FinK.fin r80 [] ?_ ?_ ?_ ?_ ?_ ?_); (· decide); (· rfl); (· simp); (· rfl); (· first | rfl | simp [ints_nil, ren_lit, ren_ref, ren_any, ren_agg, ren_tup, ren_sl, ren_fn, tren_none, tren_full, tren_row, oren_cells, oren_row, oren_dead, ixs_z, ixs_1, ixs_2, ixs_3, ren_ints, List.map_cons, List.map_nil, hv, flt]); (· simp [resAL, resA1, loadA, oneOr, ren_lit, ren_agg, ren_tup, List.map_cons, List.map_nil, hv, flt]))
theorem ref04_Get (l : List Int) (hl : Bys l) (hn : l.length ≤ 140737488355328) : Ct Try.prog 80 [slA .u8 l] [] (fun _ => vG (vGet l)) [] (fun _ => []) := (ref04_Get0 l hl hn).toCt (by intros; simp [ren_sl, tren_none, ren_ints, List.map_cons, List.map_nil, ren_ints]) (by intros; simp [ren_lit, ren_agg, ren_tup, List.map_cons, List.map_nil])
end Go.Proofs.Ytgphhganepjaiaa
