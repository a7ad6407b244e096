/-
  Chapter 4: VarintWrites.
-/
import Derived.Test.YtgphhganepjaiaaL04
namespace Go.Proofs.Ytgphhganepjaiaa
open Go.RowKit

theorem law_VarintWrites (x : Int) (m : List Int) (k : Int) (x0 : 0 ≤ x) (x1 : x < 18446744073709551616) (k1 : k < 9223372036854775808) (hm : Bys m) : Does Try.prog 17 [uA x, slA .u8 m, iA k] [] (bA true) [] := by
  have hv := (vb_len x).2
  have hvb := vb_by x0 x1
  have e0 : (if 0 > k then (0 : Int) else k) = max k 0 := by split <;> omega
  refine Does.run Try.func17 b17 n17 Try.ntmps17 (by simp only [List.cons_append, List.nil_append, List.length_cons, List.length_nil, Nat.zero_add, Nat.reduceAdd, Nat.reduceSub, List.replicate]; rfl) ?_; simp only [c17, qSeq_normal, aw_reg, aw_seq, aw_cond, aReg_nil, aReg_cons, setD_some, ev_tmp, ev_const, ofC_int, ofC_bool, e_mov, e_bin, e_len, kBin_int, i_gtr, len_sl, okTr_nil, kReg_go, List.getD_cons_zero, List.getD_cons_succ, List.set_cons_zero, List.set_cons_succ, List.map_nil, List.length_nil, List.nil_append, List.cons_append, List.append_nil, updL_nil, newU, true_and, List.append_nil, ints_length]; (try ((refine okTr_and ?_ ?_); (· rfl)))
  refine cdK_split (fun h => ?_) (fun h => ?_)
  · (simp only [aw_reg, aw_seq, aReg_cons, ev_func, e_call, call_fn, List.map_nil, List.append_nil, List.append_nil]; (try ((refine okTr_and ?_ ?_); (· rfl))))
    refine CallK.p (live04) ?_
    (simp only [qSeq_normal, qSeq_ret, aw_ret, aReg_nil, aReg_cons, setD_some, ev_tmp, e_mov, okTr_nil, kReg_go, List.getD_cons_zero, List.getD_cons_succ, List.set_cons_zero, List.set_cons_succ, List.map_nil, List.nil_append, List.cons_append, List.append_nil, updL_nil, newU, true_and, List.append_nil, qFin_ret]; (try ((refine okTr_and ?_ ?_); (· rfl))))
    ((refine FinK.fin r17 [] ?_ ?_ ?_ ?_ ?_ ?_); (· decide); (· rfl); (· simp); (· rfl); (· first | rfl | simp [ints_nil, ren_lit, ren_ref, ren_any, ren_agg, ren_tup, ren_sl, ren_fn, tren_none, tren_full, tren_row, oren_cells, oren_row, oren_dead, ixs_z, ixs_1, ixs_2, ixs_3, ren_ints, List.map_cons, List.map_nil]); (· simp [resAL, resA1, oneOr, ren_lit]))
  · have hlm : m.length ≤ 300 := by simp at h; omega
    have h2 := put_len (WS.new k) m
    have h3 := put_len ((WS.new k).put m) (vb x)
    have h4 : (WS.new k).l.length = 0 := rfl
    have hok := (WS.ok.new k1).put m
    have e1 : IntKind.i64.wrap ((m.length : Int) + (vb x).length) = (m.length : Int) + (vb x).length := IntWalk.i64_in _ (by omega)
    (simp only [qSeq_normal, aw_skip, aw_reg, aw_seq, aReg_cons, setD_some, ev_tmp, ev_func, e_mov, e_call, call_fn, kReg_go, List.getD_cons_zero, List.getD_cons_succ, List.set_cons_zero, List.set_cons_succ, List.map_cons, List.map_nil, List.nil_append, List.append_nil, updL_nil, newU, List.append_nil]; (try ((refine okTr_and ?_ ?_); (· rfl))))
    refine CallK.n (pen_New k) ?_
    (simp only [qSeq_normal, aw_reg, aw_seq, aReg_nil, aReg_cons, setD_some, ev_tmp, ev_func, e_mov, e_call, call_fn, okTr_nil, kReg_go, List.getD_cons_zero, List.getD_cons_succ, List.set_cons_zero, List.set_cons_succ, List.map_cons, List.map_nil, List.length_nil, List.nil_append, List.cons_append, List.append_nil, updL_nil, newU, Nat.zero_add, true_and, List.append_nil]; (try ((refine okTr_and ?_ ?_); (· rfl))))
    refine CallK.u2 (Writer_Put (WS.new k) m _ _ (by decide) (WS.ok.new k1) (fun _ => by omega)) rfl rfl ?_
    (simp only [qSeq_normal, aw_reg, aw_seq, aReg_nil, aReg_cons, setD_some, ev_tmp, ev_func, e_mov, e_call, call_fn, okTr_nil, kReg_go, List.getD_cons_zero, List.getD_cons_succ, List.set_cons_zero, List.set_cons_succ, List.map_cons, List.map_nil, List.nil_append, List.cons_append, List.append_nil, updL_nil, updL_cons, newU, true_and, List.append_nil]; (try ((refine okTr_and ?_ ?_); (· rfl))))
    refine CallK.u2 (varint_Put ((WS.new k).put m) x _ _ (by decide) x0 x1 hok (fun _ => by omega)) rfl rfl ?_
    (simp only [qSeq_normal, aw_reg, aw_seq, aReg_nil, aReg_cons, setD_some, ev_tmp, ev_func, e_mov, e_call, call_fn, okTr_nil, kReg_go, List.getD_cons_zero, List.getD_cons_succ, List.set_cons_zero, List.set_cons_succ, List.map_cons, List.map_nil, List.nil_append, List.cons_append, List.append_nil, updL_nil, updL_cons, newU, true_and, List.append_nil]; (try ((refine okTr_and ?_ ?_); (· rfl))))
    refine CallK.r2 (Writer_Bytes (((WS.new k).put m).put (vb x)) _ _ (by decide) (by omega)) rfl rfl ?_
    (simp only [qSeq_normal, aw_reg, aw_seq, aReg_nil, aReg_cons, setD_some, ev_tmp, ev_const, ev_func, ofC_int, e_mov, e_ext, e_call, e_len, e_mx, ext_tup, call_fn, len_sl, mx_int, okTr_nil, kReg_go, List.getD_cons_zero, List.getD_cons_succ, List.set_cons_zero, List.set_cons_succ, List.getElem?_cons_zero, List.getElem?_cons_succ, List.map_cons, List.map_nil, List.nil_append, List.cons_append, List.append_nil, updL_nil, newU, true_and, List.append_nil, ↓reduceIte, ints_length, e0]; (try ((refine okTr_and ?_ ?_); (· rfl))))
    refine CallK.p (ref04_Bytes x x0 x1) ?_
    (simp only [qSeq_normal, aw_reg, aw_seq, aReg_nil, aReg_cons, aReg_guard, setD_some, ev_tmp, ev_const, ofC_int, e_mov, e_bin, e_eqb, e_len, kBin_int, i_add, i_eql, i_geq, eqb_lit, len_sl, okTr_nil, kReg_go, List.getD_cons_zero, List.getD_cons_succ, List.set_cons_zero, List.set_cons_succ, List.map_nil, List.nil_append, List.cons_append, List.append_nil, updL_nil, newU, true_and, List.append_nil, ↓reduceIte, ints_length, e1]; (try ((refine okTr_and ?_ ?_); (· rfl))))
    have hsame := same_self (m ++ vb x)
    have hsame2 := same_self (vb x)
    rcases put2 k m (vb x) with ⟨c1, c2, c3⟩ | ⟨c1, c3⟩
    · have q1 : ((((WS.new k).put m).put (vb x)).code == 0) = true := by simpa using c1
      have q2 : decide ((m.length : Int) + (vb x).length ≤ max k 0) = true := by simpa using c3
      (simp only [aReg_guard, gdF_tt, gdF_ff, setD_some, ev_tmp, ev_func, e_mov, e_bsl, e_call, e_app, kBsl_eq, call_fn, app_full, kReg_go, List.getD_cons_zero, List.getD_cons_succ, List.set_cons_zero, List.set_cons_succ, List.map_cons, List.map_nil, List.length_cons, List.length_nil, List.nil_append, List.cons_append, List.append_nil, updL_nil, newU, Nat.reduceAdd, Nat.zero_add, true_and, List.append_nil, or_true, true_or, Bool.not_true, List.all_nil, beq_self_eq_true, q1, q2, ints_length, c2]; (try ((refine okTr_and ?_ ?_); (· rfl))))
      (repeat ((with_reducible refine And.intro ?_ ?_); (· first | assumption | rfl | omega | (simp [ints_length, okEl_eq, AV.parts]; done) | (simp [ints_length, okEl_eq, AV.parts]; omega))))
      refine CallK.p (ref04_Bytes x x0 x1) ?_
      (simp only [aReg_guard, gdF_tt, setD_some, ev_tmp, ev_func, e_call, e_app, call_fn, app_row, kReg_go, List.getD_cons_zero, List.getD_cons_succ, List.set_cons_zero, List.set_cons_succ, List.getElem?_cons_zero, List.getElem?_cons_succ, List.map_cons, List.map_nil, List.nil_append, List.cons_append, List.append_nil, updL_nil, updL_cons, newU, true_and, List.append_nil, true_or, ints_length, ints_append]; (try ((refine okTr_and ?_ ?_); (· rfl))))
      (repeat ((with_reducible refine And.intro ?_ ?_); (· first | assumption | rfl | omega | (simp [ints_length, okEl_eq, AV.parts]; done) | (simp [ints_length, okEl_eq, AV.parts]; omega))))
      refine CallK.p (ref02_Same (m ++ vb x) (m ++ vb x) (by intro y hy; rcases List.mem_append.1 hy with h | h; exact hm y h; exact hvb y h) (by intro y hy; rcases List.mem_append.1 hy with h | h; exact hm y h; exact hvb y h)) ?_
      (simp only [qSeq_normal, cdK_false, aw_skip, aw_reg, aw_seq, aw_cond, aReg_nil, aReg_cons, aReg_guard, gdF_tt, gdF_ff, setD_some, ev_tmp, ev_const, ev_func, ofC_bool, e_mov, e_pick, e_un, e_call, kPick_lit, un_not, call_fn, okTr_nil, kReg_go, List.getD_cons_zero, List.getD_cons_succ, List.set_cons_zero, List.set_cons_succ, List.map_cons, List.map_nil, List.nil_append, List.cons_append, List.append_nil, updL_nil, newU, true_and, List.append_nil, Bool.not_true, cond_true, cond_false, hsame]; (try ((refine okTr_and ?_ ?_); (· rfl))))
      refine CallK.p (varint_Bytes x x0 x1) ?_
      (simp only [aReg_cons, setD_some, ev_tmp, ev_func, e_mov, e_call, call_fn, kReg_go, List.getD_cons_zero, List.getD_cons_succ, List.set_cons_zero, List.set_cons_succ, List.map_cons, List.map_nil, List.nil_append, List.cons_append, List.append_nil, updL_nil, newU, List.append_nil]; (try ((refine okTr_and ?_ ?_); (· rfl))))
      refine CallK.p (ref04_Bytes x x0 x1) ?_
      (simp only [aReg_cons, setD_some, ev_tmp, ev_func, e_call, call_fn, kReg_go, List.getD_cons_zero, List.getD_cons_succ, List.set_cons_zero, List.set_cons_succ, List.map_cons, List.map_nil, List.nil_append, List.cons_append, List.append_nil, updL_nil, newU, List.append_nil]; (try ((refine okTr_and ?_ ?_); (· rfl))))
      refine CallK.p (ref02_Same (vb x) (vb x) hvb hvb) ?_
      (simp only [aReg_cons, aReg_guard, gdF_tt, setD_some, ev_tmp, ev_func, e_mov, e_call, call_fn, kReg_go, List.getD_cons_zero, List.getD_cons_succ, List.set_cons_zero, List.set_cons_succ, List.map_cons, List.map_nil, List.nil_append, List.cons_append, List.append_nil, updL_nil, newU, List.append_nil, hsame2]; (try ((refine okTr_and ?_ ?_); (· rfl))))
      refine CallK.p (varint_Size x x0 x1) ?_
      (simp only [aReg_guard, gdF_tt, setD_some, ev_tmp, ev_func, e_mov, e_call, call_fn, kReg_go, List.getD_cons_zero, List.getD_cons_succ, List.set_cons_zero, List.set_cons_succ, List.map_cons, List.map_nil, List.nil_append, List.cons_append, List.append_nil, updL_nil, newU, List.append_nil]; (try ((refine okTr_and ?_ ?_); (· rfl))))
      refine CallK.p (ref04_Bytes x x0 x1) ?_
      (simp only [aReg_cons, aReg_guard, gdF_tt, setD_some, ev_tmp, ev_const, ev_func, ofC_bool, e_mov, e_pick, e_bin, e_call, e_len, kPick_lit, kBin_int, i_eql, call_fn, len_sl, kReg_go, List.getD_cons_zero, List.getD_cons_succ, List.set_cons_zero, List.set_cons_succ, List.map_nil, List.nil_append, List.cons_append, List.append_nil, updL_nil, newU, List.append_nil, cond_true, beq_self_eq_true, ints_length]; (try ((refine okTr_and ?_ ?_); (· rfl))))
      refine CallK.p (live04) ?_
      (simp only [qSeq_normal, aw_ret, aReg_nil, aReg_cons, setD_some, ev_tmp, ev_const, ofC_bool, e_mov, e_pick, kPick_lit, okTr_nil, kReg_go, List.getD_cons_zero, List.getD_cons_succ, List.set_cons_zero, List.set_cons_succ, List.map_nil, List.nil_append, List.cons_append, List.append_nil, updL_nil, newU, true_and, List.append_nil, cond_true, qFin_ret]; (try ((refine okTr_and ?_ ?_); (· rfl))))
      ((refine FinK.fin r17 [] ?_ ?_ ?_ ?_ ?_ ?_); (· decide); (· rfl); (· simp); (· rfl); (· first | rfl | simp [ints_nil, ren_lit, ren_ref, ren_any, ren_agg, ren_tup, ren_sl, ren_fn, tren_none, tren_full, tren_row, oren_cells, oren_row, oren_dead, ixs_z, ixs_1, ixs_2, ixs_3, ren_ints, List.map_cons, List.map_nil]); (· simp [resAL, resA1, oneOr, ren_lit]))
    · have q1 : ((((WS.new k).put m).put (vb x)).code == 0) = false := by simpa using c1
      have q2 : decide ((m.length : Int) + (vb x).length ≤ max k 0) = false := by simpa using c3
      (simp only [qSeq_normal, cdK_false, aw_skip, aw_reg, aw_seq, aw_cond, aReg_nil, aReg_cons, aReg_guard, gdF_ff, gdF_ft, setD_some, ev_tmp, ev_const, ev_func, ofC_bool, e_mov, e_pick, e_call, kPick_lit, call_fn, okTr_nil, kReg_go, List.getD_cons_zero, List.getD_cons_succ, List.set_cons_zero, List.set_cons_succ, List.map_cons, List.map_nil, List.nil_append, List.cons_append, List.append_nil, updL_nil, newU, true_and, List.append_nil, Bool.not_true, cond_false, beq_self_eq_true, q1, q2]; (try ((refine okTr_and ?_ ?_); (· rfl))))
      refine CallK.p (varint_Bytes x x0 x1) ?_
      (simp only [aReg_cons, setD_some, ev_tmp, ev_func, e_mov, e_call, call_fn, kReg_go, List.getD_cons_zero, List.getD_cons_succ, List.set_cons_zero, List.set_cons_succ, List.map_cons, List.map_nil, List.nil_append, List.cons_append, List.append_nil, updL_nil, newU, List.append_nil]; (try ((refine okTr_and ?_ ?_); (· rfl))))
      refine CallK.p (ref04_Bytes x x0 x1) ?_
      (simp only [aReg_cons, setD_some, ev_tmp, ev_func, e_call, call_fn, kReg_go, List.getD_cons_zero, List.getD_cons_succ, List.set_cons_zero, List.set_cons_succ, List.map_cons, List.map_nil, List.nil_append, List.cons_append, List.append_nil, updL_nil, newU, List.append_nil]; (try ((refine okTr_and ?_ ?_); (· rfl))))
      refine CallK.p (ref02_Same (vb x) (vb x) hvb hvb) ?_
      (simp only [aReg_cons, aReg_guard, gdF_tt, setD_some, ev_tmp, ev_func, e_mov, e_call, call_fn, kReg_go, List.getD_cons_zero, List.getD_cons_succ, List.set_cons_zero, List.set_cons_succ, List.map_cons, List.map_nil, List.nil_append, List.cons_append, List.append_nil, updL_nil, newU, List.append_nil, hsame2]; (try ((refine okTr_and ?_ ?_); (· rfl))))
      refine CallK.p (varint_Size x x0 x1) ?_
      (simp only [aReg_guard, gdF_tt, setD_some, ev_tmp, ev_func, e_mov, e_call, call_fn, kReg_go, List.getD_cons_zero, List.getD_cons_succ, List.set_cons_zero, List.set_cons_succ, List.map_cons, List.map_nil, List.nil_append, List.cons_append, List.append_nil, updL_nil, newU, List.append_nil]; (try ((refine okTr_and ?_ ?_); (· rfl))))
      refine CallK.p (ref04_Bytes x x0 x1) ?_
      (simp only [aReg_cons, aReg_guard, gdF_tt, setD_some, ev_tmp, ev_const, ev_func, ofC_bool, e_mov, e_pick, e_bin, e_call, e_len, kPick_lit, kBin_int, i_eql, call_fn, len_sl, kReg_go, List.getD_cons_zero, List.getD_cons_succ, List.set_cons_zero, List.set_cons_succ, List.map_nil, List.nil_append, List.cons_append, List.append_nil, updL_nil, newU, List.append_nil, cond_true, beq_self_eq_true, ints_length]; (try ((refine okTr_and ?_ ?_); (· rfl))))
      refine CallK.p (live04) ?_
      (simp only [qSeq_normal, aw_ret, aReg_nil, aReg_cons, setD_some, ev_tmp, ev_const, ofC_bool, e_mov, e_pick, kPick_lit, okTr_nil, kReg_go, List.getD_cons_zero, List.getD_cons_succ, List.set_cons_zero, List.set_cons_succ, List.map_nil, List.nil_append, List.cons_append, List.append_nil, updL_nil, newU, true_and, List.append_nil, cond_true, qFin_ret]; (try ((refine okTr_and ?_ ?_); (· rfl))))
      ((refine FinK.fin r17 [] ?_ ?_ ?_ ?_ ?_ ?_); (· decide); (· rfl); (· simp); (· rfl); (· first | rfl | simp [ints_nil, ren_lit, ren_ref, ren_any, ren_agg, ren_tup, ren_sl, ren_fn, tren_none, tren_full, tren_row, oren_cells, oren_row, oren_dead, ixs_z, ixs_1, ixs_2, ixs_3, ren_ints, List.map_cons, List.map_nil]); (· simp [resAL, resA1, oneOr, ren_lit]))
end Go.Proofs.Ytgphhganepjaiaa
