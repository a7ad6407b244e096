/-
  Contracts of the cursor's reading functions and of varint's.
-/
import Derived.Test.YtgphhganepjaiaaK0
namespace Go.Proofs.Ytgphhganepjaiaa
open Go.RowKit

abbrev u8A (n : Int) : AV := .lit (.int .u8 n)
theorem u8_in_list {l : List Int} (i : Nat) (h : i < l.length) : (ints .u8 l).getD i .any = u8A (l.getD i 0) := ints_getD .u8 l i h

theorem Reader_Byte0 (s : RS) (hs : s.ok) : Does Try.prog 133 [.ref 0 0] [rdr s] (u8A s.byte.2) [rdr s.byte.1] := by
  refine Does.run Try.func133 b133 n133 Try.ntmps133 (by simp only [List.cons_append, List.nil_append, List.length_cons, List.length_nil, Nat.zero_add, Nat.reduceSub, List.replicate]; rfl) ?_; simp only [c133, qSeq_normal, aw_reg, aw_seq, aReg_nil, aReg_cons, setD_some, ev_tmp, ev_const, ev_func, ofC_int, e_mov, e_call, call_fn, okTr_nil, kReg_go, List.getD_cons_zero, List.getD_cons_succ, List.set_cons_zero, List.set_cons_succ, List.map_cons, List.map_nil, List.length_cons, List.length_nil, List.nil_append, List.append_nil, updL_nil, newU, Nat.zero_add, true_and, List.append_nil]; (try ((refine okTr_and ?_ ?_); (· rfl)))
  refine CallK.u1 (Reader_Skip s 1 0 hs) rfl ?_
  (simp only [qSeq_normal, aw_cond, aReg_nil, aReg_cons, setD_some, ev_tmp, e_un, un_not, okTr_nil, kReg_go, List.getD_cons_zero, List.getD_cons_succ, List.set_cons_zero, List.set_cons_succ, List.map_cons, List.map_nil, List.nil_append, List.cons_append, List.append_nil, updL_nil, updL_cons, newU, true_and, List.append_nil]; (try ((refine okTr_and ?_ ?_); (· rfl))))
  refine cdK_split (fun h => ?_) (fun h => ?_)
  · have h' : ¬ (s.skip 1).2 = true := by simpa using h
    (simp only [qSeq_normal, qSeq_ret, aw_reg, aw_seq, aw_ret, aReg_nil, aReg_cons, setD_some, ev_const, ofC_int, e_mov, okTr_nil, kReg_go, List.set_cons_zero, List.set_cons_succ, List.map_nil, List.nil_append, List.append_nil, updL_nil, newU, true_and, List.append_nil, qFin_ret]; (try ((refine okTr_and ?_ ?_); (· rfl))))
    ((refine FinK.fin r133 [0] ?_ ?_ ?_ ?_ ?_ ?_); (· decide); (· rfl); (· simp); (· rfl); (· first | rfl | simp [ren_lit, ren_sl, tren_full, oren_cells, ren_ints, List.map_cons, List.map_nil, rdr, RS.byte, h']); (· simp [resAL, resA1, oneOr, ren_lit, rdr, RS.byte, h']))
  · have h' : (s.skip 1).2 = true := by simpa using h
    obtain ⟨h1, h2, h3, h4⟩ := skip_yes h'
    obtain ⟨a, b, c⟩ := hs
    unfold RS.left at h3
    have e : IntKind.i64.wrap (s.at_ + 1 - 1) = s.at_ := by rw [IntWalk.i64_in _ (by omega)]; omega
    have eq1 : s.at_.toNat < s.l.length := by omega
    have eq2 : s.at_ < s.l.length := by omega
    (simp only [qSeq_normal, aw_skip, aw_reg, aw_seq, aw_ret, aReg_nil, aReg_cons, setD_some, ev_tmp, ev_const, ofC_int, cells_lit, e_mov, e_load, e_nilc, e_bin, e_fadr, e_iadr, kBin_int, i_sub, l_iptr1, l_ref, nil_ref, fadr_ref, iadr_sl, kReg_go, List.getD_cons_zero, List.getD_cons_succ, List.set_cons_zero, List.set_cons_succ, List.getElem?_cons_zero, List.getElem?_cons_succ, List.map_nil, List.nil_append, List.cons_append, List.append_nil, updL_nil, newU, Nat.zero_add, Nat.add_zero, true_and, List.append_nil, qFin_ret, h4, rdr, e, ints_length, u8_in_list _ eq1, a, eq2]; (try ((refine okTr_and ?_ ?_); (· rfl))))
    ((refine FinK.fin r133 [0] ?_ ?_ ?_ ?_ ?_ ?_); (· decide); (· rfl); (· simp); (· rfl); (· first | rfl | simp [ren_lit, ren_sl, tren_full, oren_cells, ren_ints, List.map_cons, List.map_nil, RS.byte, h', h4]); (· simp [resAL, resA1, oneOr, ren_lit, RS.byte, h', h4]))
theorem Reader_Byte (s : RS) (i : Nat) (hs : s.ok) : Ct Try.prog 133 [.ref i 0] [(i, rdr s)] (fun _ => u8A s.byte.2) [(i, rdr s.byte.1)] (fun _ => []) := Ct.u1 (Reader_Byte0 s hs) i (by intros; simp [ren_ref, ixs_z, List.map_cons, List.map_nil]) (fun ρ => rdr_ren ρ s) (fun ρ => rdr_ren ρ _) (rdr_dead s) (by intros; simp [ren_lit])

theorem cursor_New0 (l : List Int) : Does Try.prog 73 [slA .u8 l] [] (.ref 0 0) [rdr (RS.new l)] := by
  have e : (ints .u8 l).take l.length = ints .u8 l := List.take_of_length_le (by simp [ints])
  refine Does.run Try.func73 b73 n73 Try.ntmps73 (by simp only [List.cons_append, List.nil_append, List.length_cons, List.length_nil, Nat.zero_add, Nat.reduceSub, List.replicate]; rfl) ?_; simp only [c73, qSeq_normal, aw_reg, aw_seq, aw_ret, aReg_nil, aReg_cons, setD_some, ev_tmp, ev_const, ofC_ptr, ofC1_int, ofC1_nil, parts_sl, splice_nil, splice_cons, e_mov, e_box, e_build, e_slice, e_len, kBox_agg, kBuild_eq, fillA_nil, fillA_cons, len_sl, okTr_nil, sli_hm, kReg_go, List.getD_cons_zero, List.getD_cons_succ, List.set_cons_zero, List.set_cons_succ, List.map_cons, List.map_nil, List.length_cons, List.length_nil, List.nil_append, List.cons_append, List.append_nil, updL_nil, newU, Nat.reduceAdd, Nat.zero_add, Option.map_some, Option.map_none, and_true, true_and, Nat.reduceLeDiff, Int.le_refl, List.append_nil, ↓reduceIte, true_or, qFin_ret, ints_length, sli_hm, Int.toNat_natCast, e]; (try ((refine okTr_and ?_ ?_); (· rfl)))
  (repeat ((with_reducible refine And.intro ?_ ?_); (· first | assumption | rfl | omega | (simp [ints_length, okEl_eq, AV.parts]; done) | (simp [ints_length, okEl_eq, AV.parts]; omega))))
  ((refine FinK.fin r73 [0] ?_ ?_ ?_ ?_ ?_ ?_); (· decide); (· rfl); (· simp); (· rfl); (· first | rfl | simp [ren_lit, ren_sl, tren_full, oren_cells, ren_ints, List.map_cons, List.map_nil, rdr, RS.new]); (· simp [resAL, resA1, oneOr, ren_ref, ixs_z]))
theorem cursor_New (l : List Int) : Ct Try.prog 73 [slA .u8 l] [] (fun n => .ref n 0) [] (fun _ => [rdr (RS.new l)]) := Ct.n (cursor_New0 l) (by intros; simp [ren_sl, tren_none, ren_ints, List.map_cons, List.map_nil]) (by intros; simp [ren_ref, ixs, List.range'_succ]) (by intros; simp [List.map_cons, List.map_nil, List.range'_succ, rdr_ren])

theorem Reader_Take0 (s : RS) (n : Int) (hs : s.ok) : Does Try.prog 137 [.ref 0 0, iA n] [rdr s] (slA .u8 (s.take n).2) [rdr (s.take n).1] := by
  refine Does.run Try.func137 b137 n137 Try.ntmps137 (by simp only [List.cons_append, List.nil_append, List.length_cons, List.length_nil, Nat.zero_add, Nat.reduceAdd, Nat.reduceSub, List.replicate]; rfl) ?_; simp only [c137, qSeq_normal, aw_reg, aw_seq, aReg_nil, aReg_cons, setD_some, ev_tmp, ev_const, ev_func, ofC_nil, e_mov, e_call, call_fn, okTr_nil, kReg_go, List.getD_cons_zero, List.getD_cons_succ, List.set_cons_zero, List.set_cons_succ, List.map_cons, List.map_nil, List.length_cons, List.length_nil, List.nil_append, List.cons_append, List.append_nil, updL_nil, newU, Nat.zero_add, true_and, List.append_nil]; (try ((refine okTr_and ?_ ?_); (· rfl)))
  refine CallK.u1 (Reader_Skip s n 0 hs) rfl ?_
  (simp only [qSeq_normal, aw_cond, aReg_nil, aReg_cons, setD_some, ev_tmp, e_un, un_not, okTr_nil, kReg_go, List.getD_cons_zero, List.getD_cons_succ, List.set_cons_zero, List.set_cons_succ, List.map_cons, List.map_nil, List.nil_append, List.cons_append, List.append_nil, updL_nil, updL_cons, newU, true_and, List.append_nil]; (try ((refine okTr_and ?_ ?_); (· rfl))))
  refine cdK_split (fun h => ?_) (fun h => ?_)
  · have h' : ¬ (s.skip n).2 = true := by simpa using h
    (simp only [qSeq_normal, qSeq_ret, aw_reg, aw_seq, aw_ret, aReg_nil, aReg_cons, setD_some, ev_const, ofC_nil, e_mov, okTr_nil, kReg_go, List.set_cons_zero, List.set_cons_succ, List.map_nil, List.nil_append, List.append_nil, updL_nil, newU, true_and, List.append_nil, qFin_ret]; (try ((refine okTr_and ?_ ?_); (· rfl))))
    (refine FinK.untag 4 rfl ?_; simp only [untag1_sl, List.set_cons_zero, List.set_cons_succ])
    ((refine FinK.fin r137 [0] ?_ ?_ ?_ ?_ ?_ ?_); (· decide); (· rfl); (· simp); (· rfl); (· first | rfl | simp [ren_lit, ren_sl, tren_full, oren_cells, ren_ints, List.map_cons, List.map_nil, rdr, RS.take, h']); (· simp [resAL, resA1, oneOr, ints_nil, ren_sl, tren_none, List.map_nil, rdr, RS.take, h']))
  · have h' : (s.skip n).2 = true := by simpa using h
    obtain ⟨h1, h2, h3, h4⟩ := skip_yes h'
    obtain ⟨a, b, c⟩ := hs
    unfold RS.left at h3
    have e : IntKind.i64.wrap (s.at_ + n - n) = s.at_ := by rw [IntWalk.i64_in _ (by omega)]; omega
    have e2 : (s.at_ + n - s.at_).toNat = n.toNat := by congr 1; omega
    (simp only [qSeq_normal, aw_skip, aw_reg, aw_seq, aw_ret, aReg_nil, aReg_cons, setD_some, ev_tmp, e_mov, e_bsl, e_load, e_nilc, e_bin, e_slice, e_fadr, e_app, kBin_int, i_sub, kBsl_eq, l_ref, nil_ref, fadr_ref, app_full, sli_lh, kReg_go, List.getD_cons_zero, List.getD_cons_succ, List.set_cons_zero, List.set_cons_succ, List.getElem?_cons_zero, List.getElem?_cons_succ, List.map_cons, List.map_nil, List.length_cons, List.length_nil, List.nil_append, List.cons_append, List.append_nil, updL_nil, newU, Nat.zero_add, Nat.add_zero, Option.map_some, Option.map_none, true_and, List.append_nil, or_true, true_or, List.all_nil, qFin_ret, h4, rdr, e, e2, ints_length, a, ints_take, ints_drop]; (try ((refine okTr_and ?_ ?_); (· rfl))))
    (repeat ((with_reducible refine And.intro ?_ ?_); (· first | assumption | rfl | omega | (simp; done) | (simp; omega))))
    (refine FinK.untag 4 rfl ?_; simp only [untag1_sl, List.set_cons_zero, List.set_cons_succ])
    ((refine FinK.fin r137 [0] ?_ ?_ ?_ ?_ ?_ ?_); (· decide); (· rfl); (· simp); (· rfl); (· first | rfl | simp [ren_lit, ren_sl, tren_full, oren_cells, ren_ints, List.map_cons, List.map_nil, RS.take, h', h4]); (· simp [resAL, resA1, oneOr, ren_sl, tren_none, ren_ints, RS.take, h', h4]))
theorem Reader_Take (s : RS) (n : Int) (i : Nat) (hs : s.ok) : Ct Try.prog 137 [.ref i 0, iA n] [(i, rdr s)] (fun _ => slA .u8 (s.take n).2) [(i, rdr (s.take n).1)] (fun _ => []) := Ct.u1 (Reader_Take0 s n hs) i (by intros; simp [ren_lit, ren_ref, ixs_z, List.map_cons, List.map_nil]) (fun ρ => rdr_ren ρ s) (fun ρ => rdr_ren ρ _) (rdr_dead s) (by intros; simp [ren_sl, tren_none, ren_ints])

theorem shr7 {y : Int} : y.fdiv (2 ^ min 7 IntKind.u64.bits) = y / 128 := by
  rw [show (2 : Int) ^ min 7 IntKind.u64.bits = 128 from rfl, Int.fdiv_eq_ediv_of_nonneg _ (by omega)]
theorem varint_Size0 (x : Int) (h0 : 0 ≤ x) (h1 : x < 18446744073709551616) : Does Try.prog 72 [uA x] [] (iA (vb x).length) [] := by
  refine Does.run Try.func72 b72 n72 Try.ntmps72 (by simp only [List.cons_append, List.nil_append, List.length_cons, List.length_nil, Nat.zero_add, Nat.reduceSub, List.replicate]; rfl) ?_; simp only [c72, qSeq_normal, aw_reg, aw_seq, aw_block, aReg_nil, aReg_cons, setD_some, ev_const, ofC_int, e_mov, okTr_nil, kReg_go, List.set_cons_zero, List.set_cons_succ, List.map_nil, List.length_nil, List.nil_append, List.append_nil, updL_nil, newU, true_and, List.append_nil]; (try ((refine okTr_and ?_ ?_); (· rfl)))
  have hl := (vb_len x).2
  refine loop_of (α := Int × Int) (fun a => [uA a.1, .any, iA 0, iA a.2, .any, .any, .any, .any, .any, .any, .any]) (fun _ => []) (fun a => 0 ≤ a.1 ∧ a.1 < 18446744073709551616 ∧ 1 ≤ a.2 ∧ a.2 + (vb a.1).length = 1 + (vb x).length) (fun a => a.1.toNat) (x, 1) ⟨h0, h1, Int.le_refl _, rfl⟩ (Wk.forget (by simp [leT])) ?_
  rintro ⟨y, k⟩ ⟨y0, y1, k0, hk⟩
  simp only at y0 y1 k0 hk
  have hy := (vb_len y).1
  (simp only [qSeq_normal, aw_reg, aw_seq, aw_cond, aReg_nil, aReg_cons, setD_some, ev_tmp, ev_const, ofC_int, e_mov, e_bin, kBin_int, i_geq, okTr_nil, kReg_go, List.getD_cons_zero, List.getD_cons_succ, List.set_cons_zero, List.set_cons_succ, List.map_nil, List.nil_append, List.cons_append, List.append_nil, updL_nil, newU, true_and, List.append_nil]; (try ((refine okTr_and ?_ ?_); (· rfl))))
  refine cdK_split (fun h => ?_) (fun h => ?_)
  · have hy2 : 128 ≤ y := by simpa using h
    have ew : IntKind.i64.wrap (k + 1) = k + 1 := IntWalk.i64_in _ (by omega)
    have eb := vb_ge hy2 y1
    (simp only [qLoop_normal, qSeq_normal, qBlock_normal, aw_skip, aw_reg, aw_seq, aw_block, aReg_nil, aReg_cons, setD_some, ev_tmp, ev_const, ofC_int, e_mov, e_bin, kBin_int, i_add, i_shr, okTr_nil, kReg_go, List.getD_cons_zero, List.getD_cons_succ, List.set_cons_zero, List.set_cons_succ, List.map_nil, List.nil_append, List.cons_append, List.append_nil, updL_nil, newU, true_and, Int.reduceToNat, Int.reduceLE, List.append_nil, shr7, ew]; (try ((refine okTr_and ?_ ?_); (· rfl))))
    (repeat ((with_reducible refine And.intro ?_ ?_); (· first | assumption | rfl | omega | (simp [ints_length, okEl_eq, AV.parts]; done) | (simp [ints_length, okEl_eq, AV.parts]; omega))))
    refine ⟨(y / 128, k + 1), ⟨by simp only; omega, by simp only; omega, by simp only; omega, ?_⟩, by simp only; omega, Wk.forget (by simp [leT])⟩
    rw [eb] at hk; simp at hk ⊢; omega
  · have hy2 : y < 128 := by simpa using h
    have eb := vb_lt hy2
    rw [eb] at hk
    have ek : k = (vb x).length := by simp at hk; omega
    (simp only [qLoop_exit, qSeq_normal, qSeq_exit, qBlock_exit, aw_reg, aw_seq, aw_exit, aw_ret, aReg_nil, aReg_cons, setD_some, ev_tmp, e_mov, okTr_nil, kReg_go, List.getD_cons_zero, List.getD_cons_succ, List.set_cons_zero, List.set_cons_succ, List.map_nil, List.nil_append, List.cons_append, List.append_nil, updL_nil, newU, true_and, List.append_nil, ↓reduceIte, qFin_ret]; (try ((refine okTr_and ?_ ?_); (· rfl))))
    ((refine FinK.fin r72 [] ?_ ?_ ?_ ?_ ?_ ?_); (· decide); (· rfl); (· simp); (· rfl); (· first | rfl | simp [ints_nil, ren_lit, ren_ref, ren_any, ren_agg, ren_tup, ren_sl, ren_fn, tren_none, tren_full, tren_row, oren_cells, oren_row, oren_dead, ixs_z, ixs_1, ixs_2, ixs_3, ren_ints, List.map_cons, List.map_nil, ek]); (· simp [resAL, resA1, oneOr, ren_lit, ek]))
theorem varint_Size (x : Int) (h0 : 0 ≤ x) (h1 : x < 18446744073709551616) : Ct Try.prog 72 [uA x] [] (fun _ => iA (vb x).length) [] (fun _ => []) := (varint_Size0 x h0 h1).toCt (by intros; simp [ren_lit, List.map_cons, List.map_nil]) (by intros; simp [ren_lit])

theorem or128_of {y : Int} (_h0 : 0 ≤ y) : bitsI .or .u8 (IntKind.u8.wrap y) 128 = 128 + y % 128 := by
  rw [IntKind.wrap_u8]
  show bits .or .u8 (y % 256) 128 = _
  rw [u8_or _ _ (by omega) (by omega) (by omega) (by omega)]
  have := or128 ⟨(y % 256).toNat, by omega⟩
  simp only at this
  rw [show (128 : Int).toNat = 128 from rfl, this]
  omega
theorem varint_Bytes0 (x : Int) (h0 : 0 ≤ x) (h1 : x < 18446744073709551616) : Does Try.prog 65 [uA x] [] (slA .u8 (vb x)) [] := by
  refine Does.run Try.func65 b65 n65 Try.ntmps65 (by simp only [List.cons_append, List.nil_append, List.length_cons, List.length_nil, Nat.zero_add, Nat.reduceSub, List.replicate]; rfl) ?_; simp only [c65, qSeq_normal, aw_reg, aw_seq, aw_block, aReg_nil, aReg_cons, setD_some, ev_const, ofC_nil, e_mov, okTr_nil, kReg_go, List.set_cons_zero, List.set_cons_succ, List.map_nil, List.length_nil, List.nil_append, List.append_nil, updL_nil, newU, true_and, List.append_nil]; (try ((refine okTr_and ?_ ?_); (· rfl)))
  have hl := (vb_len x).2
  refine loop_of (α := Int × List Int) (fun a => [uA a.1, .any, .any, .sl (.row 0) 1 (ints .u8 a.2), .any, .any, .any, .any, .any, .any, .any, .any, .any, .any, .any, .any, .any, .any, .any]) (fun a => [.row 1 a.2.length]) (fun a => 0 ≤ a.1 ∧ a.1 < 18446744073709551616 ∧ a.2 ++ vb a.1 = vb x) (fun a => a.1.toNat) (x, []) ⟨h0, h1, rfl⟩ ((Wk.row 3 1 rfl (.inl rfl) (Nat.le_refl _)).trans (Wk.forget (by simp [leT, ints]))) ?_
  rintro ⟨y, m⟩ ⟨y0, y1, hk⟩
  simp only at y0 y1 hk
  have hm : m.length ≤ 10 := by rw [← hk] at hl; simp at hl; omega
  (simp only [qSeq_normal, aw_reg, aw_seq, aw_cond, aReg_nil, aReg_cons, setD_some, ev_tmp, ev_const, ofC_int, e_mov, e_bin, kBin_int, i_geq, okTr_nil, kReg_go, List.getD_cons_zero, List.getD_cons_succ, List.set_cons_zero, List.set_cons_succ, List.map_nil, List.nil_append, List.cons_append, List.append_nil, updL_nil, newU, true_and, List.append_nil]; (try ((refine okTr_and ?_ ?_); (· rfl))))
  refine cdK_split (fun h => ?_) (fun h => ?_)
  · have hy2 : 128 ≤ y := by simpa using h
    have eb := vb_ge hy2 y1
    have e1 : [u8A (128 + y % 128)] = ints .u8 [128 + y % 128] := rfl
    (simp only [qLoop_normal, qSeq_normal, qBlock_normal, aw_skip, aw_reg, aw_seq, aw_block, aReg_nil, aReg_cons, setD_some, ev_tmp, ev_const, ofC_int, e_mov, e_bsl, e_bin, e_cvt, e_app, kBin_int, i_or, i_shr, kBsl_eq, cvt_int, app_row, okTr_nil, kReg_go, List.getD_cons_zero, List.getD_cons_succ, List.set_cons_zero, List.set_cons_succ, List.getElem?_cons_zero, List.map_cons, List.map_nil, List.length_cons, List.length_nil, List.nil_append, List.cons_append, List.append_nil, updL_nil, updL_cons, newU, Nat.zero_add, true_and, Int.reduceToNat, Int.reduceLE, List.append_nil, true_or, ints_okEl, shr7, or128_of y0, e1, ints_append, ints_length]; (try ((refine okTr_and ?_ ?_); (· rfl))))
    (repeat ((with_reducible refine And.intro ?_ ?_); (· first | assumption | rfl | omega | (simp [ints_length, okEl_eq, AV.parts]; done) | (simp [ints_length, okEl_eq, AV.parts]; omega))))
    refine ⟨(y / 128, m ++ [128 + y % 128]), ⟨by simp only; omega, by simp only; omega, ?_⟩, by simp only; omega, Wk.to (by simp) (by simp [leT])⟩
    rw [← hk, eb]; simp
  · have hy2 : y < 128 := by simpa using h
    have eb := vb_lt hy2
    rw [eb] at hk
    have ew : IntKind.u8.wrap y = y := IntWalk.u8_in _ (by omega)
    have e1 : [u8A y] = ints .u8 [y] := rfl
    (simp only [qLoop_exit, qSeq_normal, qSeq_exit, qBlock_exit, aw_reg, aw_seq, aw_exit, aw_ret, aReg_nil, aReg_cons, setD_some, ev_tmp, e_mov, e_bsl, e_cvt, e_app, kBsl_eq, cvt_int, app_row, okTr_nil, kReg_go, List.getD_cons_zero, List.getD_cons_succ, List.set_cons_zero, List.set_cons_succ, List.getElem?_cons_zero, List.map_cons, List.map_nil, List.length_cons, List.length_nil, List.nil_append, List.cons_append, List.append_nil, updL_nil, updL_cons, newU, Nat.zero_add, true_and, List.append_nil, ↓reduceIte, true_or, ints_okEl, qFin_ret, ew, e1, ints_append, ints_length]; (try ((refine okTr_and ?_ ?_); (· rfl))))
    (repeat ((with_reducible refine And.intro ?_ ?_); (· first | assumption | rfl | omega | (simp [ints_length, okEl_eq, AV.parts]; done) | (simp [ints_length, okEl_eq, AV.parts]; omega))))
    (refine FinK.untag 2 rfl ?_; simp only [untag1_sl, List.set_cons_zero, List.set_cons_succ])
    ((refine FinK.fin r65 [] ?_ ?_ ?_ ?_ ?_ ?_); (· decide); (· rfl); (· simp); (· rfl); (· first | rfl | simp [ints_nil, ren_lit, ren_ref, ren_any, ren_agg, ren_tup, ren_sl, ren_fn, tren_none, tren_full, tren_row, oren_cells, oren_row, oren_dead, ixs_z, ixs_1, ixs_2, ixs_3, ren_ints, List.map_cons, List.map_nil, hk]); (· simp [resAL, resA1, oneOr, ren_sl, tren_none, ren_ints, hk]))
theorem varint_Bytes (x : Int) (h0 : 0 ≤ x) (h1 : x < 18446744073709551616) : Ct Try.prog 65 [uA x] [] (fun _ => slA .u8 (vb x)) [] (fun _ => []) := (varint_Bytes0 x h0 h1).toCt (by intros; simp [ren_lit, List.map_cons, List.map_nil]) (by intros; simp [ren_sl, tren_none, ren_ints, ren_ints])
end Go.Proofs.Ytgphhganepjaiaa
