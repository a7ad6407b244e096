/-
  Contracts of varint's reading functions.
-/
import Derived.Test.YtgphhganepjaiaaK1
namespace Go.Proofs.Ytgphhganepjaiaa
open Go.RowKit

theorem adv0 (s : RS) : s.adv 0 = s := by simp [RS.adv]
theorem RS.ok.adv {s : RS} (h : s.ok) {i : Nat} (hi : i ≤ s.rest.length) : (s.adv i).ok := by
  obtain ⟨a, b, c⟩ := h
  have := rest_len s a b
  exact ⟨by show 0 ≤ s.at_ + (i : Int); omega, by show s.at_ + (i : Int) ≤ s.l.length; omega, c⟩
theorem adv_good (s : RS) (i : Int) : (s.adv i).good = (s.code == 0) := rfl
theorem adv_at (s : RS) (i : Int) : (s.adv i).at_ = s.at_ + i := rfl

theorem or_join' (i : Nat) (hi : i ≤ 9) (x c : Int) (h0 : 0 ≤ x) (h1 : x < 128 ^ i) (c0 : 0 ≤ c) (c1 : c < 128) (c2 : i = 9 → c ≤ 1) :
    bitsI .or .u64 x (IntKind.u64.wrap (IntKind.u64.wrap c * 2 ^ min (7 * (i : Int)).toNat IntKind.u64.bits)) = x + 128 ^ i * c := by
  have e1 : IntKind.u64.wrap c = c := IntWalk.u64_in _ (by omega)
  have e2 : min (7 * (i : Int)).toNat IntKind.u64.bits = 7 * i := by
    have : IntKind.u64.bits = 64 := rfl
    omega
  rw [e1, e2]
  exact (or_join i hi x c h0 h1 c0 c1 c2).1
set_option maxRecDepth 100000 in
theorem varint_Read0 (s : RS) (hs : s.ok) (hb : Bys s.l) : Does Try.prog 85 [.ref 0 0] [rdr s] (uA s.vint.2) [rdr s.vint.1] := by
  have hs0 := hs
  obtain ⟨a, b, c⟩ := hs
  refine Does.run Try.func85 b85 n85 Try.ntmps85 (by simp only [List.cons_append, List.nil_append, List.length_cons, List.length_nil, Nat.zero_add, Nat.reduceSub, List.replicate]; rfl) ?_; simp only [c85, qSeq_normal, aw_reg, aw_seq, aReg_nil, aReg_cons, setD_some, ev_const, ofC_int, e_mov, okTr_nil, kReg_go, List.set_cons_zero, List.set_cons_succ, List.map_nil, List.length_cons, List.length_nil, List.nil_append, List.append_nil, updL_nil, newU, Nat.zero_add, true_and, List.append_nil]; (try ((refine okTr_and ?_ ?_); (· rfl)))
  refine scope_of (α := Nat × Int) 0 (by rfl) (fun a => [.ref 0 0, .any, uA 0, uA a.2, .any, iA (7 * (a.1 : Int)), iA s.at_, .any, .any, .any, .any, .any, .any, .any, .any, .any, .any, .any, .any, .any, .any, .any, .any, .any, .any, .any, .any, .any, .any, .any, .any, .any, .any, .any, .any, .any, .any, .any, .any, .any, .any, .any, .any, .any, .any, .any, .any, .any, .any, .any, .any, .any, .any, .any]) (fun a => [rdr (s.adv a.1)])
    (fun a => a.1 ≤ 9 ∧ (s.code ≠ 0 → a.1 = 0) ∧ 0 ≤ a.2 ∧ a.2 < 128 ^ a.1 ∧ Upto s a.1 a.2 ∧ a.1 ≤ s.rest.length) (fun a => 10 - a.1) (fun pass => ?_) ?_
  · (simp only [qSeq_normal, aw_reg, aw_seq, aReg_nil, aReg_cons, setD_some, ev_tmp, ev_const, ev_func, ofC_int, e_mov, e_call, call_fn, okTr_nil, kReg_go, List.getD_cons_zero, List.getD_cons_succ, List.set_cons_zero, List.set_cons_succ, List.map_cons, List.map_nil, List.nil_append, List.append_nil, updL_nil, newU, true_and, List.append_nil]; (try ((refine okTr_and ?_ ?_); (· rfl))))
    refine CallK.r1 (Reader_At s 0) rfl ?_
    (simp only [qSeq_normal, aw_seq, aw_label, aReg_nil, aReg_cons, setD_some, ev_tmp, ev_const, ofC_int, e_mov, okTr_nil, kReg_go, List.getD_cons_zero, List.getD_cons_succ, List.set_cons_zero, List.set_cons_succ, List.map_nil, List.nil_append, List.cons_append, List.append_nil, updL_nil, newU, true_and, List.append_nil]; (try ((refine okTr_and ?_ ?_); (· rfl))))
    refine kLab_go (Wk.to ?_ ?_) (pass (0, 0) ⟨by simp, fun _ => rfl, by simp, by simp, upto_zero s hb, by simp⟩)
    · simp [adv0]
    · simp [leT]
  · rintro ⟨i, x⟩ ⟨hi9, hci, x0, x1, hu, hir⟩
    simp only at hi9 hci x0 x1 hu hir
    have hrl := rest_len s a b
    (simp only [qSeq_normal, aw_skip, aw_reg, aw_seq, aReg_cons, setD_some, ev_tmp, ev_func, e_mov, e_call, call_fn, kReg_go, List.getD_cons_zero, List.getD_cons_succ, List.set_cons_zero, List.set_cons_succ, List.map_cons, List.map_nil, List.nil_append, List.append_nil, updL_nil, newU, List.append_nil]; (try ((refine okTr_and ?_ ?_); (· rfl))))
    refine CallK.u1 (Reader_Byte (s.adv i) 0 (hs0.adv hir)) rfl ?_
    by_cases hc : s.code = 0
    · cases hd : s.rest.drop i with
      | nil =>
        have hil : s.rest.length ≤ i := by
          rcases Nat.lt_or_ge i s.rest.length with h | h
          · have := congrArg List.length hd; simp at this; omega
          · exact h
        have hB := byte_end s i hc a b (by omega)
        have hv := vint_end hc hu hd
        (simp only [qSeq_normal, aw_reg, aw_seq, aw_block, aReg_nil, aReg_cons, setD_some, ev_tmp, ev_func, e_mov, e_call, call_fn, okTr_nil, kReg_go, List.getD_cons_zero, List.getD_cons_succ, List.set_cons_zero, List.set_cons_succ, List.map_cons, List.map_nil, List.nil_append, List.cons_append, List.append_nil, updL_nil, updL_cons, newU, true_and, List.append_nil, hB]; (try ((refine okTr_and ?_ ?_); (· rfl))))
        refine CallK.r1 (Reader_Good _ 0) rfl ?_
        (simp only [qScoped_ret, qSeq_normal, qSeq_ret, qBlock_ret, cdK_true, aw_reg, aw_seq, aw_cond, aw_ret, aReg_nil, aReg_cons, setD_some, ev_tmp, ev_const, ofC_int, e_mov, e_un, un_not, okTr_nil, kReg_go, List.getD_cons_zero, List.getD_cons_succ, List.set_cons_zero, List.set_cons_succ, List.map_nil, List.nil_append, List.cons_append, List.append_nil, updL_nil, newU, true_and, List.append_nil, Bool.not_false, qFin_ret, RS.good, show ((1 : Int) == 0) = false from rfl]; (try ((refine okTr_and ?_ ?_); (· rfl))))
        ((refine FinK.fin r85 [0] ?_ ?_ ?_ ?_ ?_ ?_); (· decide); (· rfl); (· simp); (· rfl); (· first | rfl | simp [List.map_cons, List.map_nil, hv, rdr_ren]); (· simp [resAL, resA1, oneOr, ren_lit, hv]))
      | cons c t =>
        obtain ⟨hB, hle⟩ := byte_good s i c t hc a b hd
        have hcb : 0 ≤ c ∧ c < 256 := by
          have : c ∈ s.rest.drop i := by rw [hd]; exact List.mem_cons_self ..
          exact hb c (List.mem_of_mem_drop (List.mem_of_mem_drop this))
        have hil : i < s.rest.length := by
          rcases Nat.lt_or_ge i s.rest.length with h | h
          · exact h
          · rw [List.drop_eq_nil_of_le h] at hd; cases hd
        have hg : (s.adv ((i : Int) + 1)).good = true := by rw [adv_good]; simp [hc]
        have hw : IntKind.i64.wrap ((s.adv ((i : Int) + 1)).at_ - 1) = s.at_ + i := by
          rw [adv_at, IntWalk.i64_in _ (by omega)]; omega
        (simp only [qSeq_normal, aw_reg, aw_seq, aw_block, aReg_nil, aReg_cons, setD_some, ev_tmp, ev_func, e_mov, e_call, call_fn, okTr_nil, kReg_go, List.getD_cons_zero, List.getD_cons_succ, List.set_cons_zero, List.set_cons_succ, List.map_cons, List.map_nil, List.nil_append, List.cons_append, List.append_nil, updL_nil, updL_cons, newU, true_and, List.append_nil, hB]; (try ((refine okTr_and ?_ ?_); (· rfl))))
        refine CallK.r1 (Reader_Good _ 0) rfl ?_
        (simp only [qSeq_normal, cdK_false, aw_reg, aw_seq, aw_cond, aReg_nil, aReg_cons, aReg_guard, setD_some, ev_tmp, ev_const, ofC_int, e_mov, e_bin, e_un, kBin_int, i_eql, un_not, okTr_nil, kReg_go, List.getD_cons_zero, List.getD_cons_succ, List.set_cons_zero, List.set_cons_succ, List.map_nil, List.nil_append, List.cons_append, List.append_nil, updL_nil, newU, true_and, List.append_nil, Bool.not_true, hg]; (try ((refine okTr_and ?_ ?_); (· rfl))))
        have t1 : (7 * (i : Int) == 63) = decide (i = 9) := by
          rw [Bool.eq_iff_iff]; simp; omega
        by_cases c1 : i = 9 ∧ 1 < c
        · have hv := vint_over hc hu hd c1.1 c1.2
          have t2 : decide (1 < c) = true := by simpa using c1.2
          have t3 : decide (i = 9) = true := by simpa using c1.1
          (simp only [qSeq_normal, cdK_true, aw_reg, aw_seq, aw_cond, aReg_nil, aReg_cons, aReg_guard, gdF_tt, setD_some, ev_tmp, ev_const, ev_func, ofC_int, ofC_bool, e_mov, e_pick, e_bin, e_call, kPick_lit, kBin_int, i_gtr, call_fn, okTr_nil, kReg_go, List.getD_cons_zero, List.getD_cons_succ, List.set_cons_zero, List.set_cons_succ, List.map_cons, List.map_nil, List.nil_append, List.cons_append, List.append_nil, updL_nil, newU, true_and, List.append_nil, cond_true, t1, t2, t3]; (try ((refine okTr_and ?_ ?_); (· rfl))))
          refine CallK.r1 (Reader_At _ 0) rfl ?_
          (simp only [aReg_cons, setD_some, ev_tmp, ev_const, ev_func, ofC_int, e_bin, e_call, kBin_int, i_sub, call_fn, kReg_go, List.getD_cons_zero, List.getD_cons_succ, List.set_cons_zero, List.set_cons_succ, List.map_cons, List.map_nil, List.nil_append, List.cons_append, List.append_nil, updL_nil, newU, List.append_nil, hw]; (try ((refine okTr_and ?_ ?_); (· rfl))))
          refine CallK.u1 (Reader_Fail _ 5 _ 0) rfl ?_
          (simp only [qScoped_ret, qSeq_normal, qSeq_ret, qBlock_ret, aw_reg, aw_seq, aw_ret, aReg_nil, aReg_cons, setD_some, ev_const, ofC_int, e_mov, okTr_nil, kReg_go, List.set_cons_zero, List.set_cons_succ, List.map_cons, List.map_nil, List.nil_append, List.cons_append, List.append_nil, updL_nil, updL_cons, newU, true_and, List.append_nil, qFin_ret]; (try ((refine okTr_and ?_ ?_); (· rfl))))
          ((refine FinK.fin r85 [0] ?_ ?_ ?_ ?_ ?_ ?_); (· decide); (· rfl); (· simp); (· rfl); (· first | rfl | simp [List.map_cons, List.map_nil, hv, rdr_ren]); (· simp [resAL, resA1, oneOr, ren_lit, hv]))
        · have p1 : (decide (i = 9) = true ∧ decide (1 < c) = false) ∨ (decide (i = 9) = false ∧ True) := by
            simp only [decide_eq_true_eq, decide_eq_false_iff_not, and_true]; omega
          by_cases c2 : 0 < i ∧ c = 0
          · obtain ⟨c2', rfl⟩ := c2
            have hv := vint_min hc hu hd c2'
            have t3 : decide (s.at_ < s.at_ + i) = true := by simp; omega
            rcases p1 with ⟨q1, q2⟩ | ⟨q1, q2⟩ <;>
            · (simp only [qSeq_normal, cdK_false, aw_reg, aw_seq, aw_cond, aReg_nil, aReg_cons, aReg_guard, gdF_tt, gdF_ft, setD_some, ev_tmp, ev_const, ev_func, ofC_int, ofC_bool, e_mov, e_pick, e_bin, e_call, kPick_lit, kBin_int, i_eql, i_gtr, call_fn, okTr_nil, kReg_go, List.getD_cons_zero, List.getD_cons_succ, List.set_cons_zero, List.set_cons_succ, List.map_cons, List.map_nil, List.nil_append, List.cons_append, List.append_nil, updL_nil, newU, true_and, Int.reduceLT, List.append_nil, cond_true, cond_false, decide_false, beq_self_eq_true, t1, q1]; (try ((refine okTr_and ?_ ?_); (· rfl))))
              refine CallK.r1 (Reader_At _ 0) rfl ?_
              (simp only [qSeq_normal, cdK_true, aw_reg, aw_seq, aw_cond, aReg_nil, aReg_cons, aReg_guard, gdF_tt, setD_some, ev_tmp, ev_const, ev_func, ofC_int, ofC_bool, e_mov, e_pick, e_bin, e_call, kPick_lit, kBin_int, i_sub, i_gtr, call_fn, okTr_nil, kReg_go, List.getD_cons_zero, List.getD_cons_succ, List.set_cons_zero, List.set_cons_succ, List.map_cons, List.map_nil, List.nil_append, List.cons_append, List.append_nil, updL_nil, newU, true_and, List.append_nil, cond_true, hw, t3]; (try ((refine okTr_and ?_ ?_); (· rfl))))
              refine CallK.r1 (Reader_At _ 0) rfl ?_
              (simp only [aReg_cons, setD_some, ev_tmp, ev_const, ev_func, ofC_int, e_bin, e_call, kBin_int, i_sub, call_fn, kReg_go, List.getD_cons_zero, List.getD_cons_succ, List.set_cons_zero, List.set_cons_succ, List.map_cons, List.map_nil, List.nil_append, List.cons_append, List.append_nil, updL_nil, newU, List.append_nil, hw]; (try ((refine okTr_and ?_ ?_); (· rfl))))
              refine CallK.u1 (Reader_Fail _ 4 _ 0) rfl ?_
              (simp only [qScoped_ret, qSeq_normal, qSeq_ret, qBlock_ret, aw_reg, aw_seq, aw_ret, aReg_nil, aReg_cons, setD_some, ev_const, ofC_int, e_mov, okTr_nil, kReg_go, List.set_cons_zero, List.set_cons_succ, List.map_cons, List.map_nil, List.nil_append, List.cons_append, List.append_nil, updL_nil, updL_cons, newU, true_and, List.append_nil, qFin_ret]; (try ((refine okTr_and ?_ ?_); (· rfl))))
              ((refine FinK.fin r85 [0] ?_ ?_ ?_ ?_ ?_ ?_); (· decide); (· rfl); (· simp); (· rfl); (· first | rfl | simp [List.map_cons, List.map_nil, hv, rdr_ren]); (· simp [resAL, resA1, oneOr, ren_lit, hv]))
          · have hor := or_join' i hi9 x (c % 128) x0 x1 (by omega) (by omega) (by omega)
            have hm : c.tmod 128 = c % 128 := Int.tmod_eq_emod_of_nonneg (by omega)
            have p2 : ((c == 0) = true ∧ decide (s.at_ < s.at_ + i) = false) ∨ (c == 0) = false := by
              simp only [beq_iff_eq, decide_eq_false_iff_not, beq_eq_false_iff_ne]; omega
            rcases p1 with ⟨q1, q2⟩ | ⟨q1, q2⟩ <;> rcases p2 with ⟨q3, q4⟩ | q3 <;> (first | ((simp only [qSeq_normal, qBlock_normal, cdK_false, aw_skip, aw_reg, aw_seq, aw_cond, aReg_nil, aReg_cons, aReg_guard, gdF_tt, gdF_ft, setD_some, ev_tmp, ev_const, ev_func, ofC_int, ofC_bool, e_mov, e_pick, e_bin, e_cvt, e_call, kPick_lit, kBin_int, i_add, i_rem, i_or, i_shl, i_eql, i_gtr, i_geq, cvt_int, call_fn, okTr_nil, kReg_go, List.getD_cons_zero, List.getD_cons_succ, List.set_cons_zero, List.set_cons_succ, List.map_cons, List.map_nil, List.nil_append, List.cons_append, List.append_nil, updL_nil, newU, true_and, List.append_nil, cond_true, cond_false, t1, q1, q2, q3, hm]; (try ((refine okTr_and ?_ ?_); (· rfl)))); refine CallK.r1 (Reader_At _ 0) rfl ?_; (simp only [qSeq_normal, qBlock_normal, cdK_false, aw_skip, aw_reg, aw_seq, aw_cond, aReg_nil, aReg_cons, aReg_guard, gdF_tt, setD_some, ev_tmp, ev_const, ofC_int, ofC_bool, e_mov, e_pick, e_bin, e_cvt, kPick_lit, kBin_int, i_add, i_sub, i_rem, i_or, i_shl, i_gtr, i_geq, cvt_int, okTr_nil, kReg_go, List.getD_cons_zero, List.getD_cons_succ, List.set_cons_zero, List.set_cons_succ, List.map_nil, List.nil_append, List.cons_append, List.append_nil, updL_nil, newU, true_and, List.append_nil, cond_true, hw, q4, hm, hor]; (try ((refine okTr_and ?_ ?_); (· rfl))))) | (simp only [qSeq_normal, qBlock_normal, cdK_false, aw_skip, aw_reg, aw_seq, aw_cond, aReg_nil, aReg_cons, aReg_guard, gdF_tt, gdF_ft, setD_some, ev_tmp, ev_const, ofC_int, ofC_bool, e_mov, e_pick, e_bin, e_cvt, kPick_lit, kBin_int, i_add, i_rem, i_or, i_shl, i_eql, i_gtr, i_geq, cvt_int, okTr_nil, kReg_go, List.getD_cons_zero, List.getD_cons_succ, List.set_cons_zero, List.set_cons_succ, List.map_nil, List.nil_append, List.cons_append, List.append_nil, updL_nil, newU, true_and, List.append_nil, cond_true, cond_false, t1, q1, q2, q3, hm, hor]; (try ((refine okTr_and ?_ ?_); (· rfl))))) <;>
            · (repeat ((with_reducible refine And.intro ?_ ?_); (· first | assumption | rfl | omega | (simp [ints_length, okEl_eq, AV.parts]; done) | (simp [ints_length, okEl_eq, AV.parts]; omega))))
              refine cdK_split (fun h => ?_) (fun h => ?_)
              · have h2 : 128 ≤ c := by simpa using h
                have h9 : i ≠ 9 := by omega
                obtain ⟨hu', hd'⟩ := upto_more hu hd c1 c2 (by omega)
                have h2x := (or_join i hi9 x (c % 128) x0 x1 (by omega) (by omega) (by omega)).2
                have hw2 : IntKind.i64.wrap (7 * (i : Int) + 7) = 7 * ((i + 1 : Nat) : Int) := by rw [IntWalk.i64_in _ (by omega)]; omega
                (simp only [qScoped_goto, qSeq_goto, aw_goto, true_and]; (try ((refine okTr_and ?_ ?_); (· rfl))))
                refine ⟨(i + 1, x + 128 ^ i * (c % 128)), ⟨by simp only; omega, fun h => absurd hc h, h2x.2, h2x.1, hu', by simp only; omega⟩, by simp only; omega, Wk.to ?_ ?_⟩
                · simp
                · simp [leT, hw2]
              · have h2 : c < 128 := by simpa using h
                have hv := vint_last hc hu hd c1 c2 h2
                have hm2 : c % 128 = c := by omega
                (simp only [qScoped_ret, qSeq_normal, aw_skip, aw_reg, aw_seq, aw_ret, aReg_nil, aReg_cons, setD_some, ev_tmp, e_mov, okTr_nil, kReg_go, List.getD_cons_zero, List.getD_cons_succ, List.set_cons_zero, List.set_cons_succ, List.map_nil, List.nil_append, List.cons_append, List.append_nil, updL_nil, newU, true_and, List.append_nil, qFin_ret]; (try ((refine okTr_and ?_ ?_); (· rfl))))
                ((refine FinK.fin r85 [0] ?_ ?_ ?_ ?_ ?_ ?_); (· decide); (· rfl); (· simp); (· rfl); (· first | rfl | simp [List.map_cons, List.map_nil, hv, rdr_ren]); (· simp [resAL, resA1, oneOr, ren_lit, hv, hm2]))
    · have hi0 := hci hc
      subst hi0
      have hB := byte_bad s hc
      have hv := vint_bad hc
      have e0 : ((0 : Nat) : Int) = 0 := rfl
      have hg : s.good = false := by simp [RS.good, hc]
      (simp only [qSeq_normal, aw_reg, aw_seq, aw_block, aReg_nil, aReg_cons, setD_some, ev_tmp, ev_func, e_mov, e_call, call_fn, okTr_nil, kReg_go, List.getD_cons_zero, List.getD_cons_succ, List.set_cons_zero, List.set_cons_succ, List.map_cons, List.map_nil, List.nil_append, List.cons_append, List.append_nil, updL_nil, updL_cons, newU, true_and, List.append_nil, Int.reduceMul, e0, hB]; (try ((refine okTr_and ?_ ?_); (· rfl))))
      refine CallK.r1 (Reader_Good _ 0) rfl ?_
      (simp only [qScoped_ret, qSeq_normal, qSeq_ret, qBlock_ret, cdK_true, aw_reg, aw_seq, aw_cond, aw_ret, aReg_nil, aReg_cons, setD_some, ev_tmp, ev_const, ofC_int, e_mov, e_un, un_not, okTr_nil, kReg_go, List.getD_cons_zero, List.getD_cons_succ, List.set_cons_zero, List.set_cons_succ, List.map_nil, List.nil_append, List.cons_append, List.append_nil, updL_nil, newU, true_and, List.append_nil, Bool.not_false, qFin_ret, hg]; (try ((refine okTr_and ?_ ?_); (· rfl))))
      ((refine FinK.fin r85 [0] ?_ ?_ ?_ ?_ ?_ ?_); (· decide); (· rfl); (· simp); (· rfl); (· first | rfl | simp [List.map_cons, List.map_nil, hv, rdr_ren]); (· simp [resAL, resA1, oneOr, ren_lit, hv]))
theorem varint_Read (s : RS) (i : Nat) (hs : s.ok) (hb : Bys s.l) : Ct Try.prog 85 [.ref i 0] [(i, rdr s)] (fun _ => uA s.vint.2) [(i, rdr s.vint.1)] (fun _ => []) := Ct.u1 (varint_Read0 s hs hb) i (by intros; simp [ren_ref, ixs_z, List.map_cons, List.map_nil]) (fun ρ => rdr_ren ρ s) (fun ρ => rdr_ren ρ _) (rdr_dead s) (by intros; simp [ren_lit])

theorem varint_ReadMost0 (s : RS) (m : Int) (hs : s.ok) (hb : Bys s.l) : Does Try.prog 86 [.ref 0 0, uA m] [rdr s] (uA (s.most m).2) [rdr (s.most m).1] := by
  refine Does.run Try.func86 b86 n86 Try.ntmps86 (by simp only [List.cons_append, List.nil_append, List.length_cons, List.length_nil, Nat.zero_add, Nat.reduceAdd, Nat.reduceSub, List.replicate]; rfl) ?_; simp only [c86, qSeq_normal, aw_reg, aw_seq, aReg_nil, aReg_cons, setD_some, ev_tmp, ev_const, ev_func, ofC_int, e_mov, e_call, call_fn, okTr_nil, kReg_go, List.getD_cons_zero, List.getD_cons_succ, List.set_cons_zero, List.set_cons_succ, List.map_cons, List.map_nil, List.length_cons, List.length_nil, List.nil_append, List.append_nil, updL_nil, newU, Nat.zero_add, true_and, List.append_nil]; (try ((refine okTr_and ?_ ?_); (· rfl)))
  refine CallK.r1 (Reader_At s 0) rfl ?_
  (simp only [qSeq_normal, aw_reg, aw_seq, aReg_nil, aReg_cons, setD_some, ev_tmp, ev_func, e_mov, e_call, call_fn, okTr_nil, kReg_go, List.getD_cons_zero, List.getD_cons_succ, List.set_cons_zero, List.set_cons_succ, List.map_cons, List.map_nil, List.nil_append, List.cons_append, List.append_nil, updL_nil, newU, true_and, List.append_nil]; (try ((refine okTr_and ?_ ?_); (· rfl))))
  refine CallK.u1 (varint_Read s 0 hs hb) rfl ?_
  (simp only [qSeq_normal, aw_reg, aw_seq, aw_cond, aReg_nil, aReg_cons, setD_some, ev_tmp, e_mov, e_bin, kBin_int, i_gtr, okTr_nil, kReg_go, List.getD_cons_zero, List.getD_cons_succ, List.set_cons_zero, List.set_cons_succ, List.map_cons, List.map_nil, List.nil_append, List.cons_append, List.append_nil, updL_nil, updL_cons, newU, true_and, List.append_nil]; (try ((refine okTr_and ?_ ?_); (· rfl))))
  refine cdK_split (fun h => ?_) (fun h => ?_)
  · have h' : m < s.vint.2 := by simpa using h
    (simp only [aw_reg, aw_seq, aReg_cons, setD_some, ev_tmp, ev_const, ev_func, ofC_int, e_mov, e_call, call_fn, kReg_go, List.getD_cons_zero, List.getD_cons_succ, List.set_cons_zero, List.set_cons_succ, List.map_cons, List.map_nil, List.nil_append, List.cons_append, List.append_nil, updL_nil, newU, List.append_nil]; (try ((refine okTr_and ?_ ?_); (· rfl))))
    refine CallK.u1 (Reader_Fail _ 2 _ 0) rfl ?_
    (simp only [qSeq_normal, qSeq_ret, aw_reg, aw_seq, aw_ret, aReg_nil, aReg_cons, setD_some, ev_const, ofC_int, e_mov, okTr_nil, kReg_go, List.set_cons_zero, List.set_cons_succ, List.map_cons, List.map_nil, List.nil_append, List.cons_append, List.append_nil, updL_nil, updL_cons, newU, true_and, List.append_nil, qFin_ret]; (try ((refine okTr_and ?_ ?_); (· rfl))))
    ((refine FinK.fin r86 [0] ?_ ?_ ?_ ?_ ?_ ?_); (· decide); (· rfl); (· simp); (· rfl); (· first | rfl | simp [List.map_cons, List.map_nil, RS.most, h', rdr_ren]); (· simp [resAL, resA1, oneOr, ren_lit, RS.most, h']))
  · have h' : ¬ m < s.vint.2 := by simpa using h
    (simp only [qSeq_normal, aw_skip, aw_reg, aw_seq, aw_ret, aReg_nil, aReg_cons, setD_some, ev_tmp, e_mov, okTr_nil, kReg_go, List.getD_cons_zero, List.getD_cons_succ, List.set_cons_zero, List.set_cons_succ, List.map_nil, List.nil_append, List.cons_append, List.append_nil, updL_nil, newU, true_and, List.append_nil, qFin_ret]; (try ((refine okTr_and ?_ ?_); (· rfl))))
    ((refine FinK.fin r86 [0] ?_ ?_ ?_ ?_ ?_ ?_); (· decide); (· rfl); (· simp); (· rfl); (· first | rfl | simp [List.map_cons, List.map_nil, RS.most, h', rdr_ren]); (· simp [resAL, resA1, oneOr, ren_lit, RS.most, h']))
theorem varint_ReadMost (s : RS) (m : Int) (i : Nat) (hs : s.ok) (hb : Bys s.l) : Ct Try.prog 86 [.ref i 0, uA m] [(i, rdr s)] (fun _ => uA (s.most m).2) [(i, rdr (s.most m).1)] (fun _ => []) := Ct.u1 (varint_ReadMost0 s m hs hb) i (by intros; simp [ren_lit, ren_ref, ixs_z, List.map_cons, List.map_nil]) (fun ρ => rdr_ren ρ s) (fun ρ => rdr_ren ρ _) (rdr_dead s) (by intros; simp [ren_lit])

theorem varint_ReadInt0 (s : RS) (m : Int) (m1 : m < 9223372036854775808) (hs : s.ok) (hb : Bys s.l) : Does Try.prog 87 [.ref 0 0, iA m] [rdr s] (iA (s.int m).2) [rdr (s.int m).1] := by
  refine Does.run Try.func87 b87 n87 Try.ntmps87 (by simp only [List.cons_append, List.nil_append, List.length_cons, List.length_nil, Nat.zero_add, Nat.reduceAdd, Nat.reduceSub, List.replicate]; rfl) ?_; simp only [c87, qSeq_normal, aw_reg, aw_seq, aw_cond, aReg_nil, aReg_cons, setD_some, ev_tmp, ev_const, ofC_int, e_mov, e_bin, kBin_int, i_geq, okTr_nil, kReg_go, List.getD_cons_zero, List.getD_cons_succ, List.set_cons_zero, List.set_cons_succ, List.map_nil, List.length_cons, List.length_nil, List.nil_append, List.cons_append, List.append_nil, updL_nil, newU, Nat.zero_add, true_and, List.append_nil]; (try ((refine okTr_and ?_ ?_); (· rfl)))
  refine cdK_split (fun h => ?_) (fun h => ?_)
  · have h' : 0 ≤ m := by simpa using h
    have e : IntKind.u64.wrap m = m := IntWalk.u64_in _ (by omega)
    have hr := most_range (m := m) hb h'
    have e2 : IntKind.i64.wrap (s.most m).2 = (s.most m).2 := IntWalk.i64_in _ (by omega)
    (simp only [aw_reg, aw_seq, aReg_cons, setD_some, ev_tmp, ev_func, e_mov, e_cvt, e_call, cvt_int, call_fn, kReg_go, List.getD_cons_zero, List.getD_cons_succ, List.set_cons_zero, List.set_cons_succ, List.map_cons, List.map_nil, List.nil_append, List.cons_append, List.append_nil, updL_nil, newU, List.append_nil, e]; (try ((refine okTr_and ?_ ?_); (· rfl))))
    refine CallK.u1 (varint_ReadMost s m 0 hs hb) rfl ?_
    (simp only [qSeq_normal, qSeq_ret, aw_ret, aReg_nil, aReg_cons, setD_some, ev_tmp, e_mov, e_cvt, cvt_int, okTr_nil, kReg_go, List.getD_cons_zero, List.getD_cons_succ, List.set_cons_zero, List.set_cons_succ, List.map_cons, List.map_nil, List.nil_append, List.cons_append, List.append_nil, updL_nil, updL_cons, newU, true_and, List.append_nil, qFin_ret, e2]; (try ((refine okTr_and ?_ ?_); (· rfl))))
    ((refine FinK.fin r87 [0] ?_ ?_ ?_ ?_ ?_ ?_); (· decide); (· rfl); (· simp); (· rfl); (· first | rfl | simp [List.map_cons, List.map_nil, RS.int, h', rdr_ren]); (· simp [resAL, resA1, oneOr, ren_lit, RS.int, h']))
  · have h' : ¬ 0 ≤ m := by simpa using h
    (simp only [qSeq_normal, aw_skip, aw_reg, aw_seq, aReg_cons, setD_some, ev_tmp, ev_func, e_mov, e_call, call_fn, kReg_go, List.getD_cons_zero, List.getD_cons_succ, List.set_cons_zero, List.set_cons_succ, List.map_cons, List.map_nil, List.nil_append, List.append_nil, updL_nil, newU, List.append_nil]; (try ((refine okTr_and ?_ ?_); (· rfl))))
    refine CallK.r1 (Reader_At s 0) rfl ?_
    (simp only [qSeq_normal, aw_reg, aw_seq, aReg_nil, aReg_cons, setD_some, ev_tmp, ev_func, e_mov, e_call, call_fn, okTr_nil, kReg_go, List.getD_cons_zero, List.getD_cons_succ, List.set_cons_zero, List.set_cons_succ, List.map_cons, List.map_nil, List.nil_append, List.cons_append, List.append_nil, updL_nil, newU, true_and, List.append_nil]; (try ((refine okTr_and ?_ ?_); (· rfl))))
    refine CallK.u1 (varint_Read s 0 hs hb) rfl ?_
    (simp only [qSeq_normal, aw_reg, aw_seq, aReg_nil, aReg_cons, setD_some, ev_tmp, ev_const, ev_func, ofC_int, e_mov, e_call, call_fn, okTr_nil, kReg_go, List.getD_cons_zero, List.getD_cons_succ, List.set_cons_zero, List.set_cons_succ, List.map_cons, List.map_nil, List.nil_append, List.cons_append, List.append_nil, updL_nil, updL_cons, newU, true_and, List.append_nil]; (try ((refine okTr_and ?_ ?_); (· rfl))))
    refine CallK.u1 (Reader_Fail _ 2 _ 0) rfl ?_
    (simp only [qSeq_normal, aw_reg, aw_seq, aw_ret, aReg_nil, aReg_cons, setD_some, ev_const, ofC_int, e_mov, okTr_nil, kReg_go, List.set_cons_zero, List.set_cons_succ, List.map_cons, List.map_nil, List.nil_append, List.cons_append, List.append_nil, updL_nil, updL_cons, newU, true_and, List.append_nil, qFin_ret]; (try ((refine okTr_and ?_ ?_); (· rfl))))
    ((refine FinK.fin r87 [0] ?_ ?_ ?_ ?_ ?_ ?_); (· decide); (· rfl); (· simp); (· rfl); (· first | rfl | simp [List.map_cons, List.map_nil, RS.int, h', rdr_ren]); (· simp [resAL, resA1, oneOr, ren_lit, RS.int, h']))
theorem varint_ReadInt (s : RS) (m : Int) (i : Nat) (m1 : m < 9223372036854775808) (hs : s.ok) (hb : Bys s.l) : Ct Try.prog 87 [.ref i 0, iA m] [(i, rdr s)] (fun _ => iA (s.int m).2) [(i, rdr (s.int m).1)] (fun _ => []) := Ct.u1 (varint_ReadInt0 s m m1 hs hb) i (by intros; simp [ren_lit, ren_ref, ixs_z, List.map_cons, List.map_nil]) (fun ρ => rdr_ren ρ s) (fun ρ => rdr_ren ρ _) (rdr_dead s) (by intros; simp [ren_lit])
end Go.Proofs.Ytgphhganepjaiaa
