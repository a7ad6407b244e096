/-
  Contracts of chapter 23: links read, by the code and by the reference.
-/
import Derived.Test.YtkhnfleejgfhgaaK40
set_option linter.all false
set_option linter.unusedSimpArgs false
set_option linter.unusedVariables false
set_option linter.unnecessarySimpa false
namespace Go.Proofs.Ytkhnfleejgfhgaa
open Go.RowKit

theorem xor_max {x : Int} (h0 : 0 ≤ x) (h1 : x < 18446744073709551616) : bitsI .xor .u64 (if IntKind.u64.signed then -1 else IntKind.u64.max) x = 18446744073709551615 - x := by
  have h := xor_u64_1 h0 h1
  have e : bitsI .xor .u64 (if IntKind.u64.signed then -1 else IntKind.u64.max) x = bitsI .xor .u64 x 18446744073709551615 := by
    show IntKind.u64.wrap ((BitVec.ofInt 64 18446744073709551615 ^^^ BitVec.ofInt 64 x).toNat : Int) = IntKind.u64.wrap ((BitVec.ofInt 64 x ^^^ BitVec.ofInt 64 18446744073709551615).toNat : Int)
    rw [BitVec.xor_comm]
  rw [e, h]
theorem lkHead_nil {s : RS} (h : ROk s) : s.lkHead [] = s.vint.1 := by
  have hv := vint_range (s := s) h.bys
  unfold RS.lkHead; rw [lst_nil, if_neg (by omega)]
theorem lkHead_keep {s : RS} (h : ROk s) (acc : List Lk) : ROk (s.lkHead acc) ∧ (s.lkHead acc).l = s.l := by
  obtain ⟨a, b⟩ := h.vint
  unfold RS.lkHead; split
  · exact ⟨a.fail _ _, by rw [fail_l]; exact b⟩
  · exact ⟨a, b⟩
theorem lkHead_over {s : RS} {acc : List Lk} (h : 18446744073709551616 ≤ lst acc + 1 + s.vint.2) : s.vint.1.fail 13 s.at_ = s.lkHead acc := by
  unfold RS.lkHead
  by_cases hc : s.vint.1.code = 0
  · rw [if_pos ⟨hc, h⟩]
  · rw [if_neg fun x => hc x.1]; unfold RS.fail; rw [if_neg hc]
theorem lkHead_fits {s : RS} {acc : List Lk} (h : ¬ 18446744073709551616 ≤ lst acc + 1 + s.vint.2) : s.lkHead acc = s.vint.1 := by
  unfold RS.lkHead; rw [if_neg fun x => h x.2]
theorem linkF_f (pos : Int) (s : RS) (acc : List Lk) : (linkF pos).f s acc = (((s.lkHead acc).fall pos 4).1, ⟨lst acc + 1 + s.vint.2, ((s.lkHead acc).fall pos 4).2⟩) := rfl
theorem fall_code {s : RS} {b m : Int} (h : ROk s) (b0 : 0 ≤ b) (b1 : b < 18446744073709551616) (hc : (s.fall b m).1.code = 0) : s.code = 0 := (fall_is h b0 b1 hc).1
set_option maxHeartbeats 1000000 in
set_option maxRecDepth 100000 in
theorem link_Read0 (s : RS) (pos : Int) (p0 : 0 ≤ pos) (p1 : pos < 18446744073709551616) (hs : ROk s) (hn : s.l.length * 32 ≤ 100000000000000) : Does Try.prog 45 [.ref 0 0, uA pos] [rdr s] (slL (s.links pos).2) [rdr ((s.links pos).1)] := by
  have hF := linkF_ok p0 p1
  have hir := int_range (s := s) (m := 16) hs.bys
  obtain ⟨hi1, hi2⟩ := hs.int 16
  unfold RS.links Fmt.counted
  refine Does.run Try.func45 b45 n45 Try.ntmps45 (by simp only [List.cons_append, List.nil_append, List.length_cons, List.length_nil, Nat.zero_add, Nat.reduceAdd, Nat.reduceSub, List.replicate]; rfl) ?_; simp only [c45, go_sem, Nat.reduceAdd, Nat.reduceMul, Int.reduceToNat, Nat.reduceLeDiff, Int.reduceLE, Int.reduceLT, ↓reduceIte, Int.reduceBEq, Int.reduceBNe, Int.reduceAdd, Int.reduceSub, Int.reduceMul, qFin_ret, qFin_normal]; (try ((refine okTr_and ?_ ?_); (· rfl)))
  refine CallK.u1 (varint_ReadInt s 16 0 (by decide) hs.ok hs.bys) rfl ?_
  generalize hu : (s.int 16).1 = u at *
  generalize (s.int 16).2 = z at *
  obtain ⟨N, hN⟩ : ∃ N, z.toNat = N := ⟨_, rfl⟩
  have hz : z = (N : Int) := by omega
  subst hz
  rw [Int.toNat_natCast]
  (simp only [go_sem, Nat.reduceAdd, Nat.reduceMul, Int.reduceToNat, Nat.reduceLeDiff, Int.reduceLE, Int.reduceLT, ↓reduceIte, Int.reduceBEq, Int.reduceBNe, Int.reduceAdd, Int.reduceSub, Int.reduceMul, qFin_ret, qFin_normal]; (try ((refine okTr_and ?_ ?_); (· rfl))))
  refine loop_of (α := RS × List Lk) (fun a => [.ref 0 0, uA pos, .any, .any, .any, .sl (.row 1) 2 (lks a.2), .any, .any, .any, .any, .any, iA N, iA a.2.length, .any, .any, .any, .any, .any, .any, .any, .any, .any, .any, .any, .any, .any, .any, .any, .any, .any, .any, .any, .any, .any, .any, .any, .any, .any, .any, .any, .any, .any, .any, .any, .any, .any, .any, .any, .any, .any, .any, .any, .any, .any, .any]) (fun a => [rdr a.1, .row 2 a.2.length]) ((linkF pos).On u N) (fun a => N - a.2.length) (u, []) (Fmt.On.start hi1 N) ((Wk.row 5 2 rfl (.inr rfl) (by decide)).trans (Wk.to (by simp) (by simp [leT, lks]))) ?_
  rintro ⟨t, acc⟩ ho
  have hla := ho.len
  rw [hi2] at hla
  have h1 := ho.ok
  have h2 := ho.l
  have h6 := ho.res
  have hwf := ho.wf
  simp only at h1 h2 h6 hwf
  have hg := lst_ge hwf
  have htl : t.l.length * 32 ≤ 100000000000000 := by rw [h2, hi2]; exact hn
  (simp only [go_sem, Nat.reduceAdd, Nat.reduceMul, Int.reduceToNat, Nat.reduceLeDiff, Int.reduceLE, Int.reduceLT, ↓reduceIte, Int.reduceBEq, Int.reduceBNe, Int.reduceAdd, Int.reduceSub, Int.reduceMul, qFin_ret, qFin_normal]; (try ((refine okTr_and ?_ ?_); (· rfl))))
  by_cases hlt : acc.length < N
  · have q0 : decide ((acc.length : Int) < (N : Int)) = true := by simp; omega
    have ei := i64_succ acc.length (by omega)
    have hx := vint_range (s := t) h1.bys
    obtain ⟨hk1, hk2⟩ := lkHead_keep h1 acc
    obtain ⟨hv1, hv2⟩ := h1.vint
    have hff := linkF_f pos t acc
    have hkl : (t.lkHead acc).l.length * 8 ≤ 140737488355328 := by rw [hk2]; omega
    have hnx : ((t.lkHead acc).fall pos 4).1.code = 0 → (linkF pos).On u N (((t.lkHead acc).fall pos 4).1, acc ++ [⟨lst acc + 1 + t.vint.2, ((t.lkHead acc).fall pos 4).2⟩]) := fun hc => by
      have := ho.next hF hlt (by rw [hff]; exact hc)
      rw [hff] at this; exact this
    have hnb : ¬ ((t.lkHead acc).fall pos 4).1.code = 0 → (linkF pos).many N u [] = (((t.lkHead acc).fall pos 4).1, []) := fun hc => by
      have := many_bad (F := linkF pos) (s := t) hlt (by rw [hff]; exact hc)
      rw [h6, hff] at this; exact this
    have hst : ((t.lkHead acc).fall pos 4).1.code = 0 → lst acc + 1 + t.vint.2 < 18446744073709551616 := fun hc => by
      rcases Int.lt_or_le (lst acc + 1 + t.vint.2) 18446744073709551616 with h | h
      · exact h
      · have hh := fall_code hk1 p0 p1 hc
        unfold RS.lkHead at hh
        by_cases hc0 : t.vint.1.code = 0
        · rw [if_pos ⟨hc0, h⟩] at hh; exact absurd hh (fail_not0 _ _ hc0 (by decide))
        · rw [if_neg fun x => hc0 x.1] at hh; exact absurd hh hc0
    (simp only [go_sem, Nat.reduceAdd, Nat.reduceMul, Int.reduceToNat, Nat.reduceLeDiff, Int.reduceLE, Int.reduceLT, ↓reduceIte, Int.reduceBEq, Int.reduceBNe, Int.reduceAdd, Int.reduceSub, Int.reduceMul, qFin_ret, qFin_normal, q0]; (try ((refine okTr_and ?_ ?_); (· rfl))))
    refine CallK.r1 (Reader_At t 0) rfl ?_; (simp only [go_sem, Nat.reduceAdd, Nat.reduceMul, Int.reduceToNat, Nat.reduceLeDiff, Int.reduceLE, Int.reduceLT, ↓reduceIte, Int.reduceBEq, Int.reduceBNe, Int.reduceAdd, Int.reduceSub, Int.reduceMul, qFin_ret, qFin_normal]; (try ((refine okTr_and ?_ ?_); (· rfl))))
    refine CallK.u1 (varint_Read t 0 h1.ok h1.bys) rfl ?_; (simp only [go_sem, Nat.reduceAdd, Nat.reduceMul, Int.reduceToNat, Nat.reduceLeDiff, Int.reduceLE, Int.reduceLT, ↓reduceIte, Int.reduceBEq, Int.reduceBNe, Int.reduceAdd, Int.reduceSub, Int.reduceMul, qFin_ret, qFin_normal]; (try ((refine okTr_and ?_ ?_); (· rfl))))
    by_cases h0 : 0 < acc.length
    · have q1 : decide ((0 : Int) < (acc.length : Int)) = true := by simp; omega
      have ep := i64_pred acc.length h0 (by omega)
      have g := lks_get acc (acc.length - 1) (by omega)
      have hlg := lst_get acc h0
      obtain ⟨w, hw⟩ : ∃ w, (acc.getD (acc.length - 1) lk0).st = w := ⟨_, rfl⟩
      rw [hw] at hlg
      have g' : (lks acc).getD (acc.length - 1) .any = .agg [uA w, slU (acc.getD (acc.length - 1) lk0).bk] := by rw [g, ← hw]
      have hw0 : 0 ≤ w ∧ w < 18446744073709551616 := by
        have hlw := wf_get (acc.length - 1) (by omega) hwf
        rw [List.nil_append] at hlw
        have hg2 := lst_ge (wf_take (acc.length - 1) hwf)
        have e : acc[acc.length - 1] = acc.getD (acc.length - 1) lk0 := by simp [show acc.length - 1 < acc.length by omega]
        have hl1 : lst (acc.take (acc.length - 1)) < acc[acc.length - 1].st := hlw.1
        have hl2 : acc[acc.length - 1].st < 18446744073709551616 := hlw.2.1
        rw [e, hw] at hl1 hl2
        exact ⟨by have := hg2.1; omega, hl2⟩
      have ex := xor_max hw0.1 hw0.2
      by_cases hov : 18446744073709551615 - w ≤ t.vint.2
      · have q2 : decide (18446744073709551615 - w ≤ t.vint.2) = true := by simpa using hov
        have hhe := lkHead_over (s := t) (acc := acc) (by omega)
        (simp only [go_sem, Nat.reduceAdd, Nat.reduceMul, Int.reduceToNat, Nat.reduceLeDiff, Int.reduceLE, Int.reduceLT, ↓reduceIte, Int.reduceBEq, Int.reduceBNe, Int.reduceAdd, Int.reduceSub, Int.reduceMul, qFin_ret, qFin_normal, q1, ep, g', lks_length, Int.toNat_natCast, ex, q2]; (try ((refine okTr_and ?_ ?_); (· rfl))))
        (repeat ((with_reducible refine And.intro ?_ ?_); (· first | with_reducible assumption | omega | with_reducible rfl | (simp only [List.length_append, List.length_cons, List.length_nil, List.length_singleton]; omega) | (simp [ints_length, okEl_eq, AV.parts]; done) | (simp [ints_length, okEl_eq, AV.parts]; omega) | rfl)))
        refine CallK.u1 (Reader_Fail t.vint.1 13 t.at_ 0) rfl ?_; (simp only [go_sem, Nat.reduceAdd, Nat.reduceMul, Int.reduceToNat, Nat.reduceLeDiff, Int.reduceLE, Int.reduceLT, ↓reduceIte, Int.reduceBEq, Int.reduceBNe, Int.reduceAdd, Int.reduceSub, Int.reduceMul, qFin_ret, qFin_normal, hhe]; (try ((refine okTr_and ?_ ?_); (· rfl))))
        refine CallK.u1 (delta_Read (t.lkHead acc) pos 4 0 p0 p1 (by decide) hk1 hkl) rfl ?_; (simp only [go_sem, Nat.reduceAdd, Nat.reduceMul, Int.reduceToNat, Nat.reduceLeDiff, Int.reduceLE, Int.reduceLT, ↓reduceIte, Int.reduceBEq, Int.reduceBNe, Int.reduceAdd, Int.reduceSub, Int.reduceMul, qFin_ret, qFin_normal]; (try ((refine okTr_and ?_ ?_); (· rfl))))
        have hbad : ¬ ((t.lkHead acc).fall pos 4).1.code = 0 := fun hc => by have := hst hc; omega
        have hb := hnb hbad
        refine CallK.r1 (Reader_Good ((t.lkHead acc).fall pos 4).1 0) rfl ?_; (simp only [go_sem, Nat.reduceAdd, Nat.reduceMul, Int.reduceToNat, Nat.reduceLeDiff, Int.reduceLE, Int.reduceLT, ↓reduceIte, Int.reduceBEq, Int.reduceBNe, Int.reduceAdd, Int.reduceSub, Int.reduceMul, qFin_ret, qFin_normal, good_false hbad]; (try ((refine okTr_and ?_ ?_); (· rfl))))
        (refine FinK.nilk 4 2 rfl ?_; simp only [List.set_cons_zero, List.set_cons_succ])
        ((refine FinK.fin r45 [0] ?_ ?_ ?_ ?_ ?_ ?_); (· decide); (· rfl); (· simp); (· rfl); (· first | with_reducible rfl | (simp [ints_nil, ren_lit, ren_ref, ren_any, ren_agg, ren_tup, ren_sl, ren_fn, tren_none, tren_full, tren_row, oren_cells, oren_row, oren_dead, ixs_z, ixs_1, ixs_2, ixs_3, ren_ints, List.map_cons, List.map_nil, hb, rdr_ren, lks_nil]; done) | rfl); (· simp [resAL, resA1, loadA, oneOr, ints_nil, ren_lit, ren_ref, ren_any, ren_agg, ren_tup, ren_sl, ren_fn, tren_none, tren_full, tren_row, oren_cells, oren_row, oren_dead, ixs_z, ixs_1, ixs_2, ixs_3, ren_ints, List.map_cons, List.map_nil, hb, rdr_ren, lks_nil]))
      · have q2 : decide (18446744073709551615 - w ≤ t.vint.2) = false := by simpa using hov
        have hhe := lkHead_fits (s := t) (acc := acc) (by omega)
        have e1 : IntKind.u64.wrap (w + 1) = w + 1 := IntWalk.u64_in _ (by omega)
        have e2 : IntKind.u64.wrap (t.vint.2 + (w + 1)) = lst acc + 1 + t.vint.2 := by rw [IntWalk.u64_in _ (by omega)]; omega
        rw [hhe] at hnx hnb hkl
        (simp only [go_sem, Nat.reduceAdd, Nat.reduceMul, Int.reduceToNat, Nat.reduceLeDiff, Int.reduceLE, Int.reduceLT, ↓reduceIte, Int.reduceBEq, Int.reduceBNe, Int.reduceAdd, Int.reduceSub, Int.reduceMul, qFin_ret, qFin_normal, q1, ep, g', lks_length, Int.toNat_natCast, ex, q2, e1, e2]; (try ((refine okTr_and ?_ ?_); (· rfl))))
        (repeat ((with_reducible refine And.intro ?_ ?_); (· first | with_reducible assumption | omega | with_reducible rfl | (simp only [List.length_append, List.length_cons, List.length_nil, List.length_singleton]; omega) | (simp [ints_length, okEl_eq, AV.parts]; done) | (simp [ints_length, okEl_eq, AV.parts]; omega) | rfl)))
        refine CallK.u1 (delta_Read t.vint.1 pos 4 0 p0 p1 (by decide) hv1 hkl) rfl ?_; (simp only [go_sem, Nat.reduceAdd, Nat.reduceMul, Int.reduceToNat, Nat.reduceLeDiff, Int.reduceLE, Int.reduceLT, ↓reduceIte, Int.reduceBEq, Int.reduceBNe, Int.reduceAdd, Int.reduceSub, Int.reduceMul, qFin_ret, qFin_normal]; (try ((refine okTr_and ?_ ?_); (· rfl))))
        by_cases hc : (t.vint.1.fall pos 4).1.code = 0
        · have hon := hnx hc
          have hl2 := hon.len
          rw [List.length_append, List.length_singleton, hi2] at hl2
          refine CallK.r1 (Reader_Good (t.vint.1.fall pos 4).1 0) rfl ?_; (simp only [go_sem, Nat.reduceAdd, Nat.reduceMul, Int.reduceToNat, Nat.reduceLeDiff, Int.reduceLE, Int.reduceLT, ↓reduceIte, Int.reduceBEq, Int.reduceBNe, Int.reduceAdd, Int.reduceSub, Int.reduceMul, qFin_ret, qFin_normal, good_true hc, lks_snoc, lks_length, ei]; (try ((refine okTr_and ?_ ?_); (· rfl))))
          (repeat ((with_reducible refine And.intro ?_ ?_); (· first | with_reducible assumption | omega | with_reducible rfl | (simp only [List.length_append, List.length_cons, List.length_nil, List.length_singleton]; omega) | (simp [ints_length, okEl_eq, AV.parts]; done) | (simp [ints_length, okEl_eq, AV.parts]; omega) | rfl)))
          exact ⟨((t.vint.1.fall pos 4).1, acc ++ [⟨lst acc + 1 + t.vint.2, (t.vint.1.fall pos 4).2⟩]), hon, by simp; omega, Wk.sel [0, 1] (by simp) rfl (by simp) rfl (by simp [ints_nil, ren_lit, ren_ref, ren_any, ren_agg, ren_tup, ren_sl, ren_fn, tren_none, tren_full, tren_row, oren_cells, oren_row, oren_dead, ixs_z, ixs_1, ixs_2, ixs_3, ren_ints, List.map_cons, List.map_nil, rdr_ren]) (by simp [selT, ints_nil, ren_lit, ren_ref, ren_any, ren_agg, ren_tup, ren_sl, ren_fn, tren_none, tren_full, tren_row, oren_cells, oren_row, oren_dead, ixs_z, ixs_1, ixs_2, ixs_3, ren_ints, List.map_cons, List.map_nil, lks, ixs])⟩
        · have hb := hnb hc
          refine CallK.r1 (Reader_Good (t.vint.1.fall pos 4).1 0) rfl ?_; (simp only [go_sem, Nat.reduceAdd, Nat.reduceMul, Int.reduceToNat, Nat.reduceLeDiff, Int.reduceLE, Int.reduceLT, ↓reduceIte, Int.reduceBEq, Int.reduceBNe, Int.reduceAdd, Int.reduceSub, Int.reduceMul, qFin_ret, qFin_normal, good_false hc]; (try ((refine okTr_and ?_ ?_); (· rfl))))
          (refine FinK.nilk 4 2 rfl ?_; simp only [List.set_cons_zero, List.set_cons_succ])
          ((refine FinK.fin r45 [0] ?_ ?_ ?_ ?_ ?_ ?_); (· decide); (· rfl); (· simp); (· rfl); (· first | with_reducible rfl | (simp [ints_nil, ren_lit, ren_ref, ren_any, ren_agg, ren_tup, ren_sl, ren_fn, tren_none, tren_full, tren_row, oren_cells, oren_row, oren_dead, ixs_z, ixs_1, ixs_2, ixs_3, ren_ints, List.map_cons, List.map_nil, hb, rdr_ren, lks_nil]; done) | rfl); (· simp [resAL, resA1, loadA, oneOr, ints_nil, ren_lit, ren_ref, ren_any, ren_agg, ren_tup, ren_sl, ren_fn, tren_none, tren_full, tren_row, oren_cells, oren_row, oren_dead, ixs_z, ixs_1, ixs_2, ixs_3, ren_ints, List.map_cons, List.map_nil, hb, rdr_ren, lks_nil]))
    · have hnil : acc = [] := List.eq_nil_of_length_eq_zero (by omega)
      have q1 : decide ((0 : Int) < (acc.length : Int)) = false := by rw [hnil]; rfl
      have hhe := lkHead_nil h1
      rw [← hnil] at hhe
      rw [hhe] at hnx hnb hkl
      have hl0 : lst acc = -1 := by rw [hnil]; rfl
      have e2 : t.vint.2 = lst acc + 1 + t.vint.2 := by omega
      (simp only [go_sem, Nat.reduceAdd, Nat.reduceMul, Int.reduceToNat, Nat.reduceLeDiff, Int.reduceLE, Int.reduceLT, ↓reduceIte, Int.reduceBEq, Int.reduceBNe, Int.reduceAdd, Int.reduceSub, Int.reduceMul, qFin_ret, qFin_normal, q1]; (try ((refine okTr_and ?_ ?_); (· rfl))))
      refine CallK.u1 (delta_Read t.vint.1 pos 4 0 p0 p1 (by decide) hv1 hkl) rfl ?_; (simp only [go_sem, Nat.reduceAdd, Nat.reduceMul, Int.reduceToNat, Nat.reduceLeDiff, Int.reduceLE, Int.reduceLT, ↓reduceIte, Int.reduceBEq, Int.reduceBNe, Int.reduceAdd, Int.reduceSub, Int.reduceMul, qFin_ret, qFin_normal]; (try ((refine okTr_and ?_ ?_); (· rfl))))
      by_cases hc : (t.vint.1.fall pos 4).1.code = 0
      · have hon := hnx hc
        have hl2 := hon.len
        rw [List.length_append, List.length_singleton, hi2] at hl2
        rw [← e2] at hon
        have esn : lks acc ++ [.agg [uA t.vint.2, slU (t.vint.1.fall pos 4).2]] = lks (acc ++ [⟨t.vint.2, (t.vint.1.fall pos 4).2⟩]) := lks_snoc acc ⟨t.vint.2, (t.vint.1.fall pos 4).2⟩
        refine CallK.r1 (Reader_Good (t.vint.1.fall pos 4).1 0) rfl ?_; (simp only [go_sem, Nat.reduceAdd, Nat.reduceMul, Int.reduceToNat, Nat.reduceLeDiff, Int.reduceLE, Int.reduceLT, ↓reduceIte, Int.reduceBEq, Int.reduceBNe, Int.reduceAdd, Int.reduceSub, Int.reduceMul, qFin_ret, qFin_normal, good_true hc, esn, lks_length, ei]; (try ((refine okTr_and ?_ ?_); (· rfl))))
        (repeat ((with_reducible refine And.intro ?_ ?_); (· first | with_reducible assumption | omega | with_reducible rfl | (simp only [List.length_append, List.length_cons, List.length_nil, List.length_singleton]; omega) | (simp [ints_length, okEl_eq, AV.parts]; done) | (simp [ints_length, okEl_eq, AV.parts]; omega) | rfl)))
        exact ⟨((t.vint.1.fall pos 4).1, acc ++ [⟨t.vint.2, (t.vint.1.fall pos 4).2⟩]), hon, by simp; omega, Wk.sel [0, 1] (by simp) rfl (by simp) rfl (by simp [ints_nil, ren_lit, ren_ref, ren_any, ren_agg, ren_tup, ren_sl, ren_fn, tren_none, tren_full, tren_row, oren_cells, oren_row, oren_dead, ixs_z, ixs_1, ixs_2, ixs_3, ren_ints, List.map_cons, List.map_nil, rdr_ren]) (by simp [selT, ints_nil, ren_lit, ren_ref, ren_any, ren_agg, ren_tup, ren_sl, ren_fn, tren_none, tren_full, tren_row, oren_cells, oren_row, oren_dead, ixs_z, ixs_1, ixs_2, ixs_3, ren_ints, List.map_cons, List.map_nil, lks, ixs])⟩
      · have hb := hnb hc
        refine CallK.r1 (Reader_Good (t.vint.1.fall pos 4).1 0) rfl ?_; (simp only [go_sem, Nat.reduceAdd, Nat.reduceMul, Int.reduceToNat, Nat.reduceLeDiff, Int.reduceLE, Int.reduceLT, ↓reduceIte, Int.reduceBEq, Int.reduceBNe, Int.reduceAdd, Int.reduceSub, Int.reduceMul, qFin_ret, qFin_normal, good_false hc]; (try ((refine okTr_and ?_ ?_); (· rfl))))
        (refine FinK.nilk 4 2 rfl ?_; simp only [List.set_cons_zero, List.set_cons_succ])
        ((refine FinK.fin r45 [0] ?_ ?_ ?_ ?_ ?_ ?_); (· decide); (· rfl); (· simp); (· rfl); (· first | with_reducible rfl | (simp [ints_nil, ren_lit, ren_ref, ren_any, ren_agg, ren_tup, ren_sl, ren_fn, tren_none, tren_full, tren_row, oren_cells, oren_row, oren_dead, ixs_z, ixs_1, ixs_2, ixs_3, ren_ints, List.map_cons, List.map_nil, hb, rdr_ren, lks_nil]; done) | rfl); (· simp [resAL, resA1, loadA, oneOr, ints_nil, ren_lit, ren_ref, ren_any, ren_agg, ren_tup, ren_sl, ren_fn, tren_none, tren_full, tren_row, oren_cells, oren_row, oren_dead, ixs_z, ixs_1, ixs_2, ixs_3, ren_ints, List.map_cons, List.map_nil, hb, rdr_ren, lks_nil]))
  · have q0 : decide ((acc.length : Int) < (N : Int)) = false := by simp; omega
    have hb := many_end (F := linkF pos) (s := t) (N := N) (acc := acc) (by omega)
    rw [h6] at hb
    (simp only [go_sem, Nat.reduceAdd, Nat.reduceMul, Int.reduceToNat, Nat.reduceLeDiff, Int.reduceLE, Int.reduceLT, ↓reduceIte, Int.reduceBEq, Int.reduceBNe, Int.reduceAdd, Int.reduceSub, Int.reduceMul, qFin_ret, qFin_normal, q0]; (try ((refine okTr_and ?_ ?_); (· rfl))))
    (refine FinK.untag 4 rfl ?_; simp only [untag1_sl, List.set_cons_zero, List.set_cons_succ])
    ((refine FinK.fin r45 [0] ?_ ?_ ?_ ?_ ?_ ?_); (· decide); (· rfl); (· simp); (· rfl); (· first | with_reducible rfl | (simp [ints_nil, ren_lit, ren_ref, ren_any, ren_agg, ren_tup, ren_sl, ren_fn, tren_none, tren_full, tren_row, oren_cells, oren_row, oren_dead, ixs_z, ixs_1, ixs_2, ixs_3, ren_ints, List.map_cons, List.map_nil, hb, rdr_ren]; done) | rfl); (· simp [resAL, resA1, loadA, oneOr, ints_nil, ren_lit, ren_ref, ren_any, ren_agg, ren_tup, ren_sl, ren_fn, tren_none, tren_full, tren_row, oren_cells, oren_row, oren_dead, ixs_z, ixs_1, ixs_2, ixs_3, ren_ints, List.map_cons, List.map_nil, hb, rdr_ren]))
theorem link_Read (s : RS) (pos : Int) (i : Nat) (p0 : 0 ≤ pos) (p1 : pos < 18446744073709551616) (hs : ROk s) (hn : s.l.length * 32 ≤ 100000000000000) : Ct Try.prog 45 [.ref i 0, uA pos] [(i, rdr s)] (fun _ => slL (s.links pos).2) [(i, rdr ((s.links pos).1))] (fun _ => []) := Ct.u1 (link_Read0 s pos p0 p1 hs hn) i (by intros; simp [ints_nil, ren_lit, ren_ref, ren_any, ren_agg, ren_tup, ren_sl, ren_fn, tren_none, tren_full, tren_row, oren_cells, oren_row, oren_dead, ixs_z, ixs_1, ixs_2, ixs_3, ren_ints, List.map_cons, List.map_nil, ixs, List.range'_succ, ren_ints]) (fun ρ => rdr_ren ρ _) (fun ρ => rdr_ren ρ _) (rdr_dead _) (by intros; simp [ints_nil, ren_lit, ren_ref, ren_any, ren_agg, ren_tup, ren_sl, ren_fn, tren_none, tren_full, tren_row, oren_cells, oren_row, oren_dead, ixs_z, ixs_1, ixs_2, ixs_3, ren_ints, List.map_cons, List.map_nil, ixs, List.range'_succ, ren_ints])
set_option maxHeartbeats 2000000 in
set_option maxRecDepth 100000 in
theorem ref23_Read0 (s : RS) (pos : Int) (p0 : 0 ≤ pos) (p1 : pos < 18446744073709551616) (hs : ROk s) (hn : s.l.length * 32 ≤ 100000000000000) : Does Try.prog 46 [cv s, uA pos] [] (.tup [cv (s.links pos).1, slL (s.links pos).2]) [] := by
  have hF := linkF_ok p0 p1
  have hir := int_range (s := s) (m := 16) hs.bys
  obtain ⟨hi1, hi2⟩ := hs.int 16
  unfold RS.links Fmt.counted
  refine Does.run Try.func46 b46 n46 Try.ntmps46 (by simp only [List.cons_append, List.nil_append, List.length_cons, List.length_nil, Nat.zero_add, Nat.reduceAdd, Nat.reduceSub, List.replicate]; rfl) ?_; simp only [c46, go_sem, Nat.reduceAdd, Nat.reduceMul, Int.reduceToNat, Nat.reduceLeDiff, Int.reduceLE, Int.reduceLT, ↓reduceIte, Int.reduceBEq, Int.reduceBNe, Int.reduceAdd, Int.reduceSub, Int.reduceMul, qFin_ret, qFin_normal]; (try ((refine okTr_and ?_ ?_); (· rfl)))
  refine CallK.p (ref04_Int s 16 (by decide) hs) ?_
  generalize hu : (s.int 16).1 = u at *
  generalize (s.int 16).2 = z at *
  obtain ⟨N, hN⟩ : ∃ N, z.toNat = N := ⟨_, rfl⟩
  have hz : z = (N : Int) := by omega
  subst hz
  rw [Int.toNat_natCast]
  (simp only [go_sem, Nat.reduceAdd, Nat.reduceMul, Int.reduceToNat, Nat.reduceLeDiff, Int.reduceLE, Int.reduceLT, ↓reduceIte, Int.reduceBEq, Int.reduceBNe, Int.reduceAdd, Int.reduceSub, Int.reduceMul, qFin_ret, qFin_normal]; (try ((refine okTr_and ?_ ?_); (· rfl))))
  refine loop_of (α := RS × List Lk) (fun a => [.any, uA pos, .any, .any, .ref 1 0, .any, .ref 2 0, iA N, .sl (.row 3) 2 (lks a.2), iA a.2.length, .any, .any, .any, .any, .any, .any, .any, .any, .any, .any, .any, .any, .any, .any, .any, .any, .any, .any, .any, .any, .any, .any, .any, .any, .any, .any, .any, .any, .any, .any, .any, .any, .any, .any, .any, .any, .any, .any, .any, .any, .any, .any, .any, .any, .any, .any, .any, .any, .any, .any, .any, .any, .any, .any, .any, .any, .any, .any, .any, .any, .any, .any, .any, .any, .any, .any, .any, .any, .any, .any, .any, .any, .any, .any, .any, .any, .any, .any]) (fun a => [.cells [slA .u8 s.l, iA s.at_, iA s.code, iA s.fat], .cells [.sl .full 1 [], iA 0, iA 0, iA 0], .cells [slA .u8 a.1.l, iA a.1.at_, iA a.1.code, iA a.1.fat], .row 2 a.2.length]) (fun a => (linkF pos).On2 u N a ∧ (a.1.code = 0 → (linkF pos).On u N a)) (fun a => N - a.2.length) (u, []) ⟨.inl (Fmt.On.start hi1 N), fun _ => Fmt.On.start hi1 N⟩ ((Wk.row 8 2 rfl (.inr rfl) (by decide)).trans (Wk.to (by simp) (by simp [leT, lks]))) ?_
  rintro ⟨t, acc⟩ ⟨ho2, hoc⟩
  have hlen2 : acc.length ≤ s.l.length + 1 := by
    rcases ho2 with ho | ⟨_, _, _, _, _, hle2⟩
    · have := ho.len; rw [hi2] at this; omega
    · rw [hi2] at hle2; exact hle2
  by_cases hc0 : t.code = 0
  · have ho := hoc hc0
    have hla := ho.len
    rw [hi2] at hla
    have h1 := ho.ok
    have h2 := ho.l
    have h6 := ho.res
    have hwf := ho.wf
    simp only at h1 h2 h6 hwf
    have hg := lst_ge hwf
    have htl : t.l.length * 32 ≤ 100000000000000 := by rw [h2, hi2]; exact hn
    by_cases hlt : acc.length < N
    · have q0 : decide ((acc.length : Int) < (N : Int)) = true := by simp; omega
      have qc : (t.code == 0) = true := by simpa using hc0
      have ei := i64_succ acc.length (by omega)
      have hx := vint_range (s := t) h1.bys
      obtain ⟨hk1, hk2⟩ := lkHead_keep h1 acc
      obtain ⟨hv1, hv2⟩ := h1.vint
      have hff := linkF_f pos t acc
      have hkl : (t.lkHead acc).l.length * 8 ≤ 100000000000000 := by rw [hk2]; omega
      have hfk := fall_keep hk1 p1 4
      have hfl := hfk.2.trans (hk2.trans h2)
      have hnx : ((t.lkHead acc).fall pos 4).1.code = 0 → (linkF pos).On u N (((t.lkHead acc).fall pos 4).1, acc ++ [⟨lst acc + 1 + t.vint.2, ((t.lkHead acc).fall pos 4).2⟩]) := fun hc => by
        have := ho.next hF hlt (by rw [hff]; exact hc)
        rw [hff] at this; exact this
      have hnb : ¬ ((t.lkHead acc).fall pos 4).1.code = 0 → (linkF pos).many N u [] = (((t.lkHead acc).fall pos 4).1, []) := fun hc => by
        have := many_bad (F := linkF pos) (s := t) hlt (by rw [hff]; exact hc)
        rw [h6, hff] at this; exact this
      have hst : ((t.lkHead acc).fall pos 4).1.code = 0 → t.vint.1.code = 0 ∧ lst acc + 1 + t.vint.2 < 18446744073709551616 := fun hc => by
        have hh := fall_code hk1 p0 p1 hc
        unfold RS.lkHead at hh
        by_cases hb : t.vint.1.code = 0 ∧ 18446744073709551616 ≤ lst acc + 1 + t.vint.2
        · rw [if_pos hb] at hh; exact absurd hh (fail_not0 _ _ hb.1 (by decide))
        · rw [if_neg hb] at hh; exact ⟨hh, by omega⟩
      -- the next state, whatever number was laid
      have next : ∀ y : Int, (((t.lkHead acc).fall pos 4).1.code = 0 → y = lst acc + 1 + t.vint.2) →
          ((linkF pos).On2 u N (((t.lkHead acc).fall pos 4).1, acc ++ [⟨y, ((t.lkHead acc).fall pos 4).2⟩]) ∧ (((t.lkHead acc).fall pos 4).1.code = 0 → (linkF pos).On u N (((t.lkHead acc).fall pos 4).1, acc ++ [⟨y, ((t.lkHead acc).fall pos 4).2⟩]))) := fun y hy => by
        by_cases hc : ((t.lkHead acc).fall pos 4).1.code = 0
        · have := hnx hc
          rw [← hy hc] at this
          exact ⟨.inl this, fun _ => this⟩
        · exact ⟨.inr ⟨hc, hnb hc, hfk.1, hfl, by simp; omega, by rw [hi2]; simp; omega⟩, fun h => absurd h hc⟩
      (simp only [go_sem, Nat.reduceAdd, Nat.reduceMul, Int.reduceToNat, Nat.reduceLeDiff, Int.reduceLE, Int.reduceLT, ↓reduceIte, Int.reduceBEq, Int.reduceBNe, Int.reduceAdd, Int.reduceSub, Int.reduceMul, qFin_ret, qFin_normal, q0, qc]; (try ((refine okTr_and ?_ ?_); (· rfl))))
      refine CallK.p (ref04_Read t h1) ?_
      by_cases h0 : 0 < acc.length
      · have q1 : decide ((0 : Int) < (acc.length : Int)) = true := by simp; omega
        have ep := i64_pred acc.length h0 (by omega)
        have g := lks_get acc (acc.length - 1) (by omega)
        have hlg := lst_get acc h0
        have hw0 : 0 ≤ (acc.getD (acc.length - 1) lk0).st ∧ (acc.getD (acc.length - 1) lk0).st < 18446744073709551616 := by
          have hlw := wf_get (acc.length - 1) (by omega) hwf
          rw [List.nil_append] at hlw
          have hg2 := lst_ge (wf_take (acc.length - 1) hwf)
          have e : acc[acc.length - 1] = acc.getD (acc.length - 1) lk0 := by simp [show acc.length - 1 < acc.length by omega]
          have hl1 : lst (acc.take (acc.length - 1)) < acc[acc.length - 1].st := hlw.1
          have hl2 : acc[acc.length - 1].st < 18446744073709551616 := hlw.2.1
          rw [e] at hl1 hl2
          exact ⟨by have := hg2.1; omega, hl2⟩
        have g' : ∃ w, (lks acc).getD (acc.length - 1) .any = .agg [uA w, slU (acc.getD (acc.length - 1) lk0).bk] ∧ lst acc = w ∧ 0 ≤ w ∧ w < 18446744073709551616 := ⟨_, g, hlg, hw0⟩
        have g2 := g'
        clear g' hw0 hlg g
        have w0 : ∃ w, lst acc = w := ⟨_, rfl⟩
        have g3 : (lks acc).getD (acc.length - 1) .any = .agg [uA (lst acc), slU (acc.getD (acc.length - 1) lk0).bk] ∧ 0 ≤ lst acc ∧ lst acc < 18446744073709551616 := by
          obtain ⟨w, a1, a2, a3, a4⟩ := g2
          rw [a2]; exact ⟨a1, a3, a4⟩
        have g := g3.1
        have gw0 := g3.2.1
        have gw1 := g3.2.2
        clear g2 g3 w0
        by_cases hc : t.vint.1.code = 0
        · have q3 : (t.vint.1.code == 0) = true := by simpa using hc
          have e0 : IntKind.u64.wrap (18446744073709551615 - lst acc) = 18446744073709551615 - lst acc := IntWalk.u64_in _ (by omega)
          by_cases hov : 18446744073709551616 ≤ lst acc + 1 + t.vint.2
          · have hhe := lkHead_over (s := t) (acc := acc) hov
            have hnxt := next (IntKind.u64.wrap (IntKind.u64.wrap (lst acc + t.vint.2) + 1)) (fun h => by have := (hst h).2; omega)
            by_cases hgt : 18446744073709551615 - lst acc < t.vint.2
            · have q4 : decide (18446744073709551615 - lst acc < t.vint.2) = true := by simpa using hgt
              (simp only [go_sem, Nat.reduceAdd, Nat.reduceMul, Int.reduceToNat, Nat.reduceLeDiff, Int.reduceLE, Int.reduceLT, ↓reduceIte, Int.reduceBEq, Int.reduceBNe, Int.reduceAdd, Int.reduceSub, Int.reduceMul, qFin_ret, qFin_normal, q1, q3, ep, g, lks_length, Int.toNat_natCast, e0, q4]; (try ((refine okTr_and ?_ ?_); (· rfl))))
              (repeat ((with_reducible refine And.intro ?_ ?_); (· first | with_reducible assumption | omega | with_reducible rfl | (simp only [List.length_append, List.length_cons, List.length_nil, List.length_singleton]; omega) | (simp [ints_length, okEl_eq, AV.parts]; done) | (simp [ints_length, okEl_eq, AV.parts]; omega) | rfl)))
              refine CallK.p (ref02_Fail t.vint.1 13 t.at_) ?_; (simp only [go_sem, Nat.reduceAdd, Nat.reduceMul, Int.reduceToNat, Nat.reduceLeDiff, Int.reduceLE, Int.reduceLT, ↓reduceIte, Int.reduceBEq, Int.reduceBNe, Int.reduceAdd, Int.reduceSub, Int.reduceMul, qFin_ret, qFin_normal, hhe]; (try ((refine okTr_and ?_ ?_); (· rfl))))
              refine CallK.p (ref22_Read (t.lkHead acc) pos 4 p0 p1 (by decide) hk1 hkl) ?_; (simp only [go_sem, Nat.reduceAdd, Nat.reduceMul, Int.reduceToNat, Nat.reduceLeDiff, Int.reduceLE, Int.reduceLT, ↓reduceIte, Int.reduceBEq, Int.reduceBNe, Int.reduceAdd, Int.reduceSub, Int.reduceMul, qFin_ret, qFin_normal, show ∀ y, lks acc ++ [.agg [uA y, slU ((t.lkHead acc).fall pos 4).2]] = lks (acc ++ [⟨y, ((t.lkHead acc).fall pos 4).2⟩]) from fun y => lks_snoc acc ⟨y, _⟩, lks_length, ei]; (try ((refine okTr_and ?_ ?_); (· rfl))))
              (repeat ((with_reducible refine And.intro ?_ ?_); (· first | with_reducible assumption | omega | with_reducible rfl | (simp only [List.length_append, List.length_cons, List.length_nil, List.length_singleton]; omega) | (simp [ints_length, okEl_eq, AV.parts]; done) | (simp [ints_length, okEl_eq, AV.parts]; omega) | rfl)))
              exact ⟨(((t.lkHead acc).fall pos 4).1, acc ++ [⟨IntKind.u64.wrap (IntKind.u64.wrap (lst acc + t.vint.2) + 1), ((t.lkHead acc).fall pos 4).2⟩]), hnxt, by simp; omega, Wk.sel [0, 1, 2, 3] (by simp) rfl (by simp) rfl (by simp [ints_nil, ren_lit, ren_ref, ren_any, ren_agg, ren_tup, ren_sl, ren_fn, tren_none, tren_full, tren_row, oren_cells, oren_row, oren_dead, ixs_z, ixs_1, ixs_2, ixs_3, ren_ints, List.map_cons, List.map_nil]) (by simp [selT, ints_nil, ren_lit, ren_ref, ren_any, ren_agg, ren_tup, ren_sl, ren_fn, tren_none, tren_full, tren_row, oren_cells, oren_row, oren_dead, ixs_z, ixs_1, ixs_2, ixs_3, ren_ints, List.map_cons, List.map_nil, ixs])⟩
            · have q4 : decide (18446744073709551615 - lst acc < t.vint.2) = false := by simpa using hgt
              have q5 : (t.vint.2 == 18446744073709551615 - lst acc) = true := by simp only [beq_iff_eq]; omega
              (simp only [go_sem, Nat.reduceAdd, Nat.reduceMul, Int.reduceToNat, Nat.reduceLeDiff, Int.reduceLE, Int.reduceLT, ↓reduceIte, Int.reduceBEq, Int.reduceBNe, Int.reduceAdd, Int.reduceSub, Int.reduceMul, qFin_ret, qFin_normal, q1, q3, ep, g, lks_length, Int.toNat_natCast, e0, q4, q5]; (try ((refine okTr_and ?_ ?_); (· rfl))))
              (repeat ((with_reducible refine And.intro ?_ ?_); (· first | with_reducible assumption | omega | with_reducible rfl | (simp only [List.length_append, List.length_cons, List.length_nil, List.length_singleton]; omega) | (simp [ints_length, okEl_eq, AV.parts]; done) | (simp [ints_length, okEl_eq, AV.parts]; omega) | rfl)))
              refine CallK.p (ref02_Fail t.vint.1 13 t.at_) ?_; (simp only [go_sem, Nat.reduceAdd, Nat.reduceMul, Int.reduceToNat, Nat.reduceLeDiff, Int.reduceLE, Int.reduceLT, ↓reduceIte, Int.reduceBEq, Int.reduceBNe, Int.reduceAdd, Int.reduceSub, Int.reduceMul, qFin_ret, qFin_normal, hhe]; (try ((refine okTr_and ?_ ?_); (· rfl))))
              refine CallK.p (ref22_Read (t.lkHead acc) pos 4 p0 p1 (by decide) hk1 hkl) ?_; (simp only [go_sem, Nat.reduceAdd, Nat.reduceMul, Int.reduceToNat, Nat.reduceLeDiff, Int.reduceLE, Int.reduceLT, ↓reduceIte, Int.reduceBEq, Int.reduceBNe, Int.reduceAdd, Int.reduceSub, Int.reduceMul, qFin_ret, qFin_normal, show ∀ y, lks acc ++ [.agg [uA y, slU ((t.lkHead acc).fall pos 4).2]] = lks (acc ++ [⟨y, ((t.lkHead acc).fall pos 4).2⟩]) from fun y => lks_snoc acc ⟨y, _⟩, lks_length, ei]; (try ((refine okTr_and ?_ ?_); (· rfl))))
              (repeat ((with_reducible refine And.intro ?_ ?_); (· first | with_reducible assumption | omega | with_reducible rfl | (simp only [List.length_append, List.length_cons, List.length_nil, List.length_singleton]; omega) | (simp [ints_length, okEl_eq, AV.parts]; done) | (simp [ints_length, okEl_eq, AV.parts]; omega) | rfl)))
              exact ⟨(((t.lkHead acc).fall pos 4).1, acc ++ [⟨IntKind.u64.wrap (IntKind.u64.wrap (lst acc + t.vint.2) + 1), ((t.lkHead acc).fall pos 4).2⟩]), hnxt, by simp; omega, Wk.sel [0, 1, 2, 3] (by simp) rfl (by simp) rfl (by simp [ints_nil, ren_lit, ren_ref, ren_any, ren_agg, ren_tup, ren_sl, ren_fn, tren_none, tren_full, tren_row, oren_cells, oren_row, oren_dead, ixs_z, ixs_1, ixs_2, ixs_3, ren_ints, List.map_cons, List.map_nil]) (by simp [selT, ints_nil, ren_lit, ren_ref, ren_any, ren_agg, ren_tup, ren_sl, ren_fn, tren_none, tren_full, tren_row, oren_cells, oren_row, oren_dead, ixs_z, ixs_1, ixs_2, ixs_3, ren_ints, List.map_cons, List.map_nil, ixs])⟩
          · have hhe := lkHead_fits (s := t) (acc := acc) hov
            have q4 : decide (18446744073709551615 - lst acc < t.vint.2) = false := by simp; omega
            have q5 : (t.vint.2 == 18446744073709551615 - lst acc) = false := by simp only [beq_eq_false_iff_ne, ne_eq]; omega
            have e1 : IntKind.u64.wrap (lst acc + t.vint.2) = lst acc + t.vint.2 := IntWalk.u64_in _ (by omega)
            have e2 : IntKind.u64.wrap (lst acc + t.vint.2 + 1) = lst acc + 1 + t.vint.2 := by rw [IntWalk.u64_in _ (by omega)]; omega
            have hnxt := next (lst acc + 1 + t.vint.2) (fun _ => rfl)
            (simp only [go_sem, Nat.reduceAdd, Nat.reduceMul, Int.reduceToNat, Nat.reduceLeDiff, Int.reduceLE, Int.reduceLT, ↓reduceIte, Int.reduceBEq, Int.reduceBNe, Int.reduceAdd, Int.reduceSub, Int.reduceMul, qFin_ret, qFin_normal, q1, q3, ep, g, lks_length, Int.toNat_natCast, e0, q4, q5, e1, e2]; (try ((refine okTr_and ?_ ?_); (· rfl))))
            (repeat ((with_reducible refine And.intro ?_ ?_); (· first | with_reducible assumption | omega | with_reducible rfl | (simp only [List.length_append, List.length_cons, List.length_nil, List.length_singleton]; omega) | (simp [ints_length, okEl_eq, AV.parts]; done) | (simp [ints_length, okEl_eq, AV.parts]; omega) | rfl)))
            rw [← hhe]
            refine CallK.p (ref22_Read (t.lkHead acc) pos 4 p0 p1 (by decide) hk1 hkl) ?_; (simp only [go_sem, Nat.reduceAdd, Nat.reduceMul, Int.reduceToNat, Nat.reduceLeDiff, Int.reduceLE, Int.reduceLT, ↓reduceIte, Int.reduceBEq, Int.reduceBNe, Int.reduceAdd, Int.reduceSub, Int.reduceMul, qFin_ret, qFin_normal, show ∀ y, lks acc ++ [.agg [uA y, slU ((t.lkHead acc).fall pos 4).2]] = lks (acc ++ [⟨y, ((t.lkHead acc).fall pos 4).2⟩]) from fun y => lks_snoc acc ⟨y, _⟩, lks_length, ei]; (try ((refine okTr_and ?_ ?_); (· rfl))))
            (repeat ((with_reducible refine And.intro ?_ ?_); (· first | with_reducible assumption | omega | with_reducible rfl | (simp only [List.length_append, List.length_cons, List.length_nil, List.length_singleton]; omega) | (simp [ints_length, okEl_eq, AV.parts]; done) | (simp [ints_length, okEl_eq, AV.parts]; omega) | rfl)))
            exact ⟨(((t.lkHead acc).fall pos 4).1, acc ++ [⟨lst acc + 1 + t.vint.2, ((t.lkHead acc).fall pos 4).2⟩]), hnxt, by simp; omega, Wk.sel [0, 1, 2, 3] (by simp) rfl (by simp) rfl (by simp [ints_nil, ren_lit, ren_ref, ren_any, ren_agg, ren_tup, ren_sl, ren_fn, tren_none, tren_full, tren_row, oren_cells, oren_row, oren_dead, ixs_z, ixs_1, ixs_2, ixs_3, ren_ints, List.map_cons, List.map_nil]) (by simp [selT, ints_nil, ren_lit, ren_ref, ren_any, ren_agg, ren_tup, ren_sl, ren_fn, tren_none, tren_full, tren_row, oren_cells, oren_row, oren_dead, ixs_z, ixs_1, ixs_2, ixs_3, ren_ints, List.map_cons, List.map_nil, ixs])⟩
        · have q3 : (t.vint.1.code == 0) = false := by simpa using hc
          have hhe : t.lkHead acc = t.vint.1 := by unfold RS.lkHead; rw [if_neg fun x => hc x.1]
          have hnxt := next t.vint.2 (fun h => absurd (hst h).1 hc)
          (simp only [go_sem, Nat.reduceAdd, Nat.reduceMul, Int.reduceToNat, Nat.reduceLeDiff, Int.reduceLE, Int.reduceLT, ↓reduceIte, Int.reduceBEq, Int.reduceBNe, Int.reduceAdd, Int.reduceSub, Int.reduceMul, qFin_ret, qFin_normal, q1, q3]; (try ((refine okTr_and ?_ ?_); (· rfl))))
          rw [← hhe]
          refine CallK.p (ref22_Read (t.lkHead acc) pos 4 p0 p1 (by decide) hk1 hkl) ?_; (simp only [go_sem, Nat.reduceAdd, Nat.reduceMul, Int.reduceToNat, Nat.reduceLeDiff, Int.reduceLE, Int.reduceLT, ↓reduceIte, Int.reduceBEq, Int.reduceBNe, Int.reduceAdd, Int.reduceSub, Int.reduceMul, qFin_ret, qFin_normal, show ∀ y, lks acc ++ [.agg [uA y, slU ((t.lkHead acc).fall pos 4).2]] = lks (acc ++ [⟨y, ((t.lkHead acc).fall pos 4).2⟩]) from fun y => lks_snoc acc ⟨y, _⟩, lks_length, ei]; (try ((refine okTr_and ?_ ?_); (· rfl))))
          (repeat ((with_reducible refine And.intro ?_ ?_); (· first | with_reducible assumption | omega | with_reducible rfl | (simp only [List.length_append, List.length_cons, List.length_nil, List.length_singleton]; omega) | (simp [ints_length, okEl_eq, AV.parts]; done) | (simp [ints_length, okEl_eq, AV.parts]; omega) | rfl)))
          exact ⟨(((t.lkHead acc).fall pos 4).1, acc ++ [⟨t.vint.2, ((t.lkHead acc).fall pos 4).2⟩]), hnxt, by simp; omega, Wk.sel [0, 1, 2, 3] (by simp) rfl (by simp) rfl (by simp [ints_nil, ren_lit, ren_ref, ren_any, ren_agg, ren_tup, ren_sl, ren_fn, tren_none, tren_full, tren_row, oren_cells, oren_row, oren_dead, ixs_z, ixs_1, ixs_2, ixs_3, ren_ints, List.map_cons, List.map_nil]) (by simp [selT, ints_nil, ren_lit, ren_ref, ren_any, ren_agg, ren_tup, ren_sl, ren_fn, tren_none, tren_full, tren_row, oren_cells, oren_row, oren_dead, ixs_z, ixs_1, ixs_2, ixs_3, ren_ints, List.map_cons, List.map_nil, ixs])⟩
      · have hnil : acc = [] := List.eq_nil_of_length_eq_zero (by omega)
        have q1 : decide ((0 : Int) < (acc.length : Int)) = false := by rw [hnil]; rfl
        have hhe := lkHead_nil h1
        rw [← hnil] at hhe
        have hl0 : lst acc = -1 := by rw [hnil]; rfl
        have hnxt := next t.vint.2 (fun _ => by omega)
        (simp only [go_sem, Nat.reduceAdd, Nat.reduceMul, Int.reduceToNat, Nat.reduceLeDiff, Int.reduceLE, Int.reduceLT, ↓reduceIte, Int.reduceBEq, Int.reduceBNe, Int.reduceAdd, Int.reduceSub, Int.reduceMul, qFin_ret, qFin_normal, q1]; (try ((refine okTr_and ?_ ?_); (· rfl))))
        rw [← hhe]
        refine CallK.p (ref22_Read (t.lkHead acc) pos 4 p0 p1 (by decide) hk1 hkl) ?_; (simp only [go_sem, Nat.reduceAdd, Nat.reduceMul, Int.reduceToNat, Nat.reduceLeDiff, Int.reduceLE, Int.reduceLT, ↓reduceIte, Int.reduceBEq, Int.reduceBNe, Int.reduceAdd, Int.reduceSub, Int.reduceMul, qFin_ret, qFin_normal, show ∀ y, lks acc ++ [.agg [uA y, slU ((t.lkHead acc).fall pos 4).2]] = lks (acc ++ [⟨y, ((t.lkHead acc).fall pos 4).2⟩]) from fun y => lks_snoc acc ⟨y, _⟩, lks_length, ei]; (try ((refine okTr_and ?_ ?_); (· rfl))))
        (repeat ((with_reducible refine And.intro ?_ ?_); (· first | with_reducible assumption | omega | with_reducible rfl | (simp only [List.length_append, List.length_cons, List.length_nil, List.length_singleton]; omega) | (simp [ints_length, okEl_eq, AV.parts]; done) | (simp [ints_length, okEl_eq, AV.parts]; omega) | rfl)))
        exact ⟨(((t.lkHead acc).fall pos 4).1, acc ++ [⟨t.vint.2, ((t.lkHead acc).fall pos 4).2⟩]), hnxt, by simp; omega, Wk.sel [0, 1, 2, 3] (by simp) rfl (by simp) rfl (by simp [ints_nil, ren_lit, ren_ref, ren_any, ren_agg, ren_tup, ren_sl, ren_fn, tren_none, tren_full, tren_row, oren_cells, oren_row, oren_dead, ixs_z, ixs_1, ixs_2, ixs_3, ren_ints, List.map_cons, List.map_nil]) (by simp [selT, ints_nil, ren_lit, ren_ref, ren_any, ren_agg, ren_tup, ren_sl, ren_fn, tren_none, tren_full, tren_row, oren_cells, oren_row, oren_dead, ixs_z, ixs_1, ixs_2, ixs_3, ren_ints, List.map_cons, List.map_nil, ixs])⟩
    · have q0 : decide ((acc.length : Int) < (N : Int)) = false := by simp; omega
      have hb := many_end (F := linkF pos) (s := t) (N := N) (acc := acc) (by omega)
      rw [h6] at hb
      have q3 : (t.code != 0) = false := by simpa using hc0
      (simp only [go_sem, Nat.reduceAdd, Nat.reduceMul, Int.reduceToNat, Nat.reduceLeDiff, Int.reduceLE, Int.reduceLT, ↓reduceIte, Int.reduceBEq, Int.reduceBNe, Int.reduceAdd, Int.reduceSub, Int.reduceMul, qFin_ret, qFin_normal, q0, q3]; (try ((refine okTr_and ?_ ?_); (· rfl))))
      (refine FinK.untag 5 rfl ?_; simp only [untag1_sl, List.set_cons_zero, List.set_cons_succ])
      ((refine FinK.fin r46 [] ?_ ?_ ?_ ?_ ?_ ?_); (· decide); (· rfl); (· simp); (· rfl); (· first | with_reducible rfl | (simp [ints_nil, ren_lit, ren_ref, ren_any, ren_agg, ren_tup, ren_sl, ren_fn, tren_none, tren_full, tren_row, oren_cells, oren_row, oren_dead, ixs_z, ixs_1, ixs_2, ixs_3, ren_ints, List.map_cons, List.map_nil, hb]; done) | rfl); (· simp [resAL, resA1, loadA, oneOr, ints_nil, ren_lit, ren_ref, ren_any, ren_agg, ren_tup, ren_sl, ren_fn, tren_none, tren_full, tren_row, oren_cells, oren_row, oren_dead, ixs_z, ixs_1, ixs_2, ixs_3, ren_ints, List.map_cons, List.map_nil, hb]))
  · have q2 : (t.code == 0) = false := by simpa using hc0
    have q3 : (t.code != 0) = true := by simpa using hc0
    have hb : (linkF pos).many N u [] = (t, []) := by
      rcases ho2 with ho | ⟨_, h, _⟩
      · by_cases hlt : acc.length < N
        · have hx : ((linkF pos).f t acc).1 = t := by
            rw [linkF_f]
            have e1 : t.vint = (t, 0) := vint_bad hc0
            have e2 : t.lkHead acc = t := by unfold RS.lkHead; rw [e1, if_neg fun x => hc0 x.1]
            have e3 : t.int 4 = (t, 0) := by unfold RS.int RS.most; rw [e1, if_pos (by decide), if_neg (by simp)]
            rw [e2]
            unfold RS.fall Fmt.counted
            rw [e3]; rfl
          have := many_bad (F := linkF pos) (s := t) (acc := acc) hlt (by rw [hx]; exact hc0)
          have h6 := ho.res
          simp only at h6
          rw [h6, hx] at this
          exact this
        · have hb := many_end (F := linkF pos) (s := t) (N := N) (acc := acc) (by omega)
          have h6 := ho.res
          simp only at h6
          rw [h6] at hb
          have hnil := many_bad_nil (F := linkF pos) N u [] (.inr rfl) (by rw [hb]; exact hc0)
          rw [hb] at hnil
          simp only at hnil
          rw [hb, hnil]
      · exact h
    by_cases hlt : acc.length < N
    · have q1 : decide ((acc.length : Int) < N) = true := by simpa using hlt
      (simp only [go_sem, Nat.reduceAdd, Nat.reduceMul, Int.reduceToNat, Nat.reduceLeDiff, Int.reduceLE, Int.reduceLT, ↓reduceIte, Int.reduceBEq, Int.reduceBNe, Int.reduceAdd, Int.reduceSub, Int.reduceMul, qFin_ret, qFin_normal, q1, q2, q3]; (try ((refine okTr_and ?_ ?_); (· rfl))))
      (refine FinK.nilk 5 2 rfl ?_; simp only [List.set_cons_zero, List.set_cons_succ])
      ((refine FinK.fin r46 [] ?_ ?_ ?_ ?_ ?_ ?_); (· decide); (· rfl); (· simp); (· rfl); (· first | with_reducible rfl | (simp [ints_nil, ren_lit, ren_ref, ren_any, ren_agg, ren_tup, ren_sl, ren_fn, tren_none, tren_full, tren_row, oren_cells, oren_row, oren_dead, ixs_z, ixs_1, ixs_2, ixs_3, ren_ints, List.map_cons, List.map_nil, hb, lks_nil]; done) | rfl); (· simp [resAL, resA1, loadA, oneOr, ints_nil, ren_lit, ren_ref, ren_any, ren_agg, ren_tup, ren_sl, ren_fn, tren_none, tren_full, tren_row, oren_cells, oren_row, oren_dead, ixs_z, ixs_1, ixs_2, ixs_3, ren_ints, List.map_cons, List.map_nil, hb, lks_nil]))
    · have q1 : decide ((acc.length : Int) < N) = false := by simpa using hlt
      (simp only [go_sem, Nat.reduceAdd, Nat.reduceMul, Int.reduceToNat, Nat.reduceLeDiff, Int.reduceLE, Int.reduceLT, ↓reduceIte, Int.reduceBEq, Int.reduceBNe, Int.reduceAdd, Int.reduceSub, Int.reduceMul, qFin_ret, qFin_normal, q1, q3]; (try ((refine okTr_and ?_ ?_); (· rfl))))
      (refine FinK.nilk 5 2 rfl ?_; simp only [List.set_cons_zero, List.set_cons_succ])
      ((refine FinK.fin r46 [] ?_ ?_ ?_ ?_ ?_ ?_); (· decide); (· rfl); (· simp); (· rfl); (· first | with_reducible rfl | (simp [ints_nil, ren_lit, ren_ref, ren_any, ren_agg, ren_tup, ren_sl, ren_fn, tren_none, tren_full, tren_row, oren_cells, oren_row, oren_dead, ixs_z, ixs_1, ixs_2, ixs_3, ren_ints, List.map_cons, List.map_nil, hb, lks_nil]; done) | rfl); (· simp [resAL, resA1, loadA, oneOr, ints_nil, ren_lit, ren_ref, ren_any, ren_agg, ren_tup, ren_sl, ren_fn, tren_none, tren_full, tren_row, oren_cells, oren_row, oren_dead, ixs_z, ixs_1, ixs_2, ixs_3, ren_ints, List.map_cons, List.map_nil, hb, lks_nil]))
theorem ref23_Read (s : RS) (pos : Int) (p0 : 0 ≤ pos) (p1 : pos < 18446744073709551616) (hs : ROk s) (hn : s.l.length * 32 ≤ 100000000000000) : Ct Try.prog 46 [cv s, uA pos] [] (fun _ => .tup [cv (s.links pos).1, slL (s.links pos).2]) [] (fun _ => []) := (ref23_Read0 s pos p0 p1 hs hn).toCt (by intros; simp [ints_nil, ren_lit, ren_ref, ren_any, ren_agg, ren_tup, ren_sl, ren_fn, tren_none, tren_full, tren_row, oren_cells, oren_row, oren_dead, ixs_z, ixs_1, ixs_2, ixs_3, ren_ints, List.map_cons, List.map_nil, ixs, List.range'_succ, ren_ints]) (by intros; simp [ints_nil, ren_lit, ren_ref, ren_any, ren_agg, ren_tup, ren_sl, ren_fn, tren_none, tren_full, tren_row, oren_cells, oren_row, oren_dead, ixs_z, ixs_1, ixs_2, ixs_3, ren_ints, List.map_cons, List.map_nil, ixs, List.range'_succ, ren_ints])
end Go.Proofs.Ytkhnfleejgfhgaa
