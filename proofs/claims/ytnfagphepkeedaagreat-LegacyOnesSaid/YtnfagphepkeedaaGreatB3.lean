/-
  Contracts of chapter 23: links read, by the code and by the reference.
  Words over any program: rows that are given and grow; values told less exactly within.
  Contracts of chapter 23: the reference's links; links extended; live.
  The seat's own two facts on its program.
  From a law told over abstract values to calls in a world; how arguments are told.
  Chapter 23: LinkReads, LinkWrites.
  Contracts of chapter 24: entries' heads, by the code and by the reference; live.
  Contracts of entries, many: law24.Many, Total, Join by the reference, All.
  Contract of entry.Deal.
  Contracts of epoch and of its reference.
  Plain laws of chapter 11: tokens. No program.
  Plain laws of things that are read to the end; tokens and the bytes that they make. No program.
  Contracts of chapter 11: tokens, one by one.
  Contracts of chapters 11 and 12: tokens by the reference; expanding tokens.
  Plain laws of chapter 12: the bytes of written tokens, how many they are. No program.
  Contracts of chapter 11: tokens written.
  Contracts of chapter 11: tokens written by the reference, tokens read.
  Contracts of chapter 11: all tokens of some bytes; are tokens the same; live.
  Contracts of chapter 35: which segments of the version 1 are well-formed, which are the same.
  Contracts of chapter 35: segments of the version 1, the same or not; by the reference; long ones.
  Contracts that turn three or four objects; a value of which nothing is told. Over any program.
  Contracts of chapters 3 and 7: sums of bytes, by the code and by the reference; bytes some of whose digits are turned; a number's bytes.
  Contracts of chapter 8: frames, by the code and by the reference.
  Contracts of header's functions.
  Contracts of header's reading functions.
  Contracts of the reference's headers; live.
  Contracts of footer's checks and of its payload's reading, and of the reference's.
  Contracts of footer's payload's reading, and of the reference's.
  Contracts of chapter 35: how a segment of the version 1 is read, step by step.
  Contracts of chapter 35: a segment of the version 1 read.
  Contracts of chapter 35: a segment of the version 1 read by the reference.
  Contracts of footer's trailer and of the reference's payload; live.
  Contracts of the reference's footers, written.
  Contracts of footers' writing.
  Contracts of chapter 35: a segment of the version 1 written; by the reference.
-/
import Derived.Test.YtnfagphepkeedaaGreatB2
import Derived.Test.YtnfagphepkeedaaGreatB1
import Derived.Test.YtnfagphepkeedaaGreatRows
set_option linter.all false
set_option linter.unusedSimpArgs false
set_option linter.unusedVariables false
set_option linter.unnecessarySimpa false
section
namespace Go.Proofs.YtnfagphepkeedaaGreat
open Go.RowKit

theorem xor_max {x : Int} (h0 : 0 ≤ x) (h1 : x < 18446744073709551616) : bitsI .xor .u64 (if IntKind.u64.signed then -1 else IntKind.u64.max) x = 18446744073709551615 - x := by
  have h := xor_u64_1 h0 h1
  have e : bitsI .xor .u64 (if IntKind.u64.signed then -1 else IntKind.u64.max) x = bitsI .xor .u64 x 18446744073709551615 := by
    show IntKind.u64.wrap ((BitVec.ofInt 64 18446744073709551615 ^^^ BitVec.ofInt 64 x).toNat : Int) = IntKind.u64.wrap ((BitVec.ofInt 64 x ^^^ BitVec.ofInt 64 18446744073709551615).toNat : Int)
    rw [BitVec.xor_comm]
  rw [e, h]
theorem lkHead_nil {s : RS} (h : ROk s) : s.lkHead [] = s.vint.1 := by
  have hv := vint_range (s := s) h.bys
  unfold RS.lkHead; rw [lst_nil, if_neg (by omega)]
theorem lkHead_keep {s : RS} (h : ROk s) (acc : List Lk) : ROk (s.lkHead acc) ∧ (s.lkHead acc).l = s.l := by
  obtain ⟨a, b⟩ := h.vint
  unfold RS.lkHead; split
  · exact ⟨a.fail _ _, by rw [fail_l]; exact b⟩
  · exact ⟨a, b⟩
theorem lkHead_over {s : RS} {acc : List Lk} (h : 18446744073709551616 ≤ lst acc + 1 + s.vint.2) : s.vint.1.fail 13 s.at_ = s.lkHead acc := by
  unfold RS.lkHead
  by_cases hc : s.vint.1.code = 0
  · rw [if_pos ⟨hc, h⟩]
  · rw [if_neg fun x => hc x.1]; unfold RS.fail; rw [if_neg hc]
theorem lkHead_fits {s : RS} {acc : List Lk} (h : ¬ 18446744073709551616 ≤ lst acc + 1 + s.vint.2) : s.lkHead acc = s.vint.1 := by
  unfold RS.lkHead; rw [if_neg fun x => h x.2]
theorem linkF_f (pos : Int) (s : RS) (acc : List Lk) : (linkF pos).f s acc = (((s.lkHead acc).fall pos 4).1, ⟨lst acc + 1 + s.vint.2, ((s.lkHead acc).fall pos 4).2⟩) := rfl
theorem fall_code {s : RS} {b m : Int} (h : ROk s) (b0 : 0 ≤ b) (b1 : b < 18446744073709551616) (hc : (s.fall b m).1.code = 0) : s.code = 0 := (fall_is h b0 b1 hc).1
set_option maxHeartbeats 1000000 in
set_option maxRecDepth 100000 in
theorem link_Read0 (s : RS) (pos : Int) (p0 : 0 ≤ pos) (p1 : pos < 18446744073709551616) (hs : ROk s) (hn : s.l.length * 32 ≤ 100000000000000) : Does Tryz.prog 123 [.ref 0 0, uA pos] [rdr s] (slL (s.links pos).2) [rdr ((s.links pos).1)] := by
  have hF := linkF_ok p0 p1
  have hir := int_range (s := s) (m := 16) hs.bys
  obtain ⟨hi1, hi2⟩ := hs.int 16
  unfold RS.links Fmt.counted
  refine Does.runA Tryz.func123 b123 n123 Tryz.ntmps123 ?_; simp only [c123, go_sem, Nat.reduceAdd, Nat.reduceMul, Int.reduceToNat, Nat.reduceLeDiff, Int.reduceLE, Int.reduceLT, ↓reduceIte, Int.reduceBEq, Int.reduceBNe, Int.reduceAdd, Int.reduceSub, Int.reduceMul]; try refine okTr_and rfl ?_
  refine CallK.u1 (varint_ReadInt s 16 0 (by decide) hs.ok hs.bys) rfl ?_
  generalize hu : (s.int 16).1 = u at *
  generalize (s.int 16).2 = z at *
  obtain ⟨N, hN⟩ : ∃ N, z.toNat = N := ⟨_, rfl⟩
  have hz : z = (N : Int) := by omega
  subst hz
  rw [Int.toNat_natCast]
  (simp only [go_sem, Nat.reduceAdd, Nat.reduceMul, Int.reduceToNat, Nat.reduceLeDiff, Int.reduceLE, Int.reduceLT, ↓reduceIte, Int.reduceBEq, Int.reduceBNe, Int.reduceAdd, Int.reduceSub, Int.reduceMul]; try refine okTr_and rfl ?_)
  refine loop_of (α := RS × List Lk) (fun a => [.ref 0 0, uA pos, .any, .any, .any, .sl (.row 1) 2 (lks a.2), .any, .any, .any, .any, .any, iA N, iA a.2.length, .any, .any, .any, .any, .any, .any, .any, .any, .any, .any, .any, .any, .any, .any, .any, .any, .any, .any, .any, .any, .any, .any, .any, .any, .any, .any, .any, .any, .any, .any, .any, .any, .any, .any, .any, .any, .any, .any, .any, .any, .any, .any]) (fun a => [rdr a.1, .row 2 a.2.length]) ((linkF pos).On u N) (fun a => N - a.2.length) (u, []) (Fmt.On.start hi1 N) ((Wk.row 5 2 rfl (.inr rfl) (by decide)).trans (Wk.to (by simp) (by simp [leT, lks]))) ?_
  rintro ⟨t, acc⟩ ho
  have hla := ho.len
  rw [hi2] at hla
  have h1 := ho.ok
  have h2 := ho.l
  have h6 := ho.res
  have hwf := ho.wf
  simp only at h1 h2 h6 hwf
  have hg := lst_ge hwf
  have htl : t.l.length * 32 ≤ 100000000000000 := by rw [h2, hi2]; exact hn
  (simp only [go_sem, Nat.reduceAdd, Nat.reduceMul, Int.reduceToNat, Nat.reduceLeDiff, Int.reduceLE, Int.reduceLT, ↓reduceIte, Int.reduceBEq, Int.reduceBNe, Int.reduceAdd, Int.reduceSub, Int.reduceMul]; try refine okTr_and rfl ?_)
  by_cases hlt : acc.length < N
  · have q0 : decide ((acc.length : Int) < (N : Int)) = true := by simp; omega
    have ei := i64_succ acc.length (by omega)
    have hx := vint_range (s := t) h1.bys
    obtain ⟨hk1, hk2⟩ := lkHead_keep h1 acc
    obtain ⟨hv1, hv2⟩ := h1.vint
    have hff := linkF_f pos t acc
    have hkl : (t.lkHead acc).l.length * 8 ≤ 140737488355328 := by rw [hk2]; omega
    have hnx : ((t.lkHead acc).fall pos 4).1.code = 0 → (linkF pos).On u N (((t.lkHead acc).fall pos 4).1, acc ++ [⟨lst acc + 1 + t.vint.2, ((t.lkHead acc).fall pos 4).2⟩]) := fun hc => by
      have := ho.next hF hlt (by rw [hff]; exact hc)
      rw [hff] at this; exact this
    have hnb : ¬ ((t.lkHead acc).fall pos 4).1.code = 0 → (linkF pos).many N u [] = (((t.lkHead acc).fall pos 4).1, []) := fun hc => by
      have := many_bad (F := linkF pos) (s := t) hlt (by rw [hff]; exact hc)
      rw [h6, hff] at this; exact this
    have hst : ((t.lkHead acc).fall pos 4).1.code = 0 → lst acc + 1 + t.vint.2 < 18446744073709551616 := fun hc => by
      rcases Int.lt_or_le (lst acc + 1 + t.vint.2) 18446744073709551616 with h | h
      · exact h
      · have hh := fall_code hk1 p0 p1 hc
        unfold RS.lkHead at hh
        by_cases hc0 : t.vint.1.code = 0
        · rw [if_pos ⟨hc0, h⟩] at hh; exact absurd hh (fail_not0 _ _ hc0 (by decide))
        · rw [if_neg fun x => hc0 x.1] at hh; exact absurd hh hc0
    (simp only [go_sem, Nat.reduceAdd, Nat.reduceMul, Int.reduceToNat, Nat.reduceLeDiff, Int.reduceLE, Int.reduceLT, ↓reduceIte, Int.reduceBEq, Int.reduceBNe, Int.reduceAdd, Int.reduceSub, Int.reduceMul, q0]; try refine okTr_and rfl ?_)
    refine CallK.r1 (Reader_At t 0) rfl ?_; (simp only [go_sem, Nat.reduceAdd, Nat.reduceMul, Int.reduceToNat, Nat.reduceLeDiff, Int.reduceLE, Int.reduceLT, ↓reduceIte, Int.reduceBEq, Int.reduceBNe, Int.reduceAdd, Int.reduceSub, Int.reduceMul]; try refine okTr_and rfl ?_)
    refine CallK.u1 (varint_Read t 0 h1.ok h1.bys) rfl ?_; (simp only [go_sem, Nat.reduceAdd, Nat.reduceMul, Int.reduceToNat, Nat.reduceLeDiff, Int.reduceLE, Int.reduceLT, ↓reduceIte, Int.reduceBEq, Int.reduceBNe, Int.reduceAdd, Int.reduceSub, Int.reduceMul]; try refine okTr_and rfl ?_)
    by_cases h0 : 0 < acc.length
    · have q1 : decide ((0 : Int) < (acc.length : Int)) = true := by simp; omega
      have ep := i64_pred acc.length h0 (by omega)
      have g := lks_get acc (acc.length - 1) (by omega)
      have hlg := lst_get acc h0
      obtain ⟨w, hw⟩ : ∃ w, (acc.getD (acc.length - 1) lk0).st = w := ⟨_, rfl⟩
      rw [hw] at hlg
      have g' : (lks acc).getD (acc.length - 1) .any = .agg [uA w, slU (acc.getD (acc.length - 1) lk0).bk] := by rw [g, ← hw]
      have hw0 : 0 ≤ w ∧ w < 18446744073709551616 := by
        have hlw := wf_get (acc.length - 1) (by omega) hwf
        rw [List.nil_append] at hlw
        have hg2 := lst_ge (wf_take (acc.length - 1) hwf)
        have e : acc[acc.length - 1] = acc.getD (acc.length - 1) lk0 := by simp [show acc.length - 1 < acc.length by omega]
        have hl1 : lst (acc.take (acc.length - 1)) < acc[acc.length - 1].st := hlw.1
        have hl2 : acc[acc.length - 1].st < 18446744073709551616 := hlw.2.1
        rw [e, hw] at hl1 hl2
        exact ⟨by have := hg2.1; omega, hl2⟩
      have ex := xor_max hw0.1 hw0.2
      by_cases hov : 18446744073709551615 - w ≤ t.vint.2
      · have q2 : decide (18446744073709551615 - w ≤ t.vint.2) = true := by simpa using hov
        have hhe := lkHead_over (s := t) (acc := acc) (by omega)
        (simp only [go_sem, Nat.reduceAdd, Nat.reduceMul, Int.reduceToNat, Nat.reduceLeDiff, Int.reduceLE, Int.reduceLT, ↓reduceIte, Int.reduceBEq, Int.reduceBNe, Int.reduceAdd, Int.reduceSub, Int.reduceMul, q1, ep, g', lks_length, Int.toNat_natCast, ex, q2]; try refine okTr_and rfl ?_)
        (repeat ((with_reducible refine And.intro ?_ ?_); (· exact sd)))
        refine CallK.u1 (Reader_Fail t.vint.1 13 t.at_ 0) rfl ?_; (simp only [go_sem, Nat.reduceAdd, Nat.reduceMul, Int.reduceToNat, Nat.reduceLeDiff, Int.reduceLE, Int.reduceLT, ↓reduceIte, Int.reduceBEq, Int.reduceBNe, Int.reduceAdd, Int.reduceSub, Int.reduceMul, hhe]; try refine okTr_and rfl ?_)
        refine CallK.u1 (delta_Read (t.lkHead acc) pos 4 0 p0 p1 (by decide) hk1 hkl) rfl ?_; (simp only [go_sem, Nat.reduceAdd, Nat.reduceMul, Int.reduceToNat, Nat.reduceLeDiff, Int.reduceLE, Int.reduceLT, ↓reduceIte, Int.reduceBEq, Int.reduceBNe, Int.reduceAdd, Int.reduceSub, Int.reduceMul]; try refine okTr_and rfl ?_)
        have hbad : ¬ ((t.lkHead acc).fall pos 4).1.code = 0 := fun hc => by have := hst hc; omega
        have hb := hnb hbad
        refine CallK.r1 (Reader_Good ((t.lkHead acc).fall pos 4).1 0) rfl ?_; (simp only [go_sem, Nat.reduceAdd, Nat.reduceMul, Int.reduceToNat, Nat.reduceLeDiff, Int.reduceLE, Int.reduceLT, ↓reduceIte, Int.reduceBEq, Int.reduceBNe, Int.reduceAdd, Int.reduceSub, Int.reduceMul, good_false hbad]; try refine okTr_and rfl ?_)
        (refine FinK.nilk 4 2 rfl ?_; simp only [List.set_cons_zero, List.set_cons_succ])
        ((refine FinK.finB r123 [0] ?_ ?_); (· first | with_reducible rfl | (simp [hb, lks_nil]; done) | rfl); (· simp [resAL, resA1, loadA, oneOr, hb, lks_nil]))
      · have q2 : decide (18446744073709551615 - w ≤ t.vint.2) = false := by simpa using hov
        have hhe := lkHead_fits (s := t) (acc := acc) (by omega)
        have e1 : IntKind.u64.wrap (w + 1) = w + 1 := IntWalk.u64_in _ (by omega)
        have e2 : IntKind.u64.wrap (t.vint.2 + (w + 1)) = lst acc + 1 + t.vint.2 := by rw [IntWalk.u64_in _ (by omega)]; omega
        rw [hhe] at hnx hnb hkl
        (simp only [go_sem, Nat.reduceAdd, Nat.reduceMul, Int.reduceToNat, Nat.reduceLeDiff, Int.reduceLE, Int.reduceLT, ↓reduceIte, Int.reduceBEq, Int.reduceBNe, Int.reduceAdd, Int.reduceSub, Int.reduceMul, q1, ep, g', lks_length, Int.toNat_natCast, ex, q2, e1, e2]; try refine okTr_and rfl ?_)
        (repeat ((with_reducible refine And.intro ?_ ?_); (· exact sd)))
        refine CallK.u1 (delta_Read t.vint.1 pos 4 0 p0 p1 (by decide) hv1 hkl) rfl ?_; (simp only [go_sem, Nat.reduceAdd, Nat.reduceMul, Int.reduceToNat, Nat.reduceLeDiff, Int.reduceLE, Int.reduceLT, ↓reduceIte, Int.reduceBEq, Int.reduceBNe, Int.reduceAdd, Int.reduceSub, Int.reduceMul]; try refine okTr_and rfl ?_)
        by_cases hc : (t.vint.1.fall pos 4).1.code = 0
        · have hon := hnx hc
          have hl2 := hon.len
          rw [List.length_append, List.length_singleton, hi2] at hl2
          refine CallK.r1 (Reader_Good (t.vint.1.fall pos 4).1 0) rfl ?_; (simp only [go_sem, Nat.reduceAdd, Nat.reduceMul, Int.reduceToNat, Nat.reduceLeDiff, Int.reduceLE, Int.reduceLT, ↓reduceIte, Int.reduceBEq, Int.reduceBNe, Int.reduceAdd, Int.reduceSub, Int.reduceMul, good_true hc, lks_snoc, lks_length, ei]; try refine okTr_and rfl ?_)
          (repeat ((with_reducible refine And.intro ?_ ?_); (· exact sd)))
          exact ⟨((t.vint.1.fall pos 4).1, acc ++ [⟨lst acc + 1 + t.vint.2, (t.vint.1.fall pos 4).2⟩]), hon, by simp; omega, Wk.sel [0, 1] (by simp) rfl (by simp) rfl (by simp [ixs_z, rdr_ren]) (by simp [selT, ixs_z, lks, ixs])⟩
        · have hb := hnb hc
          refine CallK.r1 (Reader_Good (t.vint.1.fall pos 4).1 0) rfl ?_; (simp only [go_sem, Nat.reduceAdd, Nat.reduceMul, Int.reduceToNat, Nat.reduceLeDiff, Int.reduceLE, Int.reduceLT, ↓reduceIte, Int.reduceBEq, Int.reduceBNe, Int.reduceAdd, Int.reduceSub, Int.reduceMul, good_false hc]; try refine okTr_and rfl ?_)
          (refine FinK.nilk 4 2 rfl ?_; simp only [List.set_cons_zero, List.set_cons_succ])
          ((refine FinK.finB r123 [0] ?_ ?_); (· first | with_reducible rfl | (simp [hb, lks_nil]; done) | rfl); (· simp [resAL, resA1, loadA, oneOr, hb, lks_nil]))
    · have hnil : acc = [] := List.eq_nil_of_length_eq_zero (by omega)
      have q1 : decide ((0 : Int) < (acc.length : Int)) = false := by rw [hnil]; rfl
      have hhe := lkHead_nil h1
      rw [← hnil] at hhe
      rw [hhe] at hnx hnb hkl
      have hl0 : lst acc = -1 := by rw [hnil]; rfl
      have e2 : t.vint.2 = lst acc + 1 + t.vint.2 := by omega
      (simp only [go_sem, Nat.reduceAdd, Nat.reduceMul, Int.reduceToNat, Nat.reduceLeDiff, Int.reduceLE, Int.reduceLT, ↓reduceIte, Int.reduceBEq, Int.reduceBNe, Int.reduceAdd, Int.reduceSub, Int.reduceMul, q1]; try refine okTr_and rfl ?_)
      refine CallK.u1 (delta_Read t.vint.1 pos 4 0 p0 p1 (by decide) hv1 hkl) rfl ?_; (simp only [go_sem, Nat.reduceAdd, Nat.reduceMul, Int.reduceToNat, Nat.reduceLeDiff, Int.reduceLE, Int.reduceLT, ↓reduceIte, Int.reduceBEq, Int.reduceBNe, Int.reduceAdd, Int.reduceSub, Int.reduceMul]; try refine okTr_and rfl ?_)
      by_cases hc : (t.vint.1.fall pos 4).1.code = 0
      · have hon := hnx hc
        have hl2 := hon.len
        rw [List.length_append, List.length_singleton, hi2] at hl2
        rw [← e2] at hon
        have esn : lks acc ++ [.agg [uA t.vint.2, slU (t.vint.1.fall pos 4).2]] = lks (acc ++ [⟨t.vint.2, (t.vint.1.fall pos 4).2⟩]) := lks_snoc acc ⟨t.vint.2, (t.vint.1.fall pos 4).2⟩
        refine CallK.r1 (Reader_Good (t.vint.1.fall pos 4).1 0) rfl ?_; (simp only [go_sem, Nat.reduceAdd, Nat.reduceMul, Int.reduceToNat, Nat.reduceLeDiff, Int.reduceLE, Int.reduceLT, ↓reduceIte, Int.reduceBEq, Int.reduceBNe, Int.reduceAdd, Int.reduceSub, Int.reduceMul, good_true hc, esn, lks_length, ei]; try refine okTr_and rfl ?_)
        (repeat ((with_reducible refine And.intro ?_ ?_); (· exact sd)))
        exact ⟨((t.vint.1.fall pos 4).1, acc ++ [⟨t.vint.2, (t.vint.1.fall pos 4).2⟩]), hon, by simp; omega, Wk.sel [0, 1] (by simp) rfl (by simp) rfl (by simp [ixs_z, rdr_ren]) (by simp [selT, ixs_z, lks, ixs])⟩
      · have hb := hnb hc
        refine CallK.r1 (Reader_Good (t.vint.1.fall pos 4).1 0) rfl ?_; (simp only [go_sem, Nat.reduceAdd, Nat.reduceMul, Int.reduceToNat, Nat.reduceLeDiff, Int.reduceLE, Int.reduceLT, ↓reduceIte, Int.reduceBEq, Int.reduceBNe, Int.reduceAdd, Int.reduceSub, Int.reduceMul, good_false hc]; try refine okTr_and rfl ?_)
        (refine FinK.nilk 4 2 rfl ?_; simp only [List.set_cons_zero, List.set_cons_succ])
        ((refine FinK.finB r123 [0] ?_ ?_); (· first | with_reducible rfl | (simp [hb, lks_nil]; done) | rfl); (· simp [resAL, resA1, loadA, oneOr, hb, lks_nil]))
  · have q0 : decide ((acc.length : Int) < (N : Int)) = false := by simp; omega
    have hb := many_end (F := linkF pos) (s := t) (N := N) (acc := acc) (by omega)
    rw [h6] at hb
    (simp only [go_sem, Nat.reduceAdd, Nat.reduceMul, Int.reduceToNat, Nat.reduceLeDiff, Int.reduceLE, Int.reduceLT, ↓reduceIte, Int.reduceBEq, Int.reduceBNe, Int.reduceAdd, Int.reduceSub, Int.reduceMul, q0]; try refine okTr_and rfl ?_)
    (refine FinK.untag 4 rfl ?_; simp only [untag1_sl, List.set_cons_zero, List.set_cons_succ])
    ((refine FinK.finB r123 [0] ?_ ?_); (· first | with_reducible rfl | (simp [hb]; done) | rfl); (· simp [resAL, resA1, loadA, oneOr, hb]))
theorem link_Read (s : RS) (pos : Int) (i : Nat) (p0 : 0 ≤ pos) (p1 : pos < 18446744073709551616) (hs : ROk s) (hn : s.l.length * 32 ≤ 100000000000000) : Ct Tryz.prog 123 [.ref i 0, uA pos] [(i, rdr s)] (fun _ => slL (s.links pos).2) [(i, rdr ((s.links pos).1))] (fun _ => []) := Ct.u1 (link_Read0 s pos p0 p1 hs hn) i cl (fun ρ => rdr_ren ρ _) (fun ρ => rdr_ren ρ _) (rdr_dead _) cl
end Go.Proofs.YtnfagphepkeedaaGreat
end
section
namespace Go.Proofs.YtnfagphepkeedaaGreat
open Go.RowKit

section
variable {P : Program} {f : FuncId} {args args₀ : List AV} {S : List AObj} {K : KT}
/-- A row that is given, and grows. -/
theorem Ct.o1 {o o' : AObj} {r₀ r : AV} (h : Does P f args₀ [o] r₀ [o']) (i : Nat) (ha : ∀ N, args₀.map (fun x => x.ren (ixs [i] N)) = args) (ho : ∀ ρ, o.ren ρ = o) (ho' : ∀ ρ, o'.ren ρ = o') (hd : o ≠ .dead) (hr : ∀ N, r₀.ren (ixs [i] N) = r) :
    Ct P f args [(i, o)] (fun _ => r) [(i, o')] (fun _ => []) :=
  Ct.mk h [i] (by simp) rfl (by simp) (by simpa using hd) (fun n N => ha N) (fun n N => by simpa using hr N) (fun n N => by simp [ho]) (.inl fun n N => by simp [ho']) (fun n N => rfl)
theorem CallK.o1 {r : AV} {i : Nat} {o o' : AObj} (h : Ct P f args [(i, o)] (fun _ => r) [(i, o')] (fun _ => [])) (hS : S[i]? = some o) (hK : K r [i] [(i, o')] []) : CallK P f args S K := CallK.of h (by simpa using hS) (by simp) hK
end
section
variable {P : Program} {f : FuncId} {args args' : List AV} {S : List AObj} {K : KT}
end
section
variable {P : Program} {f : FuncId} {args args' : List AV} {S : List AObj} {K : KT} {m : Nat} {fn : Func}
end
/-- One value told less exactly than another: whose its slices are is forgotten, an empty slice is one of anything. -/
structure Wa (x y : AV) : Prop where
  len : x.cells.length = y.cells.length
  val : ∀ (G : Gh) (v : Value), Rep G x v → Rep G y v
  cel : ∀ (j : Nat) (a b : AV), x.cells[j]? = some a → y.cells[j]? = some b → ∀ (G : Gh) (v : Value), Rep G a v → Rep G b v
def WaL (xs ys : List AV) : Prop := xs.length = ys.length ∧ ∀ (j : Nat) (x y : AV), xs[j]? = some x → ys[j]? = some y → Wa x y
theorem Wa.refl (x : AV) : Wa x x := ⟨rfl, fun _ _ r => r, fun j a b ha hb G v r => by rw [ha] at hb; injection hb with hb; subst hb; exact r⟩
theorem WaL.nil : WaL [] [] := ⟨rfl, fun j x y h => by simp at h⟩
theorem WaL.cons {x y : AV} {xs ys : List AV} (h : Wa x y) (k : WaL xs ys) : WaL (x :: xs) (y :: ys) := by
  refine ⟨by simp [k.1], fun j a b ha hb => ?_⟩
  cases j with
  | zero => simp at ha hb; subst ha hb; exact h
  | succ j => simp at ha hb; exact k.2 j a b ha hb
theorem WaL.refl (xs : List AV) : WaL xs xs := ⟨rfl, fun j x y hx hy => by rw [hx] at hy; injection hy with hy; subst hy; exact .refl _⟩
theorem WaL.map {α : Type} {f g : α → AV} (h : ∀ x, Wa (f x) (g x)) (l : List α) : WaL (l.map f) (l.map g) := ⟨by simp, fun j x y hx hy => by
  obtain ⟨a, ha, rfl⟩ := map_get hx
  obtain ⟨b, hb, rfl⟩ := map_get hy
  rw [ha] at hb; injection hb with hb; subst hb; exact h a⟩
theorem WaL.app {xs ys xs' ys' : List AV} (h : WaL xs ys) (k : WaL xs' ys') : WaL (xs ++ xs') (ys ++ ys') := by
  refine ⟨by simp [h.1, k.1], fun j x y hx hy => ?_⟩
  rw [List.getElem?_append] at hx hy
  rw [h.1] at hx
  split at hx
  · rename_i hl; rw [if_pos hl] at hy; exact h.2 j x y hx hy
  · rename_i hl; rw [if_neg hl] at hy; exact k.2 _ x y hx hy
theorem one_cel {x y : AV} (hx : x.cells = [x]) (hy : y.cells = [y]) (h : ∀ (G : Gh) (v : Value), Rep G x v → Rep G y v) : Wa x y := by
  refine ⟨by rw [hx, hy]; rfl, h, fun j a b ha hb G v r => ?_⟩
  rw [hx] at ha
  rw [hy] at hb
  cases j with
  | zero => simp at ha hb; subst ha hb; exact h G v r
  | succ j => simp at ha
theorem Wa.sl {t t' : Tag} {k k' : Nat} {xs ys : List AV} (ht : t' = .none ∨ t' = t) (hk : k = k' ∨ xs = []) (hw : WaL xs ys) : Wa (.sl t k xs) (.sl t' k' ys) := by
  obtain ⟨hl, h⟩ := hw
  refine one_cel rfl rfl fun G v r => ?_
  cases r with
  | @sl _ _ _ A c b o vs hc hA hk1 h1 h2 h3 ht1 =>
    have htag : TagOk G t' A ys.length c := by
      rcases ht with rfl | rfl
      · trivial
      · rw [← hl]; exact ht1
    have main : Rep G (.sl t' k' ys) (.slice A ys.length c) := by
      rcases hk with rfl | rfl
      · refine .sl (b := b) (o := o) vs (by rw [← hl]; exact hc) (by rw [← hl]; exact hA) (fun i y hy => ?_) (by rw [← hl]; exact h1) (by rw [← hl]; exact h2) (fun i j y z hy hz => ?_) htag
        · have hi : i < xs.length := by rw [hl]; exact (List.getElem?_eq_some_iff.1 hy).1
          have hx := List.getElem?_eq_getElem hi
          rw [← (h i _ y hx hy).len]; exact hk1 i _ hx
        · have hi : i < xs.length := by rw [hl]; exact (List.getElem?_eq_some_iff.1 hy).1
          have hx := List.getElem?_eq_getElem hi
          have hw := h i _ y hx hy
          have hj : j < xs[i].cells.length := by rw [hw.len]; exact (List.getElem?_eq_some_iff.1 hz).1
          have hu := List.getElem?_eq_getElem hj
          exact hw.cel j _ z hu hz G _ (h3 i j _ _ hx hu)
      · obtain rfl : ys = [] := List.eq_nil_of_length_eq_zero (by rw [← hl]; rfl)
        exact .sl (b := b) (o := o) vs (by simp) (by simp) (by simp) (by simp) (by simp) (by simp) htag
    rw [← hl] at main; exact main
theorem Wa.agg {xs ys : List AV} (hw : WaL xs ys) : Wa (.agg xs) (.agg ys) := by
  obtain ⟨hl, h⟩ := hw
  refine ⟨hl, fun G v r => ?_, fun j a b ha hb G v r => (h j a b ha hb).val G v r⟩
  cases r with
  | @agg _ vs h0 h2 h3 =>
    refine .agg (by rw [← hl]; exact h0) h2 fun j y v hy hv => ?_
    have hj : j < xs.length := by rw [hl]; exact (List.getElem?_eq_some_iff.1 hy).1
    have hx := List.getElem?_eq_getElem hj
    exact (h j _ y hx hy).val G v (h3 j _ v hx hv)
theorem Wa.tup {xs ys : List AV} (hw : WaL xs ys) : Wa (.tup xs) (.tup ys) := by
  obtain ⟨hl, h⟩ := hw
  refine one_cel rfl rfl fun G v r => ?_
  cases r with
  | @tup _ vs h0 h3 =>
    refine .tup (by rw [← hl]; exact h0) fun j y v hy hv => ?_
    have hj : j < xs.length := by rw [hl]; exact (List.getElem?_eq_some_iff.1 hy).1
    have hx := List.getElem?_eq_getElem hj
    exact (h j _ y hx hy).val G v (h3 j _ v hx hv)
theorem Wa.slN {t : Tag} {k : Nat} {xs ys : List AV} (h : WaL xs ys) : Wa (.sl t k xs) (.sl .none k ys) := .sl (.inl rfl) (.inl rfl) h
theorem Wa.slS {t : Tag} {k : Nat} {xs ys : List AV} (h : WaL xs ys) : Wa (.sl t k xs) (.sl t k ys) := .sl (.inr rfl) (.inl rfl) h
theorem Wa.none {t : Tag} {k : Nat} {xs : List AV} : Wa (.sl t k xs) (.sl .none k xs) := .slN (WaL.refl xs)
theorem Wa.nil {t : Tag} {k k' : Nat} : Wa (.sl t k []) (.sl .none k' []) := .sl (.inl rfl) (.inr rfl) WaL.nil
section
variable {P : Program} {f : FuncId} {args args' : List AV} {S : List AObj} {m : Nat} {fn : Func} {tm : List AV}
theorem Ct.weak {rd : List (Nat × AObj)} {r : Nat → AV} {upd : List (Nat × AObj)} {new : Nat → List AObj} (h : Ct P f args' rd r upd new) (he : WaL args args') : Ct P f args rd r upd new := fun T n h1 h2 => by
  have hd := h T n h1 h2
  refine ⟨hd.1, fun G w vs hw hr => hd.2 G w vs hw ⟨by rw [← he.1]; exact hr.1, fun j y v hy hv => ?_⟩⟩
  have hj : j < args.length := by rw [he.1]; exact (List.getElem?_eq_some_iff.1 hy).1
  have hx := List.getElem?_eq_getElem hj
  exact (he.2 j _ y hx hy).val G v (hr.2 j _ v hx hv)
theorem Wk.wa (t : Nat) {x y : AV} (ht : tm[t]? = some x) (h : Wa x y) : Wk m tm S (tm.set t y) S := fun G0 S0 w0 G a w _ hz => by
  have htl := (List.getElem?_eq_some_iff.1 ht).1
  refine ⟨G, hz.left, by simp [hz.size], fun t' z u hx hu => ?_, hz.defers, hz.wd0⟩
  by_cases et : t' = t
  · subst et
    simp [htl] at hx; subst hx
    exact h.val _ _ (hz.rep t' x u ht hu)
  · rw [List.getElem?_set_ne (Ne.symm et)] at hx
    exact hz.rep t' z u hx hu
theorem FinK.wa {S' : List AObj} {r : AV} (t : Nat) {x y : AV} (ht : tm[t]? = some x) (h : Wa x y) (k : FinK P m fn (tm.set t y) S r S') : FinK P m fn tm S r S' := FinK.wk (Wk.wa t ht h) k
theorem Wk.wao (i : Nat) {xs ys : List AV} (hi : S[i]? = some (.cells xs)) (h : WaL xs ys) : Wk m tm S tm (S.set i (.cells ys)) := fun G0 S0 w0 G a w _ hz => by
  refine ⟨G, hz.left.trans (Left.reobj hz.left.wd hi h.1.symm fun k y v hy hx => ?_), hz.size, hz.rep, hz.defers, hz.wd0⟩
  have hk : k < xs.length := by rw [h.1]; exact (List.getElem?_eq_some_iff.1 hy).1
  have he := List.getElem?_eq_getElem hk
  exact (h.2 k _ y he hy).val _ _ (hx _ he)
theorem FinK.wao {S' : List AObj} {r : AV} (i : Nat) {xs ys : List AV} (hi : S[i]? = some (.cells xs)) (h : WaL xs ys) (k : FinK P m fn tm (S.set i (.cells ys)) r S') : FinK P m fn tm S r S' := FinK.wk (Wk.wao i hi h) k
end
end Go.Proofs.YtnfagphepkeedaaGreat
end
section
namespace Go.Proofs.YtnfagphepkeedaaGreat
open Go.RowKit

end Go.Proofs.YtnfagphepkeedaaGreat
end
section
namespace Go.Proofs.YtnfagphepkeedaaGreat
open Go.RowKit

theorem Tryz.own : ownKnob Tryz.prog.godebug = none := by kernel_rfl
theorem Tryz.laidOut : laidOutB Tryz.prog = true := by kernel_rfl

end Go.Proofs.YtnfagphepkeedaaGreat
end
section
namespace Go.Proofs.YtnfagphepkeedaaGreat
open Go.RowKit Go.ChangeShapes Go.WideShapes Go.ChangeAt

/-- All cells of a world lie still. -/
def G0 (W : World) : Gh := ⟨fun b i => W.cell? ⟨b, i, none⟩, fun _ => none, fun _ _ => none⟩
theorem wd0 (W : World) : Wd (G0 W) [] W :=
  ⟨fun b i v h => h, fun i _ => ⟨rfl, fun _ => rfl⟩, fun i xs h => by simp at h, fun j k n h => by simp at h, fun i j b h => by simp [blk] at h⟩
theorem Does.top {P : Program} {f : FuncId} {args : List AV} (h : Does P f args [] (.lit (.bool true)) []) {W : World} {vs : Array Value} (hr : RepL (G0 W) args vs.toList) :
    Calls P f vs W fun r W' => r = .returned (.bool true) ∧ Below W.heap.size W W' := by
  refine (h.2 (G0 W) W vs (wd0 W) hr).mono fun r W' ⟨v, G', e, hv, hl⟩ => ?_
  cases hv
  exact ⟨e, hl.kept.below (fun i _ j => by simp [blk]) (Nat.le_refl _)⟩
theorem RdI.rep {k : IntKind} {W : World} {F : Nat → Prop} {v : Value} {l : List Int} (h : RdI k W F v l) : Rep (G0 W) (.sl .none 1 (ints k l)) v := by
  obtain ⟨A, c, rfl, hc, _, hA⟩ := h
  have hlen := ints_length k l
  obtain ⟨b, o, hb, hcell⟩ : ∃ b o, (0 < l.length → A = some ⟨b, o, none⟩) ∧ ∀ i, i < l.length → W.cell? ⟨b, o + i, none⟩ = some (.int k (l.getD i 0)) := by
    rcases Nat.eq_zero_or_pos l.length with h0 | h0
    · exact ⟨0, 0, fun h => by omega, fun i hi => by omega⟩
    · obtain ⟨b, o, h1, _, h2⟩ := hA h0
      exact ⟨b, o, fun _ => h1, h2⟩
  rw [← hlen]
  refine .sl (b := b) (o := o) (fun i _ => .int k (l.getD i 0)) (by rw [hlen]; exact hc) (fun h => hb (by rw [hlen] at h; exact h)) (fun i x hx => ?_) (fun i j hi hj => ?_) (fun _ _ _ _ => rfl) (fun i j x y hx hy => ?_) trivial
  · simp only [ints, List.getElem?_map, Option.map_eq_some_iff] at hx
    obtain ⟨z, _, rfl⟩ := hx; rfl
  · obtain rfl : j = 0 := by omega
    rw [hlen] at hi
    simpa [G0] using hcell i hi
  · simp only [ints, List.getElem?_map, Option.map_eq_some_iff] at hx
    obtain ⟨z, hz, rfl⟩ := hx
    simp only [AV.cells] at hy
    cases j with
    | zero =>
      simp at hy; subst hy
      have : l.getD i 0 = z := by simp [hz]
      rw [this]; exact .lit _
    | succ j => simp at hy
end Go.Proofs.YtnfagphepkeedaaGreat
end
section
namespace Go.Proofs.YtnfagphepkeedaaGreat
open Go.RowKit

end Go.Proofs.YtnfagphepkeedaaGreat
end
section
namespace Go.Proofs.YtnfagphepkeedaaGreat
open Go.RowKit

/-- An entry. -/
abbrev enA (e : En) : AV := .agg [slL e.lk, slA .u8 e.data]
def smallE (e : En) : Prop := Smalls e.lk ∧ e.data.length ≤ 100000000
end Go.Proofs.YtnfagphepkeedaaGreat
end
section
namespace Go.Proofs.YtnfagphepkeedaaGreat
open Go.RowKit

def ens (l : List En) : List AV := l.map enA
abbrev slE (l : List En) : AV := .sl .none 2 (ens l)
theorem ens_length (l : List En) : (ens l).length = l.length := by simp [ens]
@[simp] theorem ren_ens (ρ : Nat → Nat) (l : List En) : (ens l).map (fun x => x.ren ρ) = ens l := by
  simp [ens, Function.comp_def, ixs_z, ren_ints, ren_lks]
end Go.Proofs.YtnfagphepkeedaaGreat
end
section
namespace Go.Proofs.YtnfagphepkeedaaGreat
open Go.RowKit

end Go.Proofs.YtnfagphepkeedaaGreat
end
section
section
namespace Go.Proofs.YtnfagphepkeedaaGreat
open Go.RowKit

theorem epoch_Right0 (e : Int) : Does Tryz.prog 72 [uA e] [] (bA (epRight e)) [] := by
  refine Does.runA Tryz.func72 b72 n72 Tryz.ntmps72 ?_; simp only [c72, go_sem, Nat.reduceAdd, Nat.reduceMul, Int.reduceToNat, Nat.reduceLeDiff, Int.reduceLE, Int.reduceLT, ↓reduceIte, Int.reduceBEq, Int.reduceBNe, Int.reduceAdd, Int.reduceSub, Int.reduceMul]; try refine okTr_and rfl ?_
  by_cases h1 : 1 ≤ e
  · have q : decide (1 ≤ e) = true := by simpa using h1
    (simp only [go_sem, Nat.reduceAdd, Nat.reduceMul, Int.reduceToNat, Nat.reduceLeDiff, Int.reduceLE, Int.reduceLT, ↓reduceIte, Int.reduceBEq, Int.reduceBNe, Int.reduceAdd, Int.reduceSub, Int.reduceMul, q]; try refine okTr_and rfl ?_)
    ((refine FinK.finB r72 [] ?_ ?_); (· first | with_reducible rfl | (simp [epRight, q]; done) | rfl); (· simp [resAL, resA1, loadA, oneOr, epRight, q]))
  · have q : decide (1 ≤ e) = false := by simpa using h1
    (simp only [go_sem, Nat.reduceAdd, Nat.reduceMul, Int.reduceToNat, Nat.reduceLeDiff, Int.reduceLE, Int.reduceLT, ↓reduceIte, Int.reduceBEq, Int.reduceBNe, Int.reduceAdd, Int.reduceSub, Int.reduceMul, q]; try refine okTr_and rfl ?_)
    ((refine FinK.finB r72 [] ?_ ?_); (· first | with_reducible rfl | (simp [epRight, q]; done) | rfl); (· simp [resAL, resA1, loadA, oneOr, epRight, q]))
theorem epoch_Right (e : Int) : Ct Tryz.prog 72 [uA e] [] (fun _ => bA (epRight e)) [] (fun _ => []) := (epoch_Right0 e).toCt clo clo
theorem ref17_Right0 (e : Int) : Does Tryz.prog 76 [uA e] [] (bA (epRight e)) [] := by
  refine Does.runA Tryz.func76 b76 n76 Tryz.ntmps76 ?_; simp only [c76, go_sem, Nat.reduceAdd, Nat.reduceMul, Int.reduceToNat, Nat.reduceLeDiff, Int.reduceLE, Int.reduceLT, ↓reduceIte, Int.reduceBEq, Int.reduceBNe, Int.reduceAdd, Int.reduceSub, Int.reduceMul]; try refine okTr_and rfl ?_
  by_cases h1 : 0 < e
  · have q : decide (0 < e) = true := by simpa using h1
    have q2 : decide (e ≤ 4611686018427387903) = epRight e := by unfold epRight; rw [Bool.eq_iff_iff]; simp; omega
    (simp only [go_sem, Nat.reduceAdd, Nat.reduceMul, Int.reduceToNat, Nat.reduceLeDiff, Int.reduceLE, Int.reduceLT, ↓reduceIte, Int.reduceBEq, Int.reduceBNe, Int.reduceAdd, Int.reduceSub, Int.reduceMul, q, q2]; try refine okTr_and rfl ?_)
    exact FinK.finA r76 []
  · have q : decide (0 < e) = false := by simpa using h1
    have q2 : epRight e = false := by unfold epRight; simp; omega
    (simp only [go_sem, Nat.reduceAdd, Nat.reduceMul, Int.reduceToNat, Nat.reduceLeDiff, Int.reduceLE, Int.reduceLT, ↓reduceIte, Int.reduceBEq, Int.reduceBNe, Int.reduceAdd, Int.reduceSub, Int.reduceMul, q, q2]; try refine okTr_and rfl ?_)
    ((refine FinK.finB r76 [] ?_ ?_); (· first | with_reducible rfl | (simp [q2]; done) | rfl); (· simp [resAL, resA1, loadA, oneOr, q2]))
theorem ref17_Right (e : Int) : Ct Tryz.prog 76 [uA e] [] (fun _ => bA (epRight e)) [] (fun _ => []) := (ref17_Right0 e).toCt clo clo
theorem epoch_Pos0 (e : Int) : Does Tryz.prog 131 [uA e] [] (bA (epPos e)) [] := by
  refine Does.runA Tryz.func131 b131 n131 Tryz.ntmps131 ?_; simp only [c131, go_sem, Nat.reduceAdd, Nat.reduceMul, Int.reduceToNat, Nat.reduceLeDiff, Int.reduceLE, Int.reduceLT, ↓reduceIte, Int.reduceBEq, Int.reduceBNe, Int.reduceAdd, Int.reduceSub, Int.reduceMul]; try refine okTr_and rfl ?_
  ((refine FinK.finB r131 [] ?_ ?_); (· first | with_reducible rfl | (simp [epPos]; done) | rfl); (· simp [resAL, resA1, loadA, oneOr, epPos]))
theorem epoch_Pos (e : Int) : Ct Tryz.prog 131 [uA e] [] (fun _ => bA (epPos e)) [] (fun _ => []) := (epoch_Pos0 e).toCt clo clo
theorem ref17_Pos0 (e : Int) : Does Tryz.prog 132 [uA e] [] (bA (epPos e)) [] := by
  have q : decide (e ≤ 4611686018427387903) = epPos e := by unfold epPos; rw [Bool.eq_iff_iff]; simp; omega
  refine Does.runA Tryz.func132 b132 n132 Tryz.ntmps132 ?_; simp only [c132, go_sem, Nat.reduceAdd, Nat.reduceMul, Int.reduceToNat, Nat.reduceLeDiff, Int.reduceLE, Int.reduceLT, ↓reduceIte, Int.reduceBEq, Int.reduceBNe, Int.reduceAdd, Int.reduceSub, Int.reduceMul, q]; try refine okTr_and rfl ?_
  exact FinK.finA r132 []
theorem ref17_Pos (e : Int) : Ct Tryz.prog 132 [uA e] [] (fun _ => bA (epPos e)) [] (fun _ => []) := (ref17_Pos0 e).toCt clo clo
theorem fail_bad {s : RS} (h : ¬ s.code = 0) (c a : Int) : s.fail c a = s := by unfold RS.fail; rw [if_neg h]
theorem fail_good {s : RS} (h : s.code = 0) (a : Int) : (s.fail 3 a).good = false := by unfold RS.fail RS.good; rw [if_pos h]; simp [flt]
theorem epoch_read0 (f : FuncId) (ok : Int → Bool) (hf : ∀ x, Ct Tryz.prog f [uA x] [] (fun _ => bA (ok x)) [] (fun _ => [])) (s : RS) (hs : ROk s) : Does Tryz.prog 162 [.ref 0 0, .fn f [] []] [rdr s] (uA (s.epo ok).2) [rdr (s.epo ok).1] := by
  refine Does.runA Tryz.func162 b162 n162 Tryz.ntmps162 ?_; simp only [c162, go_sem, Nat.reduceAdd, Nat.reduceMul, Int.reduceToNat, Nat.reduceLeDiff, Int.reduceLE, Int.reduceLT, ↓reduceIte, Int.reduceBEq, Int.reduceBNe, Int.reduceAdd, Int.reduceSub, Int.reduceMul]; try refine okTr_and rfl ?_
  refine CallK.r1 (Reader_At s 0) rfl ?_
  (simp only [go_sem, Nat.reduceAdd, Nat.reduceMul, Int.reduceToNat, Nat.reduceLeDiff, Int.reduceLE, Int.reduceLT, ↓reduceIte, Int.reduceBEq, Int.reduceBNe, Int.reduceAdd, Int.reduceSub, Int.reduceMul]; try refine okTr_and rfl ?_)
  refine CallK.u1 (varint_Read s 0 hs.ok hs.bys) rfl ?_
  (simp only [go_sem, Nat.reduceAdd, Nat.reduceMul, Int.reduceToNat, Nat.reduceLeDiff, Int.reduceLE, Int.reduceLT, ↓reduceIte, Int.reduceBEq, Int.reduceBNe, Int.reduceAdd, Int.reduceSub, Int.reduceMul]; try refine okTr_and rfl ?_)
  refine CallK.p (hf s.vint.2) ?_
  (simp only [go_sem, Nat.reduceAdd, Nat.reduceMul, Int.reduceToNat, Nat.reduceLeDiff, Int.reduceLE, Int.reduceLT, ↓reduceIte, Int.reduceBEq, Int.reduceBNe, Int.reduceAdd, Int.reduceSub, Int.reduceMul]; try refine okTr_and rfl ?_)
  by_cases hc : s.vint.1.code = 0
  · by_cases ho : ok s.vint.2 = true
    · have hg : s.vint.1.good = true := by simp [RS.good, hc]
      (simp only [go_sem, Nat.reduceAdd, Nat.reduceMul, Int.reduceToNat, Nat.reduceLeDiff, Int.reduceLE, Int.reduceLT, ↓reduceIte, Int.reduceBEq, Int.reduceBNe, Int.reduceAdd, Int.reduceSub, Int.reduceMul, ho]; try refine okTr_and rfl ?_)
      refine CallK.r1 (Reader_Good _ 0) rfl ?_
      (simp only [go_sem, Nat.reduceAdd, Nat.reduceMul, Int.reduceToNat, Nat.reduceLeDiff, Int.reduceLE, Int.reduceLT, ↓reduceIte, Int.reduceBEq, Int.reduceBNe, Int.reduceAdd, Int.reduceSub, Int.reduceMul, hg]; try refine okTr_and rfl ?_)
      ((refine FinK.finB r162 [0] ?_ ?_); (· first | with_reducible rfl | (simp [RS.epo, hc, ho]; done) | rfl); (· simp [resAL, resA1, loadA, oneOr, RS.epo, hc, ho]))
    · have hg := fail_good hc s.at_
      have ho' : ok s.vint.2 = false := by simpa using ho
      (simp only [go_sem, Nat.reduceAdd, Nat.reduceMul, Int.reduceToNat, Nat.reduceLeDiff, Int.reduceLE, Int.reduceLT, ↓reduceIte, Int.reduceBEq, Int.reduceBNe, Int.reduceAdd, Int.reduceSub, Int.reduceMul, ho']; try refine okTr_and rfl ?_)
      refine CallK.u1 (Reader_Fail _ 3 _ 0) rfl ?_
      (simp only [go_sem, Nat.reduceAdd, Nat.reduceMul, Int.reduceToNat, Nat.reduceLeDiff, Int.reduceLE, Int.reduceLT, ↓reduceIte, Int.reduceBEq, Int.reduceBNe, Int.reduceAdd, Int.reduceSub, Int.reduceMul]; try refine okTr_and rfl ?_)
      refine CallK.r1 (Reader_Good _ 0) rfl ?_
      (simp only [go_sem, Nat.reduceAdd, Nat.reduceMul, Int.reduceToNat, Nat.reduceLeDiff, Int.reduceLE, Int.reduceLT, ↓reduceIte, Int.reduceBEq, Int.reduceBNe, Int.reduceAdd, Int.reduceSub, Int.reduceMul, hg]; try refine okTr_and rfl ?_)
      ((refine FinK.finB r162 [0] ?_ ?_); (· first | with_reducible rfl | (simp [RS.epo, hc, ho']; done) | rfl); (· simp [resAL, resA1, loadA, oneOr, RS.epo, hc, ho']))
  · have hg : s.vint.1.good = false := by simp [RS.good, hc]
    have hfl := fail_bad hc 3 s.at_
    refine cdK_split (fun h => ?_) (fun h => ?_)
    · (simp only [go_sem, Nat.reduceAdd, Nat.reduceMul, Int.reduceToNat, Nat.reduceLeDiff, Int.reduceLE, Int.reduceLT, ↓reduceIte, Int.reduceBEq, Int.reduceBNe, Int.reduceAdd, Int.reduceSub, Int.reduceMul]; try refine okTr_and rfl ?_)
      refine CallK.u1 (Reader_Fail _ 3 _ 0) rfl ?_
      (simp only [go_sem, Nat.reduceAdd, Nat.reduceMul, Int.reduceToNat, Nat.reduceLeDiff, Int.reduceLE, Int.reduceLT, ↓reduceIte, Int.reduceBEq, Int.reduceBNe, Int.reduceAdd, Int.reduceSub, Int.reduceMul]; try refine okTr_and rfl ?_)
      refine CallK.r1 (Reader_Good _ 0) rfl ?_
      (simp only [go_sem, Nat.reduceAdd, Nat.reduceMul, Int.reduceToNat, Nat.reduceLeDiff, Int.reduceLE, Int.reduceLT, ↓reduceIte, Int.reduceBEq, Int.reduceBNe, Int.reduceAdd, Int.reduceSub, Int.reduceMul, hfl, hg]; try refine okTr_and rfl ?_)
      ((refine FinK.finB r162 [0] ?_ ?_); (· first | with_reducible rfl | (simp [RS.epo, hc, hfl]; done) | rfl); (· simp [resAL, resA1, loadA, oneOr, RS.epo, hc, hfl]))
    · (simp only [go_sem, Nat.reduceAdd, Nat.reduceMul, Int.reduceToNat, Nat.reduceLeDiff, Int.reduceLE, Int.reduceLT, ↓reduceIte, Int.reduceBEq, Int.reduceBNe, Int.reduceAdd, Int.reduceSub, Int.reduceMul]; try refine okTr_and rfl ?_)
      refine CallK.r1 (Reader_Good _ 0) rfl ?_
      (simp only [go_sem, Nat.reduceAdd, Nat.reduceMul, Int.reduceToNat, Nat.reduceLeDiff, Int.reduceLE, Int.reduceLT, ↓reduceIte, Int.reduceBEq, Int.reduceBNe, Int.reduceAdd, Int.reduceSub, Int.reduceMul, hg]; try refine okTr_and rfl ?_)
      ((refine FinK.finB r162 [0] ?_ ?_); (· first | with_reducible rfl | (simp [RS.epo, hc]; done) | rfl); (· simp [resAL, resA1, loadA, oneOr, RS.epo, hc]))
theorem epoch_read (f : FuncId) (ok : Int → Bool) (hf : ∀ x, Ct Tryz.prog f [uA x] [] (fun _ => bA (ok x)) [] (fun _ => [])) (s : RS) (i : Nat) (hs : ROk s) : Ct Tryz.prog 162 [.ref i 0, .fn f [] []] [(i, rdr s)] (fun _ => uA (s.epo ok).2) [(i, rdr (s.epo ok).1)] (fun _ => []) := Ct.u1 (epoch_read0 f ok hf s hs) i clo (fun ρ => rdr_ren ρ s) (fun ρ => rdr_ren ρ _) (rdr_dead s) clo
theorem epoch_Read0 (s : RS) (hs : ROk s) : Does Tryz.prog 119 [.ref 0 0] [rdr s] (uA (s.epo epRight).2) [rdr (s.epo epRight).1] := by
  refine Does.runA Tryz.func119 b119 n119 Tryz.ntmps119 ?_; simp only [c119, go_sem, Nat.reduceAdd, Nat.reduceMul, Int.reduceToNat, Nat.reduceLeDiff, Int.reduceLE, Int.reduceLT, ↓reduceIte, Int.reduceBEq, Int.reduceBNe, Int.reduceAdd, Int.reduceSub, Int.reduceMul]; try refine okTr_and rfl ?_
  refine CallK.u1 (epoch_read _ epRight epoch_Right s 0 hs) rfl ?_
  (simp only [go_sem, Nat.reduceAdd, Nat.reduceMul, Int.reduceToNat, Nat.reduceLeDiff, Int.reduceLE, Int.reduceLT, ↓reduceIte, Int.reduceBEq, Int.reduceBNe, Int.reduceAdd, Int.reduceSub, Int.reduceMul]; try refine okTr_and rfl ?_)
  exact FinK.finA r119 [0]
theorem epoch_Read (s : RS) (i : Nat) (hs : ROk s) : Ct Tryz.prog 119 [.ref i 0] [(i, rdr s)] (fun _ => uA (s.epo epRight).2) [(i, rdr (s.epo epRight).1)] (fun _ => []) := Ct.u1 (epoch_Read0 s hs) i clo (fun ρ => rdr_ren ρ s) (fun ρ => rdr_ren ρ _) (rdr_dead s) clo
theorem epoch_ReadPos0 (s : RS) (hs : ROk s) : Does Tryz.prog 120 [.ref 0 0] [rdr s] (uA (s.epo epPos).2) [rdr (s.epo epPos).1] := by
  refine Does.runA Tryz.func120 b120 n120 Tryz.ntmps120 ?_; simp only [c120, go_sem, Nat.reduceAdd, Nat.reduceMul, Int.reduceToNat, Nat.reduceLeDiff, Int.reduceLE, Int.reduceLT, ↓reduceIte, Int.reduceBEq, Int.reduceBNe, Int.reduceAdd, Int.reduceSub, Int.reduceMul]; try refine okTr_and rfl ?_
  refine CallK.u1 (epoch_read _ epPos epoch_Pos s 0 hs) rfl ?_
  (simp only [go_sem, Nat.reduceAdd, Nat.reduceMul, Int.reduceToNat, Nat.reduceLeDiff, Int.reduceLE, Int.reduceLT, ↓reduceIte, Int.reduceBEq, Int.reduceBNe, Int.reduceAdd, Int.reduceSub, Int.reduceMul]; try refine okTr_and rfl ?_)
  exact FinK.finA r120 [0]
theorem epoch_ReadPos (s : RS) (i : Nat) (hs : ROk s) : Ct Tryz.prog 120 [.ref i 0] [(i, rdr s)] (fun _ => uA (s.epo epPos).2) [(i, rdr (s.epo epPos).1)] (fun _ => []) := Ct.u1 (epoch_ReadPos0 s hs) i clo (fun ρ => rdr_ren ρ s) (fun ρ => rdr_ren ρ _) (rdr_dead s) clo
end Go.Proofs.YtnfagphepkeedaaGreat
end
end
section
section
namespace Go.Proofs.YtnfagphepkeedaaGreat

structure Tk where
  lit : List Int
  off : Int
  len : Int
deriving DecidableEq
def Tk.run (t : Tk) : Bool := decide (t.off = 0 ∧ t.len = 0 ∧ 1 ≤ t.lit.length ∧ t.lit.length ≤ 1048576)
def Tk.copy (t : Tk) : Bool := decide (t.lit.length = 0 ∧ 1 ≤ t.off ∧ t.off ≤ 65536 ∧ 4 ≤ t.len ∧ t.len ≤ 1048576)
def Tk.right (t : Tk) : Bool := t.run || t.copy
def Tk.made (t : Tk) : Int := if t.run = true then t.lit.length else if t.copy = true then t.len else 0
/-- What a token in memory is: its bytes are bytes, its numbers fit. -/
structure Tk.ok (t : Tk) : Prop where
  lit : Bys t.lit
  off0 : -9223372036854775808 ≤ t.off
  off1 : t.off < 9223372036854775808
  len0 : -9223372036854775808 ≤ t.len
  len1 : t.len < 9223372036854775808
end Go.Proofs.YtnfagphepkeedaaGreat
end
end
section
namespace Go.Proofs.YtnfagphepkeedaaGreat

section
variable {β : Type} {F : Fmt β}
/-- Things read till nothing is left, or one can't be read. -/
def Fmt.all (F : Fmt β) : Nat → RS → List β → RS × List β
  | 0, s, acc => (s, acc)
  | n + 1, s, acc => if s.code = 0 ∧ 0 < s.left then (if (F.f s acc).1.code = 0 then F.all n (F.f s acc).1 (acc ++ [(F.f s acc).2]) else ((F.f s acc).1, [])) else (s, acc)
theorem left_ge {s : RS} (h : ROk s) : 0 ≤ s.left := by have := h.at1; unfold RS.left; omega
theorem all_done {n : Nat} {s : RS} {acc : List β} (h : ¬ (s.code = 0 ∧ 0 < s.left)) : F.all n s acc = (s, acc) := by
  cases n with
  | zero => rfl
  | succ n => rw [Fmt.all, if_neg h]
theorem all_more (hF : F.Ok) : ∀ (n m : Nat) (s : RS) (acc : List β), ROk s → Wf F.nx [] acc → s.left ≤ n → s.left ≤ m → F.all n s acc = F.all m s acc := by
  intro n
  induction n with
  | zero => intro m s acc h _ h1 h2; rw [all_done (n := m) (by omega)]; rfl
  | succ n ih =>
    intro m s acc h hw h1 h2
    by_cases hc : s.code = 0 ∧ 0 < s.left
    · obtain ⟨k, rfl⟩ : ∃ k, m = k + 1 := ⟨m - 1, by omega⟩
      rw [Fmt.all, Fmt.all, if_pos hc, if_pos hc]
      by_cases hn : (F.f s acc).1.code = 0
      · rw [if_pos hn, if_pos hn]
        obtain ⟨k1, k2⟩ := hF.keep s acc h hw
        obtain ⟨r1, r2, r3, r4⟩ := hF.read s acc h hw hn
        have hl : (F.f s acc).1.left < s.left := by unfold RS.left; rw [k2]; omega
        exact ih k _ _ k1 (wf_snoc.2 ⟨hw, by simpa using r2⟩) (by omega) (by omega)
      · rw [if_neg hn, if_neg hn]
    · rw [all_done hc, all_done hc]
/-- All that is left. -/
def Fmt.rest (F : Fmt β) (s : RS) (acc : List β) : RS × List β := F.all s.left.toNat s acc
theorem rest_step (hF : F.Ok) {s : RS} {acc : List β} (h : ROk s) (hw : Wf F.nx [] acc) (hc : s.code = 0) (hl : 0 < s.left) (hn : (F.f s acc).1.code = 0) : F.rest s acc = F.rest (F.f s acc).1 (acc ++ [(F.f s acc).2]) := by
  obtain ⟨k1, k2⟩ := hF.keep s acc h hw
  obtain ⟨r1, r2, r3, r4⟩ := hF.read s acc h hw hn
  have hl2 : (F.f s acc).1.left < s.left := by unfold RS.left; rw [k2]; omega
  have hge := left_ge k1
  unfold Fmt.rest
  obtain ⟨k, hk⟩ : ∃ k, s.left.toNat = k + 1 := ⟨s.left.toNat - 1, by omega⟩
  rw [hk, Fmt.all, if_pos ⟨hc, hl⟩, if_pos hn]
  exact all_more hF _ _ _ _ k1 (wf_snoc.2 ⟨hw, by simpa using r2⟩) (by omega) (by omega)
/-- What is borne at each round. -/
structure Fmt.Al (F : Fmt β) (s : RS) (a : RS × List β) : Prop where
  ok : ROk a.1
  l : a.1.l = s.l
  adv : (a.2.length : Int) ≤ a.1.at_
  code : a.1.code = 0
  wf : Wf F.nx [] a.2
  res : F.rest a.1 a.2 = F.rest s []
  byt : s.l.take a.1.at_.toNat = s.l.take s.at_.toNat ++ encs F.enc [] a.2
theorem Fmt.Al.start {s : RS} (h : ROk s) (hc : s.code = 0) : F.Al s (s, []) := ⟨h, rfl, by simpa using h.at0, hc, trivial, rfl, by simp [encs]⟩
theorem Fmt.Al.next {s t : RS} {acc : List β} (hF : F.Ok) (h : F.Al s (t, acc)) (hl : 0 < t.left) (hc : (F.f t acc).1.code = 0) : F.Al s ((F.f t acc).1, acc ++ [(F.f t acc).2]) ∧ (F.f t acc).1.left < t.left := by
  obtain ⟨h1, h2, h3, h4, h5, h6, h7⟩ := h
  simp only at h1 h2 h3 h4 h5 h6 h7
  obtain ⟨k1, k2⟩ := hF.keep t acc h1 h5
  obtain ⟨r1, r2, r3, r4⟩ := hF.read t acc h1 h5 hc
  refine ⟨⟨k1, k2.trans h2, by simp; omega, hc, wf_snoc.2 ⟨h5, by simpa using r2⟩, ?_, ?_⟩, by unfold RS.left; rw [k2]; omega⟩
  · rw [← h6]; exact (rest_step hF h1 h5 h4 hl hc).symm
  · rw [h2] at r4
    rw [r4, h7, encs_snoc]
    simp
theorem Fmt.Al.len {s t : RS} {acc : List β} (h : F.Al s (t, acc)) : acc.length ≤ s.l.length := by
  have h1 := h.ok.at1
  have h2 := h.l
  have h3 := h.adv
  simp only at h1 h2 h3
  rw [h2] at h1
  omega
end

end Go.Proofs.YtnfagphepkeedaaGreat
end
section
namespace Go.Proofs.YtnfagphepkeedaaGreat
open Go.RowKit

/-- A token, tokens. -/
abbrev tkA (t : Tk) : AV := .agg [slA .u8 t.lit, iA t.off, iA t.len]
def tks (l : List Tk) : List AV := l.map tkA
@[simp] theorem ren_tks (ρ : Nat → Nat) (l : List Tk) : (tks l).map (fun x => x.ren ρ) = tks l := by simp [tks, ixs_z]
@[simp] theorem ren_ints_t (ρ : Nat → Nat) (k : IntKind) (l : List Int) : (ints k l).map (fun x => x.ren ρ) = ints k l := ren_ints ρ k l
end Go.Proofs.YtnfagphepkeedaaGreat
end
section
namespace Go.Proofs.YtnfagphepkeedaaGreat
open Go.RowKit

end Go.Proofs.YtnfagphepkeedaaGreat
end
section
namespace Go.Proofs.YtnfagphepkeedaaGreat

end Go.Proofs.YtnfagphepkeedaaGreat
end
section
namespace Go.Proofs.YtnfagphepkeedaaGreat
open Go.RowKit

end Go.Proofs.YtnfagphepkeedaaGreat
end
section
namespace Go.Proofs.YtnfagphepkeedaaGreat
open Go.RowKit

end Go.Proofs.YtnfagphepkeedaaGreat
end
section
namespace Go.Proofs.YtnfagphepkeedaaGreat
open Go.RowKit

theorem bytes_Equal0 (l m : List Int) (hl : Bys l) (hm : Bys m) : Does Tryz.prog 80 [slA .u8 l, slA .u8 m] [] (bA (sameB l m)) [] := by
  refine Does.runA Tryz.func80 b80 n80 Tryz.ntmps80 ?_; simp only [c80, go_sem, Nat.reduceAdd, Nat.reduceMul, Int.reduceToNat, Nat.reduceLeDiff, Int.reduceLE, Int.reduceLT, ↓reduceIte, Int.reduceBEq, Int.reduceBNe, Int.reduceAdd, Int.reduceSub, Int.reduceMul, ints_u8, bytes_same hl hm]; try refine okTr_and rfl ?_
  exact FinK.finA r80 []
theorem bytes_Equal (l m : List Int) (hl : Bys l) (hm : Bys m) : Ct Tryz.prog 80 [slA .u8 l, slA .u8 m] [] (fun _ => bA (sameB l m)) [] (fun _ => []) := (bytes_Equal0 l m hl hm).toCt cl cl
end Go.Proofs.YtnfagphepkeedaaGreat
end
section
namespace Go.Proofs.YtnfagphepkeedaaGreat
open Go.RowKit

abbrev oA (x : O1) : AV := .agg [uA x.st, uA x.bk, bA x.hb, slA .u8 x.data]
def o1s (l : List O1) : List AV := l.map oA
abbrev slO (l : List O1) : AV := .sl .none 4 (o1s l)
abbrev sg1A (u : Sg1) : AV := .agg [uA u.ep, uA u.base, slO u.en]
abbrev sg1O (u : Sg1) : AObj := .cells [uA u.ep, uA u.base, slO u.en]
theorem o1s_length (l : List O1) : (o1s l).length = l.length := by simp [o1s]
theorem o1s_nil : o1s [] = [] := (rfl)
theorem o1s_get (l : List O1) (k : Nat) (h : k < l.length) : (o1s l).getD k .any = oA (l.getD k o10) := by simp [o1s, h]
theorem o1s_snoc (l : List O1) (x : O1) : o1s l ++ [oA x] = o1s (l ++ [x]) := by simp [o1s]
@[simp] theorem ren_o1s (ρ : Nat → Nat) (l : List O1) : (o1s l).map (fun x => x.ren ρ) = o1s l := by
  simp [o1s, Function.comp_def, ixs_z, ren_ints]
theorem sg1O_ren (u : Sg1) (ρ : Nat → Nat) : (sg1O u).ren ρ = sg1O u := by simp [ixs_z]
structure Small1 (u : Sg1) : Prop where
  b0 : 0 ≤ u.base
  b1 : u.base < 18446744073709551616
  n : u.en.length ≤ 1000000
  s : sumO u.en ≤ 100000000000
theorem legacy_numbered0 (base n : Int) (b0 : 0 ≤ base) (b1 : base < 18446744073709551616) (n0 : 0 ≤ n) (n1 : n ≤ 1000000000) : Does Tryz.prog 73 [uA base, iA n] [] (bA (fitsB base n)) [] := by
  have w0 : IntKind.u64.wrap n = n := IntWalk.u64_in _ (by omega)
  refine Does.runA Tryz.func73 b73 n73 Tryz.ntmps73 ?_; simp only [c73, go_sem, Nat.reduceAdd, Nat.reduceMul, Int.reduceToNat, Nat.reduceLeDiff, Int.reduceLE, Int.reduceLT, ↓reduceIte, Int.reduceBEq, Int.reduceBNe, Int.reduceAdd, Int.reduceSub, Int.reduceMul]; try refine okTr_and rfl ?_
  refine CallK.p (epoch_Pos base) ?_
  by_cases h : base < 4611686018427387904
  · have e : epPos base = true := epPos_iff.2 h
    have w1 : IntKind.u64.wrap (base + n) = base + n := IntWalk.u64_in _ (by omega)
    have ef : decide (base + n ≤ 4611686018427387904) = fitsB base n := by unfold fitsB; rw [decide_eq_true h]; rfl
    (simp only [go_sem, Nat.reduceAdd, Nat.reduceMul, Int.reduceToNat, Nat.reduceLeDiff, Int.reduceLE, Int.reduceLT, ↓reduceIte, Int.reduceBEq, Int.reduceBNe, Int.reduceAdd, Int.reduceSub, Int.reduceMul, e, w0, w1, ef]; try refine okTr_and rfl ?_)
    exact FinK.finA r73 []
  · have e : epPos base = false := by unfold epPos; exact decide_eq_false h
    have ef : fitsB base n = false := by unfold fitsB; rw [decide_eq_false h]; rfl
    (simp only [go_sem, Nat.reduceAdd, Nat.reduceMul, Int.reduceToNat, Nat.reduceLeDiff, Int.reduceLE, Int.reduceLT, ↓reduceIte, Int.reduceBEq, Int.reduceBNe, Int.reduceAdd, Int.reduceSub, Int.reduceMul, e]; try refine okTr_and rfl ?_)
    ((refine FinK.finB r73 [] ?_ ?_); (· first | with_reducible rfl | (simp [ef]; done) | rfl); (· simp [resAL, resA1, loadA, oneOr, ef]))
theorem legacy_numbered (base n : Int) (b0 : 0 ≤ base) (b1 : base < 18446744073709551616) (n0 : 0 ≤ n) (n1 : n ≤ 1000000000) : Ct Tryz.prog 73 [uA base, iA n] [] (fun _ => bA (fitsB base n)) [] (fun _ => []) := (legacy_numbered0 base n b0 b1 n0 n1).toCt cl cl
theorem ref35_fits0 (base n : Int) (b0 : 0 ≤ base) (b1 : base < 18446744073709551616) (n0 : 0 ≤ n) (n1 : n ≤ 1000000000) : Does Tryz.prog 77 [uA base, iA n] [] (bA (fitsB base n)) [] := by
  have w0 : IntKind.u64.wrap n = n := IntWalk.u64_in _ (by omega)
  refine Does.runA Tryz.func77 b77 n77 Tryz.ntmps77 ?_; simp only [c77, go_sem, Nat.reduceAdd, Nat.reduceMul, Int.reduceToNat, Nat.reduceLeDiff, Int.reduceLE, Int.reduceLT, ↓reduceIte, Int.reduceBEq, Int.reduceBNe, Int.reduceAdd, Int.reduceSub, Int.reduceMul]; try refine okTr_and rfl ?_
  refine CallK.p (ref17_Pos base) ?_
  by_cases h : base < 4611686018427387904
  · have e : epPos base = true := epPos_iff.2 h
    have w1 : IntKind.u64.wrap (4611686018427387904 - base) = 4611686018427387904 - base := IntWalk.u64_in _ (by omega)
    have ef : decide (n ≤ 4611686018427387904 - base) = fitsB base n := by
      unfold fitsB; rw [decide_eq_true h, Bool.true_and]
      by_cases h2 : n ≤ 4611686018427387904 - base
      · rw [decide_eq_true h2, decide_eq_true (by omega)]
      · rw [decide_eq_false h2, decide_eq_false (by omega)]
    (simp only [go_sem, Nat.reduceAdd, Nat.reduceMul, Int.reduceToNat, Nat.reduceLeDiff, Int.reduceLE, Int.reduceLT, ↓reduceIte, Int.reduceBEq, Int.reduceBNe, Int.reduceAdd, Int.reduceSub, Int.reduceMul, e, w0, w1, ef]; try refine okTr_and rfl ?_)
    exact FinK.finA r77 []
  · have e : epPos base = false := by unfold epPos; exact decide_eq_false h
    have ef : fitsB base n = false := by unfold fitsB; rw [decide_eq_false h]; rfl
    (simp only [go_sem, Nat.reduceAdd, Nat.reduceMul, Int.reduceToNat, Nat.reduceLeDiff, Int.reduceLE, Int.reduceLT, ↓reduceIte, Int.reduceBEq, Int.reduceBNe, Int.reduceAdd, Int.reduceSub, Int.reduceMul, e]; try refine okTr_and rfl ?_)
    ((refine FinK.finB r77 [] ?_ ?_); (· first | with_reducible rfl | (simp [ef]; done) | rfl); (· simp [resAL, resA1, loadA, oneOr, ef]))
theorem ref35_fits (base n : Int) (b0 : 0 ≤ base) (b1 : base < 18446744073709551616) (n0 : 0 ≤ n) (n1 : n ≤ 1000000000) : Ct Tryz.prog 77 [uA base, iA n] [] (fun _ => bA (fitsB base n)) [] (fun _ => []) := (ref35_fits0 base n b0 b1 n0 n1).toCt cl cl
theorem legacy_total0 (l : List O1) (hn : l.length ≤ 1000000) (hs : sumO l ≤ 100000000000) : Does Tryz.prog 67 [slO l] [] (iA (sumO l)) [] := by
  refine Does.runA Tryz.func67 b67 n67 Tryz.ntmps67 ?_; simp only [c67, go_sem, Nat.reduceAdd, Nat.reduceMul, Int.reduceToNat, Nat.reduceLeDiff, Int.reduceLE, Int.reduceLT, ↓reduceIte, Int.reduceBEq, Int.reduceBNe, Int.reduceAdd, Int.reduceSub, Int.reduceMul, o1s_length]; try refine okTr_and rfl ?_
  refine loop_of (α := Nat) (fun k => [.any, .any, .any, iA (sumO (l.take k)), .any, .any, slO l, iA l.length, iA k, .any, .any, .any, .any, .any, .any, .any, .any, .any, .any]) (fun _ => []) (fun k => k ≤ l.length) (fun k => l.length - k) 0 (by simp) (Wk.to (by simp) (by simp [leT, sumO])) ?_
  intro k hk
  (simp only [go_sem, Nat.reduceAdd, Nat.reduceMul, Int.reduceToNat, Nat.reduceLeDiff, Int.reduceLE, Int.reduceLT, ↓reduceIte, Int.reduceBEq, Int.reduceBNe, Int.reduceAdd, Int.reduceSub, Int.reduceMul]; try refine okTr_and rfl ?_)
  by_cases hlt : k < l.length
  · have q1 : decide ((k : Int) < (l.length : Int)) = true := decide_eq_true (by omega)
    have ek := i64_succ k (by omega)
    have g := o1s_get l k hlt
    have st := sumO_take l k hlt
    have le := sumO_le l (k + 1)
    have ge := sumO_ge (l.take k)
    have w : IntKind.i64.wrap (sumO (l.take k) + ((l.getD k o10).data.length : Int)) = sumO (l.take (k + 1)) := by rw [IntWalk.i64_in _ (by omega)]; omega
    (simp only [go_sem, Nat.reduceAdd, Nat.reduceMul, Int.reduceToNat, Nat.reduceLeDiff, Int.reduceLE, Int.reduceLT, ↓reduceIte, Int.reduceBEq, Int.reduceBNe, Int.reduceAdd, Int.reduceSub, Int.reduceMul, q1, g, o1s_length, Int.toNat_natCast, ints_length, w, ek]; try refine okTr_and rfl ?_)
    (repeat ((with_reducible refine And.intro ?_ ?_); (· exact sd)))
    exact ⟨k + 1, hlt, by omega, Wk.sel [] (by simp) rfl (by simp) rfl (by simp) (by simp [selT, ixs_z])⟩
  · have q1 : decide ((k : Int) < (l.length : Int)) = false := decide_eq_false (by omega)
    have e : l.take k = l := List.take_of_length_le (by omega)
    (simp only [go_sem, Nat.reduceAdd, Nat.reduceMul, Int.reduceToNat, Nat.reduceLeDiff, Int.reduceLE, Int.reduceLT, ↓reduceIte, Int.reduceBEq, Int.reduceBNe, Int.reduceAdd, Int.reduceSub, Int.reduceMul, q1]; try refine okTr_and rfl ?_)
    ((refine FinK.finB r67 [] ?_ ?_); (· first | with_reducible rfl | (simp [e]; done) | rfl); (· simp [resAL, resA1, loadA, oneOr, e]))
theorem legacy_total (l : List O1) (hn : l.length ≤ 1000000) (hs : sumO l ≤ 100000000000) : Ct Tryz.prog 67 [slO l] [] (fun _ => iA (sumO l)) [] (fun _ => []) := (legacy_total0 l hn hs).toCt cl cl
def goodAt (u : Sg1) (k : Nat) (x : O1) : Bool := goodO (IntKind.u64.wrap (u.base + k)) x
theorem legacy_Right110 (u : Sg1) (k : Nat) (x : O1) (hk : k ≤ 1000000) : Does Tryz.prog 75 [iA k, oA x, .ref 0 0] [sg1O u] (bA (goodAt u k x)) [sg1O u] := by
  have w0 : IntKind.u64.wrap (k : Int) = k := IntWalk.u64_in _ (by omega)
  refine Does.runA Tryz.func75 b75 n75 Tryz.ntmps75 ?_; simp only [c75, go_sem, Nat.reduceAdd, Nat.reduceMul, Int.reduceToNat, Nat.reduceLeDiff, Int.reduceLE, Int.reduceLT, ↓reduceIte, Int.reduceBEq, Int.reduceBNe, Int.reduceAdd, Int.reduceSub, Int.reduceMul]; try refine okTr_and rfl ?_
  cases hb : x.hb with
  | true =>
    have e : decide (x.bk < IntKind.u64.wrap (u.base + k)) = goodAt u k x := by unfold goodAt goodO; rw [hb]; rfl
    cases h : decide (x.bk < IntKind.u64.wrap (u.base + k)) with
    | true =>
      rw [h] at e
      (simp only [go_sem, Nat.reduceAdd, Nat.reduceMul, Int.reduceToNat, Nat.reduceLeDiff, Int.reduceLE, Int.reduceLT, ↓reduceIte, Int.reduceBEq, Int.reduceBNe, Int.reduceAdd, Int.reduceSub, Int.reduceMul, hb, w0, h]; try refine okTr_and rfl ?_)
      ((refine FinK.finB r75 [0] ?_ ?_); (· first | with_reducible rfl | (simp [← e]; done) | rfl); (· simp [resAL, resA1, loadA, oneOr, ← e]))
    | false =>
      rw [h] at e
      (simp only [go_sem, Nat.reduceAdd, Nat.reduceMul, Int.reduceToNat, Nat.reduceLeDiff, Int.reduceLE, Int.reduceLT, ↓reduceIte, Int.reduceBEq, Int.reduceBNe, Int.reduceAdd, Int.reduceSub, Int.reduceMul, hb, w0, h]; try refine okTr_and rfl ?_)
      ((refine FinK.finB r75 [0] ?_ ?_); (· first | with_reducible rfl | (simp [← e]; done) | rfl); (· simp [resAL, resA1, loadA, oneOr, ← e]))
  | false =>
    have e : (x.bk == 0) = goodAt u k x := by
      unfold goodAt goodO; rw [hb]
      simp only [Bool.false_eq_true, if_false]
      rw [Bool.eq_iff_iff, beq_iff_eq, decide_eq_true_eq]
    (simp only [go_sem, Nat.reduceAdd, Nat.reduceMul, Int.reduceToNat, Nat.reduceLeDiff, Int.reduceLE, Int.reduceLT, ↓reduceIte, Int.reduceBEq, Int.reduceBNe, Int.reduceAdd, Int.reduceSub, Int.reduceMul, hb, e]; try refine okTr_and rfl ?_)
    exact FinK.finA r75 [0]
theorem legacy_Right11 (u : Sg1) (k : Nat) (x : O1) (hk : k ≤ 1000000) (i : Nat) : Ct Tryz.prog 75 [iA k, oA x, .ref i 0] [(i, sg1O u)] (fun _ => bA (goodAt u k x)) [] (fun _ => []) :=
  Ct.r1 (legacy_Right110 u k x hk) i cl (sg1O_ren u) (by simp) clo
/-- Do all of some things, each by its place, pass? -/
def allO (ok : Nat → O1 → Bool) (l : List O1) : Bool := (List.range l.length).all fun i => ok i (l.getD i o10)
theorem allO_iff {ok : Nat → O1 → Bool} {l : List O1} : allO ok l = true ↔ ∀ i, i < l.length → ok i (l.getD i o10) = true := by
  simp only [allO, List.all_eq_true, List.mem_range]
theorem legacy_allO0 (f : FuncId) (o : AObj) (ok : Nat → O1 → Bool) (ho : ∀ ρ, o.ren ρ = o) (hd : o ≠ .dead) (l : List O1) (hf : ∀ k, k < l.length → ∀ i, Ct Tryz.prog f [iA k, oA (l.getD k o10), .ref i 0] [(i, o)] (fun _ => bA (ok k (l.getD k o10))) [] (fun _ => [])) (hn : l.length ≤ 1000000) :
    Does Tryz.prog 74 [slO l, .fn f [] [.ref 0 0]] [o] (bA (allO ok l)) [o] := by
  refine Does.runA Tryz.func74 b74 n74 Tryz.ntmps74 ?_; simp only [c74, go_sem, Nat.reduceAdd, Nat.reduceMul, Int.reduceToNat, Nat.reduceLeDiff, Int.reduceLE, Int.reduceLT, ↓reduceIte, Int.reduceBEq, Int.reduceBNe, Int.reduceAdd, Int.reduceSub, Int.reduceMul, o1s_length]; try refine okTr_and rfl ?_
  refine loop_of (α := Nat) (fun k => [slO l, .fn f [] [.ref 0 0], .any, .any, .any, .any, .any, slO l, iA l.length, iA k, .any, .any, .any, .any, .any, .any, .any, .any, .any, .any]) (fun _ => [o]) (fun k => k ≤ l.length ∧ ∀ i, i < k → ok i (l.getD i o10) = true) (fun k => l.length - k) 0 ⟨by simp, fun i hi => by omega⟩ (Wk.to (by simp) (by simp [leT])) ?_
  rintro k ⟨hk, hall⟩
  (simp only [go_sem, Nat.reduceAdd, Nat.reduceMul, Int.reduceToNat, Nat.reduceLeDiff, Int.reduceLE, Int.reduceLT, ↓reduceIte, Int.reduceBEq, Int.reduceBNe, Int.reduceAdd, Int.reduceSub, Int.reduceMul]; try refine okTr_and rfl ?_)
  by_cases hlt : k < l.length
  · have q1 : decide ((k : Int) < (l.length : Int)) = true := decide_eq_true (by omega)
    have ek := i64_succ k (by omega)
    have g := o1s_get l k hlt
    have hfx := hf k hlt 0
    (simp only [go_sem, Nat.reduceAdd, Nat.reduceMul, Int.reduceToNat, Nat.reduceLeDiff, Int.reduceLE, Int.reduceLT, ↓reduceIte, Int.reduceBEq, Int.reduceBNe, Int.reduceAdd, Int.reduceSub, Int.reduceMul, q1, g, o1s_length, Int.toNat_natCast]; try refine okTr_and rfl ?_)
    (repeat ((with_reducible refine And.intro ?_ ?_); (· exact sd)))
    refine CallK.r1 (hfx) rfl ?_
    cases hs : ok k (l.getD k o10) with
    | false =>
      have e : allO ok l = false := by
        cases ha : allO ok l with
        | false => rfl
        | true => rw [allO_iff.1 ha k hlt] at hs; cases hs
      (simp only [go_sem, Nat.reduceAdd, Nat.reduceMul, Int.reduceToNat, Nat.reduceLeDiff, Int.reduceLE, Int.reduceLT, ↓reduceIte, Int.reduceBEq, Int.reduceBNe, Int.reduceAdd, Int.reduceSub, Int.reduceMul, hs]; try refine okTr_and rfl ?_)
      ((refine FinK.finB r74 [0] ?_ ?_); (· first | with_reducible rfl | (simp [e, ho]; done) | rfl); (· simp [resAL, resA1, loadA, oneOr, e, ho]))
    | true =>
      (simp only [go_sem, Nat.reduceAdd, Nat.reduceMul, Int.reduceToNat, Nat.reduceLeDiff, Int.reduceLE, Int.reduceLT, ↓reduceIte, Int.reduceBEq, Int.reduceBNe, Int.reduceAdd, Int.reduceSub, Int.reduceMul, hs, ek]; try refine okTr_and rfl ?_)
      exact ⟨k + 1, ⟨hlt, fun i hi => by
        rcases Nat.lt_or_ge i k with h | h
        · exact hall i h
        · obtain rfl : i = k := by omega
          exact hs⟩, by omega, Wk.sel [0] (by simp) rfl (by simp) rfl (by simp [ho]) (by simp [selT, ixs_z])⟩
  · have q1 : decide ((k : Int) < (l.length : Int)) = false := decide_eq_false (by omega)
    have e : allO ok l = true := allO_iff.2 fun i hi => hall i (by omega)
    (simp only [go_sem, Nat.reduceAdd, Nat.reduceMul, Int.reduceToNat, Nat.reduceLeDiff, Int.reduceLE, Int.reduceLT, ↓reduceIte, Int.reduceBEq, Int.reduceBNe, Int.reduceAdd, Int.reduceSub, Int.reduceMul, q1]; try refine okTr_and rfl ?_)
    ((refine FinK.finB r74 [0] ?_ ?_); (· first | with_reducible rfl | (simp [e, ho]; done) | rfl); (· simp [resAL, resA1, loadA, oneOr, e, ho]))
theorem legacy_allO (f : FuncId) (o : AObj) (ok : Nat → O1 → Bool) (ho : ∀ ρ, o.ren ρ = o) (hd : o ≠ .dead) (l : List O1) (hf : ∀ k, k < l.length → ∀ i, Ct Tryz.prog f [iA k, oA (l.getD k o10), .ref i 0] [(i, o)] (fun _ => bA (ok k (l.getD k o10))) [] (fun _ => [])) (hn : l.length ≤ 1000000) (i : Nat) :
    Ct Tryz.prog 74 [slO l, .fn f [] [.ref i 0]] [(i, o)] (fun _ => bA (allO ok l)) [] (fun _ => []) := Ct.r1 (legacy_allO0 f o ok ho hd l hf hn) i cl ho hd clo
theorem right1_no {u : Sg1} (h : epRight u.ep = false ∨ 400 < u.en.length ∨ fitsB u.base u.en.length = false ∨ 1048576 < sumO u.en) : right1 u = false := by
  cases hr : right1 u with
  | false => rfl
  | true =>
    exfalso
    unfold right1 at hr
    simp only [Bool.and_eq_true, decide_eq_true_eq] at hr
    obtain ⟨⟨⟨⟨a, b⟩, c⟩, d⟩, e⟩ := hr
    rcases h with h | h | h | h
    · rw [h] at a; cases a
    · omega
    · rw [h] at c; cases c
    · omega
theorem right1_yes {u : Sg1} (b0 : 0 ≤ u.base) (h1 : epRight u.ep = true) (h2 : u.en.length ≤ 400) (h3 : fitsB u.base u.en.length = true) (h4 : sumO u.en ≤ 1048576) : right1 u = allO (goodAt u) u.en := by
  obtain ⟨f1, f2⟩ := fitsB_iff.1 h3
  have key : ∀ i, i < u.en.length → goodAt u i (u.en.getD i o10) = goodO (u.base + i) (u.en.getD i o10) := fun i hi => by
    unfold goodAt; rw [IntWalk.u64_in _ (by omega)]
  rw [Bool.eq_iff_iff, right1_iff, allO_iff]
  constructor
  · rintro ⟨_, _, _, _, h5⟩ i hi
    rw [key i hi]; exact h5 i hi
  · intro h5
    exact ⟨epRight_iff.1 h1, h2, ⟨f1, f2⟩, h4, fun i hi => by rw [← key i hi]; exact h5 i hi⟩
theorem legacy_Right10 (u : Sg1) (hs : Small1 u) : Does Tryz.prog 16 [sg1A u] [] (bA (right1 u)) [] := by
  obtain ⟨b0, b1, n1, s1⟩ := hs
  refine Does.runA Tryz.func16 b16 n16 Tryz.ntmps16 ?_; simp only [c16, go_sem, Nat.reduceAdd, Nat.reduceMul, Int.reduceToNat, Nat.reduceLeDiff, Int.reduceLE, Int.reduceLT, ↓reduceIte, Int.reduceBEq, Int.reduceBNe, Int.reduceAdd, Int.reduceSub, Int.reduceMul]; try refine okTr_and rfl ?_
  refine CallK.p (epoch_Right u.ep) ?_
  cases h1 : epRight u.ep with
  | false =>
    have e := right1_no (u := u) (.inl h1)
    (simp only [go_sem, Nat.reduceAdd, Nat.reduceMul, Int.reduceToNat, Nat.reduceLeDiff, Int.reduceLE, Int.reduceLT, ↓reduceIte, Int.reduceBEq, Int.reduceBNe, Int.reduceAdd, Int.reduceSub, Int.reduceMul, h1]; try refine okTr_and rfl ?_)
    ((refine FinK.finB r16 [] ?_ ?_); (· first | with_reducible rfl | (simp [e]; done) | rfl); (· simp [resAL, resA1, loadA, oneOr, e]))
  | true =>
    by_cases h2 : u.en.length ≤ 400
    · have q2 : decide (400 < (u.en.length : Int)) = false := decide_eq_false (by omega)
      (simp only [go_sem, Nat.reduceAdd, Nat.reduceMul, Int.reduceToNat, Nat.reduceLeDiff, Int.reduceLE, Int.reduceLT, ↓reduceIte, Int.reduceBEq, Int.reduceBNe, Int.reduceAdd, Int.reduceSub, Int.reduceMul, h1, o1s_length, q2]; try refine okTr_and rfl ?_)
      refine CallK.p (legacy_numbered u.base u.en.length b0 b1 (by omega) (by omega)) ?_
      cases h3 : fitsB u.base u.en.length with
      | false =>
        have e := right1_no (u := u) (.inr (.inr (.inl h3)))
        (simp only [go_sem, Nat.reduceAdd, Nat.reduceMul, Int.reduceToNat, Nat.reduceLeDiff, Int.reduceLE, Int.reduceLT, ↓reduceIte, Int.reduceBEq, Int.reduceBNe, Int.reduceAdd, Int.reduceSub, Int.reduceMul, h3]; try refine okTr_and rfl ?_)
        ((refine FinK.finB r16 [] ?_ ?_); (· first | with_reducible rfl | (simp [e]; done) | rfl); (· simp [resAL, resA1, loadA, oneOr, e]))
      | true =>
        (simp only [go_sem, Nat.reduceAdd, Nat.reduceMul, Int.reduceToNat, Nat.reduceLeDiff, Int.reduceLE, Int.reduceLT, ↓reduceIte, Int.reduceBEq, Int.reduceBNe, Int.reduceAdd, Int.reduceSub, Int.reduceMul, h3]; try refine okTr_and rfl ?_)
        refine CallK.p (legacy_total u.en n1 s1) ?_
        by_cases h4 : sumO u.en ≤ 1048576
        · have q4 : decide (1048576 < sumO u.en) = false := decide_eq_false (by omega)
          have e := right1_yes b0 h1 h2 h3 h4
          (simp only [go_sem, Nat.reduceAdd, Nat.reduceMul, Int.reduceToNat, Nat.reduceLeDiff, Int.reduceLE, Int.reduceLT, ↓reduceIte, Int.reduceBEq, Int.reduceBNe, Int.reduceAdd, Int.reduceSub, Int.reduceMul, q4]; try refine okTr_and rfl ?_)
          refine CallK.r1 (legacy_allO 75 (sg1O u) (goodAt u) (sg1O_ren u) (by simp) u.en (fun k hk i => legacy_Right11 u k _ (by omega) i) n1 _) rfl ?_; (simp only [go_sem, Nat.reduceAdd, Nat.reduceMul, Int.reduceToNat, Nat.reduceLeDiff, Int.reduceLE, Int.reduceLT, ↓reduceIte, Int.reduceBEq, Int.reduceBNe, Int.reduceAdd, Int.reduceSub, Int.reduceMul, ← e]; try refine okTr_and rfl ?_)
          exact FinK.finA r16 []
        · have q4 : decide (1048576 < sumO u.en) = true := decide_eq_true (by omega)
          have e := right1_no (u := u) (.inr (.inr (.inr (by omega))))
          (simp only [go_sem, Nat.reduceAdd, Nat.reduceMul, Int.reduceToNat, Nat.reduceLeDiff, Int.reduceLE, Int.reduceLT, ↓reduceIte, Int.reduceBEq, Int.reduceBNe, Int.reduceAdd, Int.reduceSub, Int.reduceMul, q4]; try refine okTr_and rfl ?_)
          ((refine FinK.finB r16 [] ?_ ?_); (· first | with_reducible rfl | (simp [e]; done) | rfl); (· simp [resAL, resA1, loadA, oneOr, e]))
    · have q2 : decide (400 < (u.en.length : Int)) = true := decide_eq_true (by omega)
      have e := right1_no (u := u) (.inr (.inl (by omega)))
      (simp only [go_sem, Nat.reduceAdd, Nat.reduceMul, Int.reduceToNat, Nat.reduceLeDiff, Int.reduceLE, Int.reduceLT, ↓reduceIte, Int.reduceBEq, Int.reduceBNe, Int.reduceAdd, Int.reduceSub, Int.reduceMul, h1, o1s_length, q2]; try refine okTr_and rfl ?_)
      ((refine FinK.finB r16 [] ?_ ?_); (· first | with_reducible rfl | (simp [e]; done) | rfl); (· simp [resAL, resA1, loadA, oneOr, e]))
theorem legacy_Right1 (u : Sg1) (hs : Small1 u) : Ct Tryz.prog 16 [sg1A u] [] (fun _ => bA (right1 u)) [] (fun _ => []) := (legacy_Right10 u hs).toCt cl cl
end Go.Proofs.YtnfagphepkeedaaGreat
end
section
namespace Go.Proofs.YtnfagphepkeedaaGreat
open Go.RowKit

set_option maxRecDepth 100000 in
theorem EqualFuncO10 (f : FuncId) (eq : O1 → O1 → Bool) (he : ∀ x y, eq x y = true ↔ x = y) (a b : List O1) (hf : ∀ x ∈ a, ∀ y ∈ b, Ct Tryz.prog f [oA x, oA y] [] (fun _ => bA (eq x y)) [] (fun _ => [])) (eqL : Bool) (hL : eqL = true ↔ a = b) (hn : a.length ≤ 1000000) : Does Tryz.prog 78 [slO a, slO b, .fn f [] []] [] (bA eqL) [] := by
  have hno : ¬ a = b → eqL = false := fun h => by
    cases hq : eqL with
    | false => rfl
    | true => exact absurd (hL.1 hq) h
  refine Does.runA Tryz.func78 b78 n78 Tryz.ntmps78 ?_; simp only [c78, go_sem, Nat.reduceAdd, Nat.reduceMul, Int.reduceToNat, Nat.reduceLeDiff, Int.reduceLE, Int.reduceLT, ↓reduceIte, Int.reduceBEq, Int.reduceBNe, Int.reduceAdd, Int.reduceSub, Int.reduceMul, o1s_length]; try refine okTr_and rfl ?_
  by_cases hlen : (a.length : Int) = b.length
  · have q0 : ((a.length : Int) != (b.length : Int)) = false := by simpa using hlen
    (simp only [go_sem, Nat.reduceAdd, Nat.reduceMul, Int.reduceToNat, Nat.reduceLeDiff, Int.reduceLE, Int.reduceLT, ↓reduceIte, Int.reduceBEq, Int.reduceBNe, Int.reduceAdd, Int.reduceSub, Int.reduceMul, q0, o1s_length]; try refine okTr_and rfl ?_)
    refine loop_of (α := Nat) (fun k => [.any, slO b, .fn f [] [], .any, .any, .any, .any, .any, .any, .any, .any, .any, .any, .any, .any, slO a, iA a.length, iA k, .any, .any, .any, .any, .any, .any, .any, .any, .any, .any, .any, .any, .any, .any]) (fun _ => []) (fun k => k ≤ a.length ∧ ∀ i, i < k → a.getD i o10 = b.getD i o10) (fun k => a.length - k) 0 ⟨by simp, fun i hi => by omega⟩ (Wk.to (by simp) (by simp [leT])) ?_
    rintro k ⟨hk, hall⟩
    (simp only [go_sem, Nat.reduceAdd, Nat.reduceMul, Int.reduceToNat, Nat.reduceLeDiff, Int.reduceLE, Int.reduceLT, ↓reduceIte, Int.reduceBEq, Int.reduceBNe, Int.reduceAdd, Int.reduceSub, Int.reduceMul, o1s_length]; try refine okTr_and rfl ?_)
    by_cases hlt : k < a.length
    · have q1 : decide ((k : Int) < (a.length : Int)) = true := decide_eq_true (by omega)
      have g1 := o1s_get a k hlt
      have g2 := o1s_get b k (by omega)
      have ei := i64_succ k (by omega)
      have m1 : a.getD k o10 ∈ a := by simp [hlt]
      have m2 : b.getD k o10 ∈ b := by
        have : k < b.length := by omega
        simp [this]
      have hx := hf _ m1 _ m2
      obtain ⟨x, ex⟩ : ∃ x, a.getD k o10 = x := ⟨_, rfl⟩
      obtain ⟨y, ey⟩ : ∃ y, b.getD k o10 = y := ⟨_, rfl⟩
      rw [ex] at g1 hx; rw [ey] at g2 hx
      (simp only [go_sem, Nat.reduceAdd, Nat.reduceMul, Int.reduceToNat, Nat.reduceLeDiff, Int.reduceLE, Int.reduceLT, ↓reduceIte, Int.reduceBEq, Int.reduceBNe, Int.reduceAdd, Int.reduceSub, Int.reduceMul, q1, g1, o1s_length, Int.toNat_natCast]; try refine okTr_and rfl ?_)
      (repeat ((with_reducible refine And.intro ?_ ?_); (· exact sd)))
      (simp only [go_sem, Nat.reduceAdd, Nat.reduceMul, Int.reduceToNat, Nat.reduceLeDiff, Int.reduceLE, Int.reduceLT, ↓reduceIte, Int.reduceBEq, Int.reduceBNe, Int.reduceAdd, Int.reduceSub, Int.reduceMul, g2, o1s_length, Int.toNat_natCast]; try refine okTr_and rfl ?_)
      (repeat ((with_reducible refine And.intro ?_ ?_); (· exact sd)))
      refine CallK.p (hx) ?_
      cases hq : eq x y with
      | true =>
        have hxy := (he x y).1 hq
        (simp only [go_sem, Nat.reduceAdd, Nat.reduceMul, Int.reduceToNat, Nat.reduceLeDiff, Int.reduceLE, Int.reduceLT, ↓reduceIte, Int.reduceBEq, Int.reduceBNe, Int.reduceAdd, Int.reduceSub, Int.reduceMul, hq, ei]; try refine okTr_and rfl ?_)
        exact ⟨k + 1, ⟨hlt, fun i hi => by
          rcases Nat.lt_or_ge i k with h | h
          · exact hall i h
          · obtain rfl : i = k := by omega
            rw [ex, ey, hxy]⟩, by omega, Wk.sel [] (by simp) rfl (by simp) rfl (by simp) (by simp [selT, ixs_z])⟩
      | false =>
        have hne := hno (by rintro rfl; rw [ex] at ey; rw [(he x y).2 ey] at hq; cases hq)
        (simp only [go_sem, Nat.reduceAdd, Nat.reduceMul, Int.reduceToNat, Nat.reduceLeDiff, Int.reduceLE, Int.reduceLT, ↓reduceIte, Int.reduceBEq, Int.reduceBNe, Int.reduceAdd, Int.reduceSub, Int.reduceMul, hq]; try refine okTr_and rfl ?_)
        ((refine FinK.finB r78 [] ?_ ?_); (· first | with_reducible rfl | (simp [hne]; done) | rfl); (· simp [resAL, resA1, loadA, oneOr, hne]))
    · have q1 : decide ((k : Int) < (a.length : Int)) = false := decide_eq_false (by omega)
      have hyes : eqL = true := hL.2 (List.ext_getElem (by omega) fun i h1 h2 => by
        have := hall i (by omega)
        simpa [h1, h2] using this)
      (simp only [go_sem, Nat.reduceAdd, Nat.reduceMul, Int.reduceToNat, Nat.reduceLeDiff, Int.reduceLE, Int.reduceLT, ↓reduceIte, Int.reduceBEq, Int.reduceBNe, Int.reduceAdd, Int.reduceSub, Int.reduceMul, q1]; try refine okTr_and rfl ?_)
      ((refine FinK.finB r78 [] ?_ ?_); (· first | with_reducible rfl | (simp [hyes]; done) | rfl); (· simp [resAL, resA1, loadA, oneOr, hyes]))
  · have q0 : ((a.length : Int) != (b.length : Int)) = true := by simpa using hlen
    have hne := hno (by rintro rfl; exact hlen rfl)
    (simp only [go_sem, Nat.reduceAdd, Nat.reduceMul, Int.reduceToNat, Nat.reduceLeDiff, Int.reduceLE, Int.reduceLT, ↓reduceIte, Int.reduceBEq, Int.reduceBNe, Int.reduceAdd, Int.reduceSub, Int.reduceMul, q0]; try refine okTr_and rfl ?_)
    ((refine FinK.finB r78 [] ?_ ?_); (· first | with_reducible rfl | (simp [hne]; done) | rfl); (· simp [resAL, resA1, loadA, oneOr, hne]))
theorem EqualFuncO1 (f : FuncId) (eq : O1 → O1 → Bool) (he : ∀ x y, eq x y = true ↔ x = y) (a b : List O1) (hf : ∀ x ∈ a, ∀ y ∈ b, Ct Tryz.prog f [oA x, oA y] [] (fun _ => bA (eq x y)) [] (fun _ => [])) (eqL : Bool) (hL : eqL = true ↔ a = b) (hn : a.length ≤ 1000000) : Ct Tryz.prog 78 [slO a, slO b, .fn f [] []] [] (fun _ => bA eqL) [] (fun _ => []) := (EqualFuncO10 f eq he a b hf eqL hL hn).toCt cl cl

theorem legacy_Same110 (x y : O1) (hx : Bys x.data) (hy : Bys y.data) : Does Tryz.prog 79 [oA x, oA y] [] (bA (decide (x = y))) [] := by
  refine Does.runA Tryz.func79 b79 n79 Tryz.ntmps79 ?_; simp only [c79, go_sem, Nat.reduceAdd, Nat.reduceMul, Int.reduceToNat, Nat.reduceLeDiff, Int.reduceLE, Int.reduceLT, ↓reduceIte, Int.reduceBEq, Int.reduceBNe, Int.reduceAdd, Int.reduceSub, Int.reduceMul]; try refine okTr_and rfl ?_
  by_cases c0 : x.st = y.st
  · have q0 : (x.st == y.st) = true := by simpa using c0
    by_cases c1 : x.bk = y.bk
    · have q1 : (x.bk == y.bk) = true := by simpa using c1
      by_cases c2 : x.hb = y.hb
      · have q2 : (x.hb == y.hb) = true := by simpa using c2
        have e : sameB x.data y.data = decide (x = y) := by
          unfold sameB
          rw [Bool.eq_iff_iff, decide_eq_true_eq, decide_eq_true_eq]
          cases x; cases y; simp only at c0 c1 c2; simp [c0, c1, c2]
        (simp only [go_sem, Nat.reduceAdd, Nat.reduceMul, Int.reduceToNat, Nat.reduceLeDiff, Int.reduceLE, Int.reduceLT, ↓reduceIte, Int.reduceBEq, Int.reduceBNe, Int.reduceAdd, Int.reduceSub, Int.reduceMul, q0, q1, q2]; try refine okTr_and rfl ?_)
        refine CallK.p (bytes_Equal x.data y.data hx hy) ?_; (simp only [go_sem, Nat.reduceAdd, Nat.reduceMul, Int.reduceToNat, Nat.reduceLeDiff, Int.reduceLE, Int.reduceLT, ↓reduceIte, Int.reduceBEq, Int.reduceBNe, Int.reduceAdd, Int.reduceSub, Int.reduceMul]; try refine okTr_and rfl ?_)
        ((refine FinK.finB r79 [] ?_ ?_); (· first | with_reducible rfl | (simp [e]; done) | rfl); (· simp [resAL, resA1, loadA, oneOr, e]))
      · have q2 : (x.hb == y.hb) = false := by simpa using c2
        have e : decide (x = y) = false := by simp only [decide_eq_false_iff_not]; rintro rfl; exact c2 rfl
        (simp only [go_sem, Nat.reduceAdd, Nat.reduceMul, Int.reduceToNat, Nat.reduceLeDiff, Int.reduceLE, Int.reduceLT, ↓reduceIte, Int.reduceBEq, Int.reduceBNe, Int.reduceAdd, Int.reduceSub, Int.reduceMul, q0, q1, q2]; try refine okTr_and rfl ?_)
        ((refine FinK.finB r79 [] ?_ ?_); (· first | with_reducible rfl | (simp [e]; done) | rfl); (· simp [resAL, resA1, loadA, oneOr, e]))
    · have q1 : (x.bk == y.bk) = false := by simpa using c1
      have e : decide (x = y) = false := by simp only [decide_eq_false_iff_not]; rintro rfl; exact c1 rfl
      (simp only [go_sem, Nat.reduceAdd, Nat.reduceMul, Int.reduceToNat, Nat.reduceLeDiff, Int.reduceLE, Int.reduceLT, ↓reduceIte, Int.reduceBEq, Int.reduceBNe, Int.reduceAdd, Int.reduceSub, Int.reduceMul, q0, q1]; try refine okTr_and rfl ?_)
      ((refine FinK.finB r79 [] ?_ ?_); (· first | with_reducible rfl | (simp [e]; done) | rfl); (· simp [resAL, resA1, loadA, oneOr, e]))
  · have q0 : (x.st == y.st) = false := by simpa using c0
    have e : decide (x = y) = false := by simp only [decide_eq_false_iff_not]; rintro rfl; exact c0 rfl
    (simp only [go_sem, Nat.reduceAdd, Nat.reduceMul, Int.reduceToNat, Nat.reduceLeDiff, Int.reduceLE, Int.reduceLT, ↓reduceIte, Int.reduceBEq, Int.reduceBNe, Int.reduceAdd, Int.reduceSub, Int.reduceMul, q0]; try refine okTr_and rfl ?_)
    ((refine FinK.finB r79 [] ?_ ?_); (· first | with_reducible rfl | (simp [e]; done) | rfl); (· simp [resAL, resA1, loadA, oneOr, e]))
theorem legacy_Same11 (x y : O1) (hx : Bys x.data) (hy : Bys y.data) : Ct Tryz.prog 79 [oA x, oA y] [] (fun _ => bA (decide (x = y))) [] (fun _ => []) := (legacy_Same110 x y hx hy).toCt cl cl
def same1 (u v : Sg1) : Bool := decide (u = v)
theorem same1_self (u : Sg1) : same1 u u = true := by simp [same1]
theorem legacy_Same10 (u v : Sg1) (hu : ∀ x ∈ u.en, Bys x.data) (hv : ∀ x ∈ v.en, Bys x.data) (hn : u.en.length ≤ 1000000) : Does Tryz.prog 18 [sg1A u, sg1A v] [] (bA (same1 u v)) [] := by
  refine Does.runA Tryz.func18 b18 n18 Tryz.ntmps18 ?_; simp only [c18, go_sem, Nat.reduceAdd, Nat.reduceMul, Int.reduceToNat, Nat.reduceLeDiff, Int.reduceLE, Int.reduceLT, ↓reduceIte, Int.reduceBEq, Int.reduceBNe, Int.reduceAdd, Int.reduceSub, Int.reduceMul]; try refine okTr_and rfl ?_
  by_cases c0 : u.ep = v.ep
  · have q0 : (u.ep == v.ep) = true := by simpa using c0
    by_cases c1 : u.base = v.base
    · have q1 : (u.base == v.base) = true := by simpa using c1
      have e : same1 u v = true ↔ u.en = v.en := by
        unfold same1
        rw [decide_eq_true_eq]
        cases u; cases v; simp only at c0 c1; simp [c0, c1]
      (simp only [go_sem, Nat.reduceAdd, Nat.reduceMul, Int.reduceToNat, Nat.reduceLeDiff, Int.reduceLE, Int.reduceLT, ↓reduceIte, Int.reduceBEq, Int.reduceBNe, Int.reduceAdd, Int.reduceSub, Int.reduceMul, q0, q1]; try refine okTr_and rfl ?_)
      refine CallK.p (EqualFuncO1 79 (fun x y => decide (x = y)) (fun x y => by simp) u.en v.en (fun x hx y hy => legacy_Same11 x y (hu x hx) (hv y hy)) (same1 u v) e hn) ?_; (simp only [go_sem, Nat.reduceAdd, Nat.reduceMul, Int.reduceToNat, Nat.reduceLeDiff, Int.reduceLE, Int.reduceLT, ↓reduceIte, Int.reduceBEq, Int.reduceBNe, Int.reduceAdd, Int.reduceSub, Int.reduceMul]; try refine okTr_and rfl ?_)
      exact FinK.finA r18 []
    · have q1 : (u.base == v.base) = false := by simpa using c1
      have e : same1 u v = false := by simp only [same1, decide_eq_false_iff_not]; rintro rfl; exact c1 rfl
      (simp only [go_sem, Nat.reduceAdd, Nat.reduceMul, Int.reduceToNat, Nat.reduceLeDiff, Int.reduceLE, Int.reduceLT, ↓reduceIte, Int.reduceBEq, Int.reduceBNe, Int.reduceAdd, Int.reduceSub, Int.reduceMul, q0, q1]; try refine okTr_and rfl ?_)
      ((refine FinK.finB r18 [] ?_ ?_); (· first | with_reducible rfl | (simp [e]; done) | rfl); (· simp [resAL, resA1, loadA, oneOr, e]))
  · have q0 : (u.ep == v.ep) = false := by simpa using c0
    have e : same1 u v = false := by simp only [same1, decide_eq_false_iff_not]; rintro rfl; exact c0 rfl
    (simp only [go_sem, Nat.reduceAdd, Nat.reduceMul, Int.reduceToNat, Nat.reduceLeDiff, Int.reduceLE, Int.reduceLT, ↓reduceIte, Int.reduceBEq, Int.reduceBNe, Int.reduceAdd, Int.reduceSub, Int.reduceMul, q0]; try refine okTr_and rfl ?_)
    ((refine FinK.finB r18 [] ?_ ?_); (· first | with_reducible rfl | (simp [e]; done) | rfl); (· simp [resAL, resA1, loadA, oneOr, e]))
theorem legacy_Same1 (u v : Sg1) (hu : ∀ x ∈ u.en, Bys x.data) (hv : ∀ x ∈ v.en, Bys x.data) (hn : u.en.length ≤ 1000000) : Ct Tryz.prog 18 [sg1A u, sg1A v] [] (fun _ => bA (same1 u v)) [] (fun _ => []) := (legacy_Same10 u v hu hv hn).toCt cl cl
set_option maxRecDepth 100000 in
theorem ref35_Same10 (u v : Sg1) (hu : ∀ x ∈ u.en, Bys x.data) (hv : ∀ x ∈ v.en, Bys x.data) (hn : u.en.length ≤ 1000000) : Does Tryz.prog 12 [sg1A u, sg1A v] [] (bA (same1 u v)) [] := by
  have hno : ¬ u = v → same1 u v = false := fun h => by simp [same1, h]
  refine Does.runA Tryz.func12 b12 n12 Tryz.ntmps12 ?_; simp only [c12, go_sem, Nat.reduceAdd, Nat.reduceMul, Int.reduceToNat, Nat.reduceLeDiff, Int.reduceLE, Int.reduceLT, ↓reduceIte, Int.reduceBEq, Int.reduceBNe, Int.reduceAdd, Int.reduceSub, Int.reduceMul]; try refine okTr_and rfl ?_
  by_cases c0 : u.ep = v.ep
  · have q0 : (u.ep != v.ep) = false := by simpa using c0
    by_cases c1 : u.base = v.base
    · have q1 : (u.base != v.base) = false := by simpa using c1
      by_cases hlen : u.en.length = v.en.length
      · have q2 : ((u.en.length : Int) != (v.en.length : Int)) = false := by simp; omega
        (simp only [go_sem, Nat.reduceAdd, Nat.reduceMul, Int.reduceToNat, Nat.reduceLeDiff, Int.reduceLE, Int.reduceLT, ↓reduceIte, Int.reduceBEq, Int.reduceBNe, Int.reduceAdd, Int.reduceSub, Int.reduceMul, q0, q1, o1s_length, q2]; try refine okTr_and rfl ?_)
        refine loop_of (α := Nat) (fun k => [.any, .any, .ref 0 0, .ref 1 0, .any, iA k, .any, .any, .any, .any, .any, .any, .any, .any, .any, .any, .any, .any, .any, .any, .any, .any, .any, .any, .any, .any, .any, .any, .any, .any, .any, .any, .any, .any, .any, .any, .any, .any, .any, .any, .any, .any, .any, .any, .any, .any, .any, .any, .any, .any, .any, .any, .any, .any, .any, .any, .any, .any, .any, .any, .any, .any, .any, .any, .any, .any, .any, .any, .any, .any, .any, .any, .any]) (fun _ => [sg1O u, sg1O v]) (fun k => k ≤ u.en.length ∧ ∀ i, i < k → u.en.getD i o10 = v.en.getD i o10) (fun k => u.en.length - k) 0 ⟨by simp, fun i hi => by omega⟩ (Wk.to (by simp) (by simp [leT])) ?_
        rintro k ⟨hk, hall⟩
        (simp only [go_sem, Nat.reduceAdd, Nat.reduceMul, Int.reduceToNat, Nat.reduceLeDiff, Int.reduceLE, Int.reduceLT, ↓reduceIte, Int.reduceBEq, Int.reduceBNe, Int.reduceAdd, Int.reduceSub, Int.reduceMul, o1s_length]; try refine okTr_and rfl ?_)
        by_cases hlt : k < u.en.length
        · have p1 : decide ((k : Int) < (u.en.length : Int)) = true := decide_eq_true (by omega)
          have ek := i64_succ k (by omega)
          have g1 := o1s_get u.en k hlt
          have g2 := o1s_get v.en k (by omega)
          have h1 := hu _ (o1_mem u.en k hlt)
          have h2 := hv _ (o1_mem v.en k (by omega))
          obtain ⟨x, ex⟩ : ∃ x, u.en.getD k o10 = x := ⟨_, rfl⟩
          obtain ⟨y, ey⟩ : ∃ y, v.en.getD k o10 = y := ⟨_, rfl⟩
          rw [ex] at g1 h1; rw [ey] at g2 h2
          have hne : ¬ x = y → same1 u v = false := fun h => hno (by rintro rfl; exact h (ex.symm.trans ey))
          (simp only [go_sem, Nat.reduceAdd, Nat.reduceMul, Int.reduceToNat, Nat.reduceLeDiff, Int.reduceLE, Int.reduceLT, ↓reduceIte, Int.reduceBEq, Int.reduceBNe, Int.reduceAdd, Int.reduceSub, Int.reduceMul, p1, g1, g2, o1s_length, Int.toNat_natCast]; try refine okTr_and rfl ?_)
          (repeat ((with_reducible refine And.intro ?_ ?_); (· exact sd)))
          by_cases d0 : x.st = y.st
          · have p2 : (x.st != y.st) = false := by simpa using d0
            by_cases d1 : x.bk = y.bk
            · have p3 : (x.bk != y.bk) = false := by simpa using d1
              by_cases d2 : x.hb = y.hb
              · have p4 : (x.hb == y.hb) = true := by simpa using d2
                (simp only [go_sem, Nat.reduceAdd, Nat.reduceMul, Int.reduceToNat, Nat.reduceLeDiff, Int.reduceLE, Int.reduceLT, ↓reduceIte, Int.reduceBEq, Int.reduceBNe, Int.reduceAdd, Int.reduceSub, Int.reduceMul, p2, p3, p4]; try refine okTr_and rfl ?_)
                (repeat ((with_reducible refine And.intro ?_ ?_); (· exact sd)))
                refine CallK.p (ref02_Same x.data y.data h1 h2) ?_
                by_cases d3 : x.data = y.data
                · have p5 : sameB x.data y.data = true := by simp [sameB, d3]
                  have hxy : x = y := by cases x; cases y; simp only at d0 d1 d2 d3; simp [d0, d1, d2, d3]
                  (simp only [go_sem, Nat.reduceAdd, Nat.reduceMul, Int.reduceToNat, Nat.reduceLeDiff, Int.reduceLE, Int.reduceLT, ↓reduceIte, Int.reduceBEq, Int.reduceBNe, Int.reduceAdd, Int.reduceSub, Int.reduceMul, p5, ek]; try refine okTr_and rfl ?_)
                  exact ⟨k + 1, ⟨hlt, fun i hi => by
                    rcases Nat.lt_or_ge i k with h | h
                    · exact hall i h
                    · obtain rfl : i = k := by omega
                      rw [ex, ey, hxy]⟩, by omega, Wk.sel [0, 1] (by simp) rfl (by simp) rfl (by simp [ixs_z]) (by simp [selT, ixs_z])⟩
                · have p5 : sameB x.data y.data = false := by simp [sameB, d3]
                  have e := hne (by rintro rfl; exact d3 rfl)
                  (simp only [go_sem, Nat.reduceAdd, Nat.reduceMul, Int.reduceToNat, Nat.reduceLeDiff, Int.reduceLE, Int.reduceLT, ↓reduceIte, Int.reduceBEq, Int.reduceBNe, Int.reduceAdd, Int.reduceSub, Int.reduceMul, p5]; try refine okTr_and rfl ?_)
                  ((refine FinK.finB r12 [] ?_ ?_); (· first | with_reducible rfl | (simp [e]; done) | rfl); (· simp [resAL, resA1, loadA, oneOr, e]))
              · have p4 : (x.hb == y.hb) = false := by simpa using d2
                have e := hne (by rintro rfl; exact d2 rfl)
                (simp only [go_sem, Nat.reduceAdd, Nat.reduceMul, Int.reduceToNat, Nat.reduceLeDiff, Int.reduceLE, Int.reduceLT, ↓reduceIte, Int.reduceBEq, Int.reduceBNe, Int.reduceAdd, Int.reduceSub, Int.reduceMul, p2, p3, p4]; try refine okTr_and rfl ?_)
                (repeat ((with_reducible refine And.intro ?_ ?_); (· exact sd)))
                ((refine FinK.finB r12 [] ?_ ?_); (· first | with_reducible rfl | (simp [e]; done) | rfl); (· simp [resAL, resA1, loadA, oneOr, e]))
            · have p3 : (x.bk != y.bk) = true := by simpa using d1
              have e := hne (by rintro rfl; exact d1 rfl)
              (simp only [go_sem, Nat.reduceAdd, Nat.reduceMul, Int.reduceToNat, Nat.reduceLeDiff, Int.reduceLE, Int.reduceLT, ↓reduceIte, Int.reduceBEq, Int.reduceBNe, Int.reduceAdd, Int.reduceSub, Int.reduceMul, p2, p3]; try refine okTr_and rfl ?_)
              (repeat ((with_reducible refine And.intro ?_ ?_); (· exact sd)))
              ((refine FinK.finB r12 [] ?_ ?_); (· first | with_reducible rfl | (simp [e]; done) | rfl); (· simp [resAL, resA1, loadA, oneOr, e]))
          · have p2 : (x.st != y.st) = true := by simpa using d0
            have e := hne (by rintro rfl; exact d0 rfl)
            (simp only [go_sem, Nat.reduceAdd, Nat.reduceMul, Int.reduceToNat, Nat.reduceLeDiff, Int.reduceLE, Int.reduceLT, ↓reduceIte, Int.reduceBEq, Int.reduceBNe, Int.reduceAdd, Int.reduceSub, Int.reduceMul, p2]; try refine okTr_and rfl ?_)
            (repeat ((with_reducible refine And.intro ?_ ?_); (· exact sd)))
            ((refine FinK.finB r12 [] ?_ ?_); (· first | with_reducible rfl | (simp [e]; done) | rfl); (· simp [resAL, resA1, loadA, oneOr, e]))
        · have p1 : decide ((k : Int) < (u.en.length : Int)) = false := decide_eq_false (by omega)
          have e : same1 u v = true := by
            have hen : u.en = v.en := List.ext_getElem hlen fun i h1 h2 => by
              have := hall i (by omega)
              simpa [h1, h2] using this
            simp only [same1, decide_eq_true_eq]
            cases u; cases v; simp only at c0 c1 hen; simp [c0, c1, hen]
          (simp only [go_sem, Nat.reduceAdd, Nat.reduceMul, Int.reduceToNat, Nat.reduceLeDiff, Int.reduceLE, Int.reduceLT, ↓reduceIte, Int.reduceBEq, Int.reduceBNe, Int.reduceAdd, Int.reduceSub, Int.reduceMul, p1]; try refine okTr_and rfl ?_)
          ((refine FinK.finB r12 [] ?_ ?_); (· first | with_reducible rfl | (simp [e]; done) | rfl); (· simp [resAL, resA1, loadA, oneOr, e]))
      · have q2 : ((u.en.length : Int) != (v.en.length : Int)) = true := by simp; omega
        have e := hno (by rintro rfl; exact hlen rfl)
        (simp only [go_sem, Nat.reduceAdd, Nat.reduceMul, Int.reduceToNat, Nat.reduceLeDiff, Int.reduceLE, Int.reduceLT, ↓reduceIte, Int.reduceBEq, Int.reduceBNe, Int.reduceAdd, Int.reduceSub, Int.reduceMul, q0, q1, o1s_length, q2]; try refine okTr_and rfl ?_)
        ((refine FinK.finB r12 [] ?_ ?_); (· first | with_reducible rfl | (simp [e]; done) | rfl); (· simp [resAL, resA1, loadA, oneOr, e]))
    · have q1 : (u.base != v.base) = true := by simpa using c1
      have e := hno (by rintro rfl; exact c1 rfl)
      (simp only [go_sem, Nat.reduceAdd, Nat.reduceMul, Int.reduceToNat, Nat.reduceLeDiff, Int.reduceLE, Int.reduceLT, ↓reduceIte, Int.reduceBEq, Int.reduceBNe, Int.reduceAdd, Int.reduceSub, Int.reduceMul, q0, q1]; try refine okTr_and rfl ?_)
      ((refine FinK.finB r12 [] ?_ ?_); (· first | with_reducible rfl | (simp [e]; done) | rfl); (· simp [resAL, resA1, loadA, oneOr, e]))
  · have q0 : (u.ep != v.ep) = true := by simpa using c0
    have e := hno (by rintro rfl; exact c0 rfl)
    (simp only [go_sem, Nat.reduceAdd, Nat.reduceMul, Int.reduceToNat, Nat.reduceLeDiff, Int.reduceLE, Int.reduceLT, ↓reduceIte, Int.reduceBEq, Int.reduceBNe, Int.reduceAdd, Int.reduceSub, Int.reduceMul, q0]; try refine okTr_and rfl ?_)
    ((refine FinK.finB r12 [] ?_ ?_); (· first | with_reducible rfl | (simp [e]; done) | rfl); (· simp [resAL, resA1, loadA, oneOr, e]))
theorem ref35_Same1 (u v : Sg1) (hu : ∀ x ∈ u.en, Bys x.data) (hv : ∀ x ∈ v.en, Bys x.data) (hn : u.en.length ≤ 1000000) : Ct Tryz.prog 12 [sg1A u, sg1A v] [] (fun _ => bA (same1 u v)) [] (fun _ => []) := (ref35_Same10 u v hu hv hn).toCt cl cl
def long1 (l : List O1) : Bool := (l.take 450).any (fun x => decide (300 < (x.data.length : Int))) || decide (450 < (l.length : Int))
theorem long1_no {l : List O1} (h : long1 l = false) : l.length ≤ 450 ∧ ∀ x ∈ l, x.data.length ≤ 300 := by
  unfold long1 at h
  rw [Bool.or_eq_false_iff] at h
  have h1 : l.length ≤ 450 := by have := h.2; simp only [decide_eq_false_iff_not] at this; omega
  refine ⟨h1, fun x hx => ?_⟩
  have h2 := h.1
  rw [List.take_of_length_le h1, List.any_eq_false] at h2
  have := h2 x hx
  simp only [decide_eq_true_eq] at this
  omega
theorem sumO_small : ∀ (l : List O1), (∀ x ∈ l, x.data.length ≤ 300) → sumO l ≤ 300 * l.length := by
  intro l
  induction l with
  | nil => intro _; simp [sumO]
  | cons x l ih =>
    intro h
    have h1 := h x (List.mem_cons_self ..)
    have h2 := ih fun y hy => h y (List.mem_cons_of_mem _ hy)
    unfold sumO at h2 ⊢
    simp only [List.flatMap_cons, List.length_append, List.length_cons]
    omega
set_option maxRecDepth 100000 in
theorem law35_Long10 (u : Sg1) : Does Tryz.prog 14 [sg1A u] [] (bA (long1 u.en)) [] := by
  refine Does.runA Tryz.func14 b14 n14 Tryz.ntmps14 ?_; simp only [c14, go_sem, Nat.reduceAdd, Nat.reduceMul, Int.reduceToNat, Nat.reduceLeDiff, Int.reduceLE, Int.reduceLT, ↓reduceIte, Int.reduceBEq, Int.reduceBNe, Int.reduceAdd, Int.reduceSub, Int.reduceMul]; try refine okTr_and rfl ?_
  refine loop_of (α := Nat) (fun k => [.any, .ref 0 0, .any, iA k, .any, .any, .any, .any, .any, .any, .any, .any, .any, .any, .any, .any, .any, .any, .any, .any, .any, .any, .any, .any, .any, .any, .any]) (fun _ => [sg1O u]) (fun k => k ≤ u.en.length ∧ k ≤ 450 ∧ ∀ i, i < k → (u.en.getD i o10).data.length ≤ 300) (fun k => u.en.length - k) 0 ⟨by simp, by simp, fun i hi => by omega⟩ (Wk.to (by simp) (by simp [leT])) ?_
  rintro k ⟨hk, hk2, hall⟩
  have hno : k = u.en.length ∨ k = 450 → (u.en.take 450).any (fun x => decide (300 < (x.data.length : Int))) = false := fun hor => by
    rw [List.any_eq_false]
    intro t ht
    obtain ⟨i, hi, rfl⟩ := List.getElem_of_mem ht
    simp only [List.length_take] at hi
    have := hall i (by omega)
    have e : u.en.getD i o10 = u.en[i]'(by omega) := by simp [show i < u.en.length by omega]
    rw [e] at this
    simp only [List.getElem_take, decide_eq_true_eq]
    omega
  (simp only [go_sem, Nat.reduceAdd, Nat.reduceMul, Int.reduceToNat, Nat.reduceLeDiff, Int.reduceLE, Int.reduceLT, ↓reduceIte, Int.reduceBEq, Int.reduceBNe, Int.reduceAdd, Int.reduceSub, Int.reduceMul, o1s_length]; try refine okTr_and rfl ?_)
  by_cases hlt : k < u.en.length
  · have q1 : decide ((k : Int) < (u.en.length : Int)) = true := decide_eq_true (by omega)
    by_cases h3 : k < 450
    · have q2 : decide ((k : Int) < 450) = true := decide_eq_true (by omega)
      have ek := i64_succ k (by omega)
      have g := o1s_get u.en k hlt
      by_cases h4 : (u.en.getD k o10).data.length ≤ 300
      · have q3 : decide (300 < ((u.en.getD k o10).data.length : Int)) = false := decide_eq_false (by omega)
        (simp only [go_sem, Nat.reduceAdd, Nat.reduceMul, Int.reduceToNat, Nat.reduceLeDiff, Int.reduceLE, Int.reduceLT, ↓reduceIte, Int.reduceBEq, Int.reduceBNe, Int.reduceAdd, Int.reduceSub, Int.reduceMul, q1, q2, g, o1s_length, Int.toNat_natCast, ints_length, q3, ek]; try refine okTr_and rfl ?_)
        (repeat ((with_reducible refine And.intro ?_ ?_); (· exact sd)))
        exact ⟨k + 1, ⟨hlt, h3, fun i hi => by
          rcases Nat.lt_or_ge i k with h | h
          · exact hall i h
          · obtain rfl : i = k := by omega
            exact h4⟩, by omega, Wk.to (by simp) (by simp [leT])⟩
      · have q3 : decide (300 < ((u.en.getD k o10).data.length : Int)) = true := decide_eq_true (by omega)
        have e : long1 u.en = true := by
          unfold long1
          rw [Bool.or_eq_true, List.any_eq_true]
          refine .inl ⟨u.en.getD k o10, ?_, q3⟩
          rw [List.mem_take_iff_getElem]
          exact ⟨k, by omega, by simp [hlt]⟩
        (simp only [go_sem, Nat.reduceAdd, Nat.reduceMul, Int.reduceToNat, Nat.reduceLeDiff, Int.reduceLE, Int.reduceLT, ↓reduceIte, Int.reduceBEq, Int.reduceBNe, Int.reduceAdd, Int.reduceSub, Int.reduceMul, q1, q2, g, o1s_length, Int.toNat_natCast, ints_length, q3]; try refine okTr_and rfl ?_)
        (repeat ((with_reducible refine And.intro ?_ ?_); (· exact sd)))
        ((refine FinK.finB r14 [] ?_ ?_); (· first | with_reducible rfl | (simp [e]; done) | rfl); (· simp [resAL, resA1, loadA, oneOr, e]))
    · have q2 : decide ((k : Int) < 450) = false := decide_eq_false (by omega)
      have e : decide (450 < (u.en.length : Int)) = long1 u.en := by
        unfold long1; rw [hno (.inr (by omega))]; rfl
      (simp only [go_sem, Nat.reduceAdd, Nat.reduceMul, Int.reduceToNat, Nat.reduceLeDiff, Int.reduceLE, Int.reduceLT, ↓reduceIte, Int.reduceBEq, Int.reduceBNe, Int.reduceAdd, Int.reduceSub, Int.reduceMul, q1, q2, o1s_length, e]; try refine okTr_and rfl ?_)
      exact FinK.finA r14 []
  · have q1 : decide ((k : Int) < (u.en.length : Int)) = false := decide_eq_false (by omega)
    have e : decide (450 < (u.en.length : Int)) = long1 u.en := by
      unfold long1; rw [hno (.inl (by omega))]; rfl
    (simp only [go_sem, Nat.reduceAdd, Nat.reduceMul, Int.reduceToNat, Nat.reduceLeDiff, Int.reduceLE, Int.reduceLT, ↓reduceIte, Int.reduceBEq, Int.reduceBNe, Int.reduceAdd, Int.reduceSub, Int.reduceMul, q1, o1s_length, e]; try refine okTr_and rfl ?_)
    exact FinK.finA r14 []
theorem law35_Long1 (u : Sg1) : Ct Tryz.prog 14 [sg1A u] [] (fun _ => bA (long1 u.en)) [] (fun _ => []) := (law35_Long10 u).toCt cl cl
end Go.Proofs.YtnfagphepkeedaaGreat
end
section
namespace Go.Proofs.YtnfagphepkeedaaGreat
variable {P : Program} {S : List AObj} {K : KT} {f : FuncId} {args args₀ : List AV}

theorem Wa.any1 {x : AV} (hx : x.cells = [x]) : Wa x .any := one_cel hx rfl fun _ v _ => .any v
theorem Wa.anyL (v : Value) : Wa (.lit v) .any := Wa.any1 rfl
theorem Wa.anyS (t : Tag) (k : Nat) (xs : List AV) : Wa (.sl t k xs) .any := Wa.any1 rfl
theorem Ct.u3 {o₀ p₀ q₀ o₁ p₁ q₁ o p q o' p' q' : AObj} {r : AV} (h : Does P f args₀ [o₀, p₀, q₀] r [o₁, p₁, q₁]) (i j k : Nat) (hn : [i, j, k].Nodup) (ha : ∀ N, args₀.map (fun x => x.ren (ixs [i, j, k] N)) = args)
    (ho : ∀ N, o₀.ren (ixs [i, j, k] N) = o) (hp : ∀ N, p₀.ren (ixs [i, j, k] N) = p) (hq : ∀ N, q₀.ren (ixs [i, j, k] N) = q) (ho' : ∀ N, o₁.ren (ixs [i, j, k] N) = o') (hp' : ∀ N, p₁.ren (ixs [i, j, k] N) = p') (hq' : ∀ N, q₁.ren (ixs [i, j, k] N) = q')
    (hd : ∀ x ∈ [o₀, p₀, q₀], x ≠ .dead) (hr : ∀ ρ, r.ren ρ = r) :
    Ct P f args [(i, o), (j, p), (k, q)] (fun _ => r) [(i, o'), (j, p'), (k, q')] (fun _ => []) :=
  Ct.mk h [i, j, k] hn rfl (by simp) hd (fun n N => by simpa using ha N) (fun n N => hr _) (fun n N => by simp [ho, hp, hq]) (.inl fun n N => by simp [ho', hp', hq']) (fun n N => rfl)
theorem CallK.u3 {r : AV} {i j k : Nat} {o p q o' p' q' : AObj} (h : Ct P f (args.map Proofs.YtnfagphepkeedaaGreat.untag) [(i, o), (j, p), (k, q)] (fun _ => r) [(i, o'), (j, p'), (k, q')] (fun _ => [])) (hS : S[i]? = some o) (hS' : S[j]? = some p) (hS'' : S[k]? = some q)
    (hK : K r [i, j, k] [(i, o'), (j, p'), (k, q')] []) : CallK P f args S K := CallK.of h.untag (by simp [hS, hS', hS'']) (by simp) hK
theorem Ct.u4 {o₀ p₀ q₀ s₀ o₁ p₁ q₁ s₁ o p q s o' p' q' s' : AObj} {r : AV} (h : Does P f args₀ [o₀, p₀, q₀, s₀] r [o₁, p₁, q₁, s₁]) (i j k l : Nat) (hn : [i, j, k, l].Nodup) (ha : ∀ N, args₀.map (fun x => x.ren (ixs [i, j, k, l] N)) = args)
    (ho : ∀ N, o₀.ren (ixs [i, j, k, l] N) = o) (hp : ∀ N, p₀.ren (ixs [i, j, k, l] N) = p) (hq : ∀ N, q₀.ren (ixs [i, j, k, l] N) = q) (hs : ∀ N, s₀.ren (ixs [i, j, k, l] N) = s) (ho' : ∀ N, o₁.ren (ixs [i, j, k, l] N) = o') (hp' : ∀ N, p₁.ren (ixs [i, j, k, l] N) = p') (hq' : ∀ N, q₁.ren (ixs [i, j, k, l] N) = q') (hs' : ∀ N, s₁.ren (ixs [i, j, k, l] N) = s')
    (hd : ∀ x ∈ [o₀, p₀, q₀, s₀], x ≠ .dead) (hr : ∀ ρ, r.ren ρ = r) :
    Ct P f args [(i, o), (j, p), (k, q), (l, s)] (fun _ => r) [(i, o'), (j, p'), (k, q'), (l, s')] (fun _ => []) :=
  Ct.mk h [i, j, k, l] hn rfl (by simp) hd (fun n N => by simpa using ha N) (fun n N => hr _) (fun n N => by simp [ho, hp, hq, hs]) (.inl fun n N => by simp [ho', hp', hq', hs']) (fun n N => rfl)
theorem CallK.u4 {r : AV} {i j k l : Nat} {o p q s o' p' q' s' : AObj} (h : Ct P f (args.map Proofs.YtnfagphepkeedaaGreat.untag) [(i, o), (j, p), (k, q), (l, s)] (fun _ => r) [(i, o'), (j, p'), (k, q'), (l, s')] (fun _ => [])) (hS : S[i]? = some o) (hS' : S[j]? = some p) (hS'' : S[k]? = some q) (hS3 : S[l]? = some s)
    (hK : K r [i, j, k, l] [(i, o'), (j, p'), (k, q'), (l, s')] []) : CallK P f args S K := CallK.of h.untag (by simp [hS, hS', hS'', hS3]) (by simp) hK
theorem sli_l_row (j k ks : Nat) (xs : List AV) (k1 : IntKind) (l : Int) : kSlice k (.sl (.row j) ks xs) (some (.lit (.int k1 l))) none none K =
    ((ks = k ∨ xs = []) ∧ 0 ≤ l ∧ l ≤ xs.length ∧ K (.sl .none ks (xs.drop l.toNat)) [] [] []) := by
  simp only [kSlice, bnd, AV.i, sTag, Int.le_refl, true_and]
  congr 4
  funext
  rw [List.take_of_length_le]
  simp; omega
end Go.Proofs.YtnfagphepkeedaaGreat
end
section
namespace Go.Proofs.YtnfagphepkeedaaGreat
open Go.RowKit

abbrev wA (n : Nat) : AV := .lit (.int .u32 (n : Int))
theorem u32_nat (n : Nat) (h : n < 4294967296) : IntKind.u32.wrap (n : Int) = n := IntWalk.u32_in _ (by omega)
theorem step_eq (c : Nat) : cstep c = if c % 2 = 1 then (c / 2) ^^^ 2197175160 else c / 2 := rfl
theorem crc_step0 (c : Nat) (hc : c < 4294967296) : Does Tryz.prog 179 [wA c] [] (wA (cstep c)) [] := by
  have e1 := and1 c hc
  have e2 : (c : Int).fdiv (2 ^ min 1 32) = ((c / 2 : Nat) : Int) := shr32 c 1
  have e3 := xor32 (c / 2) 2197175160 (by omega) (by omega)
  refine Does.runA Tryz.func179 b179 n179 Tryz.ntmps179 ?_; simp only [c179, go_sem, Nat.reduceAdd, Nat.reduceMul, Int.reduceToNat, Nat.reduceLeDiff, Int.reduceLE, Int.reduceLT, ↓reduceIte, Int.reduceBEq, Int.reduceBNe, Int.reduceAdd, Int.reduceSub, Int.reduceMul, e1, e2]; try refine okTr_and rfl ?_
  by_cases h : c % 2 = 1
  · have q : (((c % 2 : Nat) : Int) == 1) = true := by rw [h]; rfl
    have e : cstep c = (c / 2) ^^^ 2197175160 := by rw [step_eq, if_pos h]
    have e3' : bitsI .xor .u32 ((c / 2 : Nat) : Int) 2197175160 = ((c / 2 ^^^ 2197175160 : Nat) : Int) := e3
    (simp only [go_sem, Nat.reduceAdd, Nat.reduceMul, Int.reduceToNat, Nat.reduceLeDiff, Int.reduceLE, Int.reduceLT, ↓reduceIte, Int.reduceBEq, Int.reduceBNe, Int.reduceAdd, Int.reduceSub, Int.reduceMul, q, e1, e2, e3']; try refine okTr_and rfl ?_)
    ((refine FinK.finB r179 [] ?_ ?_); (· first | with_reducible rfl | (simp [e]; done) | rfl); (· simp [resAL, resA1, loadA, oneOr, e]))
  · have q : (((c % 2 : Nat) : Int) == 1) = false := by simp only [beq_eq_false_iff_ne, ne_eq]; omega
    have e : cstep c = c / 2 := by rw [step_eq, if_neg h]
    (simp only [go_sem, Nat.reduceAdd, Nat.reduceMul, Int.reduceToNat, Nat.reduceLeDiff, Int.reduceLE, Int.reduceLT, ↓reduceIte, Int.reduceBEq, Int.reduceBNe, Int.reduceAdd, Int.reduceSub, Int.reduceMul, q, e1, e2]; try refine okTr_and rfl ?_)
    ((refine FinK.finB r179 [] ?_ ?_); (· first | with_reducible rfl | (simp [e]; done) | rfl); (· simp [resAL, resA1, loadA, oneOr, e]))
theorem crc_step (c : Nat) (hc : c < 4294967296) : Ct Tryz.prog 179 [wA c] [] (fun _ => wA (cstep c)) [] (fun _ => []) := (crc_step0 c hc).toCt cl cl
/-- What each half of a byte makes of the state, as far as it is filled in. -/
def tabN (k : Nat) : List AV := (List.range 16).map fun i => wA (if i < k then csteps 4 i else 0)
theorem tabN_len (k : Nat) : (tabN k).length = 16 := by simp [tabN]
theorem tabN_set (k : Nat) : (tabN k).set k (wA (csteps 4 k)) = tabN (k + 1) := by
  refine List.ext_getElem? fun i => ?_
  rw [List.getElem?_set]
  by_cases h : k = i
  · subst h
    rw [if_pos rfl]
    by_cases hk : k < 16
    · rw [if_pos (by simpa [tabN] using hk)]; simp [tabN, hk]
    · rw [if_neg (by simpa [tabN] using hk)]; simp [tabN, hk]
  · rw [if_neg h]
    by_cases hk : i < 16
    · have : (i < k + 1) = (i < k) := by rw [eq_iff_iff]; omega
      simp [tabN, hk, this]
    · simp [tabN, hk]
@[simp] theorem tabN_ren (ρ : Nat → Nat) (k : Nat) : (tabN k).map (fun x => x.ren ρ) = tabN k := by simp [tabN, ixs_z]
def tab : List AV := tabN 16
theorem tab_get (i : Nat) (h : i < 16) : tab[i]? = some (wA (csteps 4 i)) := by
  simp [tab, tabN, h]
theorem csteps_snoc (n : Nat) : ∀ c, csteps (n + 1) c = cstep (csteps n c) := by
  intro c
  have := csteps_add n 1 c
  rw [this]; rfl
theorem splice_eq (xs : List AV) (o : Nat) (cs : List AV) (h : o + cs.length ≤ xs.length) : splice xs o cs = xs.take o ++ cs ++ xs.drop (o + cs.length) := by
  refine List.ext_getElem? fun j => ?_
  rw [splice_get xs o cs h, List.append_assoc, List.getElem?_append, List.length_take, show min o xs.length = o by omega]
  by_cases h1 : j < o
  · rw [if_neg (by omega), if_pos h1, List.getElem?_take, if_pos h1]
  · rw [if_neg h1, List.getElem?_append]
    by_cases h2 : j - o < cs.length
    · rw [if_pos (by omega), if_pos h2]
    · rw [if_neg (by omega), if_neg h2, List.getElem?_drop]; congr 1; omega
@[simp] theorem tab_ren (ρ : Nat → Nat) : tab.map (fun x => x.ren ρ) = tab := tabN_ren ρ 16
set_option maxRecDepth 100000 in
theorem crc_table0 : Does Tryz.prog 159 [] [] (.agg tab) [] := by
  refine Does.runA Tryz.func159 b159 n159 Tryz.ntmps159 ?_; simp only [c159, go_sem, Nat.reduceAdd, Nat.reduceMul, Int.reduceToNat, Nat.reduceLeDiff, Int.reduceLE, Int.reduceLT, ↓reduceIte, Int.reduceBEq, Int.reduceBNe, Int.reduceAdd, Int.reduceSub, Int.reduceMul]; try refine okTr_and rfl ?_
  refine loop_of (α := Nat) (fun k => [.ref 0 0, .ref 1 0, .any, .any, iA k, .any, .any, .any, .any, .any, .any, .any, .any, .any, .any, .any, .any, .any, .any]) (fun k => [.cells (tabN 0), .cells (tabN k)]) (fun k => k ≤ 16) (fun k => 16 - k) 0 (by simp) (Wk.to (by rfl) (by simp [leT])) ?_
  intro k hk
  (simp only [go_sem, Nat.reduceAdd, Nat.reduceMul, Int.reduceToNat, Nat.reduceLeDiff, Int.reduceLE, Int.reduceLT, ↓reduceIte, Int.reduceBEq, Int.reduceBNe, Int.reduceAdd, Int.reduceSub, Int.reduceMul]; try refine okTr_and rfl ?_)
  refine cdK_split (fun h => ?_) (fun h => ?_)
  · have hlt : k < 16 := by simp at h; omega
    have ek := i64_succ k (by omega)
    have ec := u32_nat k (by omega)
    (simp only [go_sem, Nat.reduceAdd, Nat.reduceMul, Int.reduceToNat, Nat.reduceLeDiff, Int.reduceLE, Int.reduceLT, ↓reduceIte, Int.reduceBEq, Int.reduceBNe, Int.reduceAdd, Int.reduceSub, Int.reduceMul, ec]; try refine okTr_and rfl ?_)
    refine loop_of (α := Nat) (fun j => [.ref 0 0, .ref 1 0, iA k, wA (csteps j k), iA k, .any, .any, .any, .any, iA j, .any, .any, .any, .any, .any, .any, .any, .any, .any]) (fun j => [.cells (tabN 0), .cells (tabN k)]) (fun j => j ≤ 4) (fun j => 4 - j) 0 (by simp) (Wk.to (by rfl) (by simp [leT, csteps])) ?_
    intro j hj
    (simp only [go_sem, Nat.reduceAdd, Nat.reduceMul, Int.reduceToNat, Nat.reduceLeDiff, Int.reduceLE, Int.reduceLT, ↓reduceIte, Int.reduceBEq, Int.reduceBNe, Int.reduceAdd, Int.reduceSub, Int.reduceMul]; try refine okTr_and rfl ?_)
    refine cdK_split (fun h => ?_) (fun h => ?_)
    · have hj4 : j < 4 := by simp at h; omega
      have ej := i64_succ j (by omega)
      have hs := csteps_snoc j k
      (simp only [go_sem, Nat.reduceAdd, Nat.reduceMul, Int.reduceToNat, Nat.reduceLeDiff, Int.reduceLE, Int.reduceLT, ↓reduceIte, Int.reduceBEq, Int.reduceBNe, Int.reduceAdd, Int.reduceSub, Int.reduceMul]; try refine okTr_and rfl ?_)
      refine CallK.p (crc_step (csteps j k) (csteps_lt j (by omega))) ?_; (simp only [go_sem, Nat.reduceAdd, Nat.reduceMul, Int.reduceToNat, Nat.reduceLeDiff, Int.reduceLE, Int.reduceLT, ↓reduceIte, Int.reduceBEq, Int.reduceBNe, Int.reduceAdd, Int.reduceSub, Int.reduceMul, ej]; try refine okTr_and rfl ?_)
      exact ⟨j + 1, by omega, by omega, Wk.to (by rfl) (by simp [leT, hs])⟩
    · have ej : j = 4 := by simp at h; omega
      subst ej
      (simp only [go_sem, Nat.reduceAdd, Nat.reduceMul, Int.reduceToNat, Nat.reduceLeDiff, Int.reduceLE, Int.reduceLT, ↓reduceIte, Int.reduceBEq, Int.reduceBNe, Int.reduceAdd, Int.reduceSub, Int.reduceMul, Int.toNat_natCast, tabN_len, Nat.mul_one, ek, tabN_set]; try refine okTr_and rfl ?_)
      (repeat ((with_reducible refine And.intro ?_ ?_); (· exact sd)))
      exact ⟨k + 1, by omega, by omega, Wk.to (by simp) (by simp [leT])⟩
  · have ek : k = 16 := by simp at h; omega
    subst ek
    have etk : List.take 16 (tabN 16) = tabN 16 := List.take_of_length_le (by rw [tabN_len]; omega)
    have esp : splice (tabN 0) 0 (tabN 16) = tabN 16 := by
      rw [splice_eq _ 0 _ (by rw [tabN_len, tabN_len]; omega), tabN_len, List.drop_eq_nil_of_le (by rw [tabN_len]; omega)]; simp
    (simp only [go_sem, Nat.reduceAdd, Nat.reduceMul, Int.reduceToNat, Nat.reduceLeDiff, Int.reduceLE, Int.reduceLT, ↓reduceIte, Int.reduceBEq, Int.reduceBNe, Int.reduceAdd, Int.reduceSub, Int.reduceMul, tabN_len, etk, esp]; try refine okTr_and rfl ?_)
    (repeat ((with_reducible refine And.intro ?_ ?_); (· exact sd)))
    ((refine FinK.finB r159 [] ?_ ?_); (· first | with_reducible rfl | (simp [tab, tabN_len, etk]; done) | rfl); (· simp [resAL, resA1, loadA, oneOr, tab, tabN_len, etk]))
theorem crc_table : Ct Tryz.prog 159 [] [] (fun _ => .agg tab) [] (fun _ => []) := (crc_table0).toCt cl cl
theorem nats_take (l : List Int) (k : Nat) (h : k < l.length) : nats (l.take (k + 1)) = nats (l.take k) ++ [(l.getD k 0).toNat] := by
  rw [take_snoc l k h, nats_append]; rfl
theorem tab_len : tab.length = 16 := tabN_len 16
theorem tab_splice {xs : List AV} (h : xs.length = 16) : splice xs 0 tab = tab := by
  rw [splice_eq xs 0 tab (by rw [tab_len, h]; omega), tab_len, List.drop_eq_nil_of_le (by omega)]; simp
theorem half_eq (b : Nat) (hb : b < 4294967296) : bitsI .xor .u32 ((b / 16 : Nat) : Int) ((csteps 4 (b % 16) : Nat) : Int) = ((csteps 4 b : Nat) : Int) := by
  have := csteps_lt 4 (c := b % 16) (by omega)
  rw [xor32 (b / 16) (csteps 4 (b % 16)) (by omega) (by omega), ← csteps_half]
theorem xor_lt {a b : Nat} (ha : a < 4294967296) (hb : b < 4294967296) : a ^^^ b < 4294967296 := by
  have : a ^^^ b < 2 ^ 32 := Nat.xor_lt_two_pow (by omega) (by omega)
  omega
set_option maxRecDepth 100000 in
theorem crc_Add0 (c : Nat) (l : List Int) (hc : c < 4294967296) (hl : Bys l) (hn : l.length ≤ 140737488355328) : Does Tryz.prog 108 [wA c, slA .u8 l] [] (wA (crcA c (nats l))) [] := by
  refine Does.runA Tryz.func108 b108 n108 Tryz.ntmps108 ?_; simp only [c108, go_sem, Nat.reduceAdd, Nat.reduceMul, Int.reduceToNat, Nat.reduceLeDiff, Int.reduceLE, Int.reduceLT, ↓reduceIte, Int.reduceBEq, Int.reduceBNe, Int.reduceAdd, Int.reduceSub, Int.reduceMul]; try refine okTr_and rfl ?_
  refine CallK.p (crc_table) ?_; (simp only [go_sem, Nat.reduceAdd, Nat.reduceMul, Int.reduceToNat, Nat.reduceLeDiff, Int.reduceLE, Int.reduceLT, ↓reduceIte, Int.reduceBEq, Int.reduceBNe, Int.reduceAdd, Int.reduceSub, Int.reduceMul, ints_length, tab_len, tab_splice]; try refine okTr_and rfl ?_)
  (repeat ((with_reducible refine And.intro ?_ ?_); (· exact sd)))
  refine loop_of (α := Nat) (fun k => [wA (crcA c (nats (l.take k))), .any, .any, .any, .any, .ref 0 0, .any, .any, .any, slA .u8 l, iA l.length, iA k, .any, .any, .any, .any, .any, .any, .any, .any, .any, .any, .any, .any, .any, .any, .any, .any, .any, .any, .any, .any, .any, .any, .any]) (fun _ => [.cells tab]) (fun k => k ≤ l.length) (fun k => l.length - k) 0 (by simp) (Wk.to (by simp) (by simp [leT, nats, crcA])) ?_
  intro k hk
  (simp only [go_sem, Nat.reduceAdd, Nat.reduceMul, Int.reduceToNat, Nat.reduceLeDiff, Int.reduceLE, Int.reduceLT, ↓reduceIte, Int.reduceBEq, Int.reduceBNe, Int.reduceAdd, Int.reduceSub, Int.reduceMul]; try refine okTr_and rfl ?_)
  refine cdK_split (fun h => ?_) (fun h => ?_)
  · have hlt : k < l.length := by simpa using h
    have ek := i64_succ k (by omega)
    have g := u8_get l (k : Int) (by omega) (by omega)
    have hx := hl _ (getD_mem l k hlt)
    have hst := nats_take l k hlt
    have ha := crcA_lt hc (l := nats (l.take k)) (fun x hx => nats_lt hl x (by
      simp only [nats, List.mem_map] at hx ⊢
      obtain ⟨y, hy, rfl⟩ := hx
      exact ⟨y, List.mem_of_mem_take hy, rfl⟩))
    rw [Int.toNat_natCast] at g
    obtain ⟨x, hxe⟩ : ∃ x : Nat, l.getD k 0 = (x : Int) := ⟨(l.getD k 0).toNat, by omega⟩
    rw [hxe] at g hx hst
    rw [Int.toNat_natCast] at hst
    have he : crcA c (nats (l.take (k + 1))) = cinto (crcA c (nats (l.take k))) x := by rw [hst, crcA_snoc]
    obtain ⟨a, hae⟩ : ∃ a, crcA c (nats (l.take k)) = a := ⟨_, rfl⟩
    rw [hae] at ha he ⊢
    have hb := xor_lt ha (show x < 4294967296 by omega)
    have e0 := u32_nat x (by omega)
    have e1 := xor32 a x ha (by omega)
    obtain ⟨b, hbe⟩ : ∃ b, a ^^^ x = b := ⟨_, rfl⟩
    rw [hbe] at e1 hb
    have s1 : (b : Int).fdiv (2 ^ min 4 32) = ((b / 16 : Nat) : Int) := shr32 b 4
    have s2 := and15 b hb
    have s3 := half_eq b hb
    have t1 := tab_get (b % 16) (by omega)
    have hd := csteps_lt 4 hb
    obtain ⟨d, hde⟩ : ∃ d, csteps 4 b = d := ⟨_, rfl⟩
    rw [hde] at s3 hd
    have u1 : (d : Int).fdiv (2 ^ min 4 32) = ((d / 16 : Nat) : Int) := shr32 d 4
    have u2 := and15 d hd
    have u3 := half_eq d hd
    have t2 := tab_get (d % 16) (by omega)
    have hf : csteps 4 d = crcA c (nats (l.take (k + 1))) := by rw [he, cinto_half, hbe, hde]
    rw [hf] at u3
    (simp only [go_sem, Nat.reduceAdd, Nat.reduceMul, Int.reduceToNat, Nat.reduceLeDiff, Int.reduceLE, Int.reduceLT, ↓reduceIte, Int.reduceBEq, Int.reduceBNe, Int.reduceAdd, Int.reduceSub, Int.reduceMul, g, ints_length, Int.toNat_natCast, e0, e1, s1, s2, s3, t1, u1, u2, u3, t2, ek, Nat.mul_one]; try refine okTr_and rfl ?_)
    (repeat ((with_reducible refine And.intro ?_ ?_); (· exact sd)))
    exact ⟨k + 1, by omega, by omega, Wk.to (by simp) (by simp [leT])⟩
  · have ek : k = l.length := by simp at h; omega
    subst ek
    (simp only [go_sem, Nat.reduceAdd, Nat.reduceMul, Int.reduceToNat, Nat.reduceLeDiff, Int.reduceLE, Int.reduceLT, ↓reduceIte, Int.reduceBEq, Int.reduceBNe, Int.reduceAdd, Int.reduceSub, Int.reduceMul]; try refine okTr_and rfl ?_)
    ((refine FinK.finB r108 [] ?_ ?_); (· first | with_reducible rfl | (simp [List.take_length]; done) | rfl); (· simp [resAL, resA1, loadA, oneOr, List.take_length]))
theorem crc_Add (c : Nat) (l : List Int) (hc : c < 4294967296) (hl : Bys l) (hn : l.length ≤ 140737488355328) : Ct Tryz.prog 108 [wA c, slA .u8 l] [] (fun _ => wA (crcA c (nats l))) [] (fun _ => []) := (crc_Add0 c l hc hl hn).toCt cl cl
theorem crc_Begin0 : Does Tryz.prog 109 [] [] (wA 4294967295) [] := by
  refine Does.runA Tryz.func109 b109 n109 Tryz.ntmps109 ?_; simp only [c109, go_sem, Nat.reduceAdd, Nat.reduceMul, Int.reduceToNat, Nat.reduceLeDiff, Int.reduceLE, Int.reduceLT, ↓reduceIte, Int.reduceBEq, Int.reduceBNe, Int.reduceAdd, Int.reduceSub, Int.reduceMul]; try refine okTr_and rfl ?_
  exact FinK.finA r109 []
theorem crc_Begin : Ct Tryz.prog 109 [] [] (fun _ => wA 4294967295) [] (fun _ => []) := (crc_Begin0).toCt cl cl
theorem crc_End0 (c : Nat) (hc : c < 4294967296) : Does Tryz.prog 107 [wA c] [] (.lit (.int .u32 (4294967295 - (c : Int)))) [] := by
  have e : bitsI .xor .u32 (if IntKind.u32.signed then -1 else IntKind.u32.max) (c : Int) = 4294967295 - (c : Int) := not32 c hc
  refine Does.runA Tryz.func107 b107 n107 Tryz.ntmps107 ?_; simp only [c107, go_sem, Nat.reduceAdd, Nat.reduceMul, Int.reduceToNat, Nat.reduceLeDiff, Int.reduceLE, Int.reduceLT, ↓reduceIte, Int.reduceBEq, Int.reduceBNe, Int.reduceAdd, Int.reduceSub, Int.reduceMul, e]; try refine okTr_and rfl ?_
  exact FinK.finA r107 []
theorem crc_End (c : Nat) (hc : c < 4294967296) : Ct Tryz.prog 107 [wA c] [] (fun _ => .lit (.int .u32 (4294967295 - (c : Int)))) [] (fun _ => []) := (crc_End0 c hc).toCt cl cl
abbrev sumA (l : List Int) : AV := .lit (.int .u32 (crcI l))
theorem crc_Sum0 (l : List Int) (hl : Bys l) (hn : l.length ≤ 140737488355328) : Does Tryz.prog 37 [slA .u8 l] [] (sumA l) [] := by
  have h := crcA_lt (c := 4294967295) (by omega) (nats_lt hl)
  refine Does.runA Tryz.func37 b37 n37 Tryz.ntmps37 ?_; simp only [c37, go_sem, Nat.reduceAdd, Nat.reduceMul, Int.reduceToNat, Nat.reduceLeDiff, Int.reduceLE, Int.reduceLT, ↓reduceIte, Int.reduceBEq, Int.reduceBNe, Int.reduceAdd, Int.reduceSub, Int.reduceMul]; try refine okTr_and rfl ?_
  refine CallK.p (crc_Begin) ?_; (simp only [go_sem, Nat.reduceAdd, Nat.reduceMul, Int.reduceToNat, Nat.reduceLeDiff, Int.reduceLE, Int.reduceLT, ↓reduceIte, Int.reduceBEq, Int.reduceBNe, Int.reduceAdd, Int.reduceSub, Int.reduceMul]; try refine okTr_and rfl ?_)
  refine CallK.p (crc_Add 4294967295 l (by omega) hl hn) ?_; (simp only [go_sem, Nat.reduceAdd, Nat.reduceMul, Int.reduceToNat, Nat.reduceLeDiff, Int.reduceLE, Int.reduceLT, ↓reduceIte, Int.reduceBEq, Int.reduceBNe, Int.reduceAdd, Int.reduceSub, Int.reduceMul]; try refine okTr_and rfl ?_)
  refine CallK.p (crc_End (crcA 4294967295 (nats l)) h) ?_; (simp only [go_sem, Nat.reduceAdd, Nat.reduceMul, Int.reduceToNat, Nat.reduceLeDiff, Int.reduceLE, Int.reduceLT, ↓reduceIte, Int.reduceBEq, Int.reduceBNe, Int.reduceAdd, Int.reduceSub, Int.reduceMul]; try refine okTr_and rfl ?_)
  ((refine FinK.finB r37 [] ?_ ?_); (· first | with_reducible rfl | (simp [crcI]; done) | rfl); (· simp [resAL, resA1, loadA, oneOr, crcI]))
theorem crc_Sum (l : List Int) (hl : Bys l) (hn : l.length ≤ 140737488355328) : Ct Tryz.prog 37 [slA .u8 l] [] (fun _ => sumA l) [] (fun _ => []) := (crc_Sum0 l hl hn).toCt cl cl
set_option maxRecDepth 100000 in
theorem ref07_into0 (c x : Nat) (hc : c < 4294967296) (hx : x < 256) : Does Tryz.prog 161 [wA c, u8A (x : Int)] [] (wA (cinto c x)) [] := by
  have e0 := u32_nat x (by omega)
  have e1 := xor32 c x hc (by omega)
  have hb := xor_lt hc (show x < 4294967296 by omega)
  have hce : cinto c x = csteps 8 (c ^^^ x) := rfl
  obtain ⟨b, hbe⟩ : ∃ b, c ^^^ x = b := ⟨_, rfl⟩
  rw [hbe] at e1 hb hce
  refine Does.runA Tryz.func161 b161 n161 Tryz.ntmps161 ?_; simp only [c161, go_sem, Nat.reduceAdd, Nat.reduceMul, Int.reduceToNat, Nat.reduceLeDiff, Int.reduceLE, Int.reduceLT, ↓reduceIte, Int.reduceBEq, Int.reduceBNe, Int.reduceAdd, Int.reduceSub, Int.reduceMul, e0, e1]; try refine okTr_and rfl ?_
  refine loop_of (α := Nat) (fun j => [wA (csteps j b), .any, .any, .any, .any, iA j, .any, .any, .any, .any, .any, .any, .any, .any, .any, .any, .any, .any, .any, .any, .any, .any, .any, .any]) (fun _ => []) (fun j => j ≤ 8) (fun j => 8 - j) 0 (by simp) (Wk.to (by simp) (by simp [leT, csteps])) ?_
  intro j hj
  have hs := csteps_lt j hb
  have hsn := csteps_snoc j b
  (simp only [go_sem, Nat.reduceAdd, Nat.reduceMul, Int.reduceToNat, Nat.reduceLeDiff, Int.reduceLE, Int.reduceLT, ↓reduceIte, Int.reduceBEq, Int.reduceBNe, Int.reduceAdd, Int.reduceSub, Int.reduceMul]; try refine okTr_and rfl ?_)
  refine cdK_split (fun h => ?_) (fun h => ?_)
  · have hlt : j < 8 := by simp at h; omega
    have ej := i64_succ j (by omega)
    obtain ⟨d, hde⟩ : ∃ d, csteps j b = d := ⟨_, rfl⟩
    rw [hde] at hs hsn ⊢
    have em : (d : Int).tmod 2 = ((d % 2 : Nat) : Int) := by rw [Int.tmod_eq_emod_of_nonneg (by omega)]; omega
    have ed : IntKind.u32.wrap ((d : Int).tdiv 2) = ((d / 2 : Nat) : Int) := by rw [Int.tdiv_eq_ediv_of_nonneg (by omega), IntWalk.u32_in _ (by omega)]; omega
    have e3 : bitsI .xor .u32 ((d / 2 : Nat) : Int) 2197175160 = ((d / 2 ^^^ 2197175160 : Nat) : Int) := xor32 (d / 2) 2197175160 (by omega) (by omega)
    rw [step_eq] at hsn
    by_cases h1 : d % 2 = 1
    · have q : (((d % 2 : Nat) : Int) == 1) = true := by rw [h1]; rfl
      rw [if_pos h1] at hsn
      (simp only [go_sem, Nat.reduceAdd, Nat.reduceMul, Int.reduceToNat, Nat.reduceLeDiff, Int.reduceLE, Int.reduceLT, ↓reduceIte, Int.reduceBEq, Int.reduceBNe, Int.reduceAdd, Int.reduceSub, Int.reduceMul, em, ed, q, e3, ej]; try refine okTr_and rfl ?_)
      (repeat ((with_reducible refine And.intro ?_ ?_); (· exact sd)))
      exact ⟨j + 1, by omega, by omega, Wk.to (by simp) (by simp [leT, hsn])⟩
    · have q : (((d % 2 : Nat) : Int) == 1) = false := by simp only [beq_eq_false_iff_ne, ne_eq]; omega
      rw [if_neg h1] at hsn
      (simp only [go_sem, Nat.reduceAdd, Nat.reduceMul, Int.reduceToNat, Nat.reduceLeDiff, Int.reduceLE, Int.reduceLT, ↓reduceIte, Int.reduceBEq, Int.reduceBNe, Int.reduceAdd, Int.reduceSub, Int.reduceMul, em, ed, q, ej]; try refine okTr_and rfl ?_)
      (repeat ((with_reducible refine And.intro ?_ ?_); (· exact sd)))
      exact ⟨j + 1, by omega, by omega, Wk.to (by simp) (by simp [leT, hsn])⟩
  · have ej : j = 8 := by simp at h; omega
    subst ej
    (simp only [go_sem, Nat.reduceAdd, Nat.reduceMul, Int.reduceToNat, Nat.reduceLeDiff, Int.reduceLE, Int.reduceLT, ↓reduceIte, Int.reduceBEq, Int.reduceBNe, Int.reduceAdd, Int.reduceSub, Int.reduceMul]; try refine okTr_and rfl ?_)
    ((refine FinK.finB r161 [] ?_ ?_); (· first | with_reducible rfl | (simp [hce]; done) | rfl); (· simp [resAL, resA1, loadA, oneOr, hce]))
theorem ref07_into (c x : Nat) (hc : c < 4294967296) (hx : x < 256) : Ct Tryz.prog 161 [wA c, u8A (x : Int)] [] (fun _ => wA (cinto c x)) [] (fun _ => []) := (ref07_into0 c x hc hx).toCt cl cl
theorem ref07_Add0 (c : Nat) (l : List Int) (hc : c < 4294967296) (hl : Bys l) (hn : l.length ≤ 140737488355328) : Does Tryz.prog 115 [wA c, slA .u8 l] [] (wA (crcA c (nats l))) [] := by
  refine Does.runA Tryz.func115 b115 n115 Tryz.ntmps115 ?_; simp only [c115, go_sem, Nat.reduceAdd, Nat.reduceMul, Int.reduceToNat, Nat.reduceLeDiff, Int.reduceLE, Int.reduceLT, ↓reduceIte, Int.reduceBEq, Int.reduceBNe, Int.reduceAdd, Int.reduceSub, Int.reduceMul]; try refine okTr_and rfl ?_
  refine loop_of (α := Nat) (fun k => [wA (crcA c (nats (l.take k))), slA .u8 l, .any, .any, .any, iA k, .any, .any, .any, .any, .any, .any, .any, .any, .any, .any, .any, .any, .any]) (fun _ => []) (fun k => k ≤ l.length) (fun k => l.length - k) 0 (by simp) (Wk.to (by simp) (by simp [leT, nats, crcA])) ?_
  intro k hk
  (simp only [go_sem, Nat.reduceAdd, Nat.reduceMul, Int.reduceToNat, Nat.reduceLeDiff, Int.reduceLE, Int.reduceLT, ↓reduceIte, Int.reduceBEq, Int.reduceBNe, Int.reduceAdd, Int.reduceSub, Int.reduceMul, ints_length]; try refine okTr_and rfl ?_)
  refine cdK_split (fun h => ?_) (fun h => ?_)
  · have hlt : k < l.length := by simpa using h
    have ek := i64_succ k (by omega)
    have g := u8_get l (k : Int) (by omega) (by omega)
    have hx := hl _ (getD_mem l k hlt)
    have hst := nats_take l k hlt
    have ha := crcA_lt hc (l := nats (l.take k)) (fun x hx => nats_lt hl x (by
      simp only [nats, List.mem_map] at hx ⊢
      obtain ⟨y, hy, rfl⟩ := hx
      exact ⟨y, List.mem_of_mem_take hy, rfl⟩))
    rw [Int.toNat_natCast] at g
    obtain ⟨x, hxe⟩ : ∃ x : Nat, l.getD k 0 = (x : Int) := ⟨(l.getD k 0).toNat, by omega⟩
    rw [hxe] at g hx hst
    rw [Int.toNat_natCast] at hst
    have he : crcA c (nats (l.take (k + 1))) = cinto (crcA c (nats (l.take k))) x := by rw [hst, crcA_snoc]
    (simp only [go_sem, Nat.reduceAdd, Nat.reduceMul, Int.reduceToNat, Nat.reduceLeDiff, Int.reduceLE, Int.reduceLT, ↓reduceIte, Int.reduceBEq, Int.reduceBNe, Int.reduceAdd, Int.reduceSub, Int.reduceMul, g, ints_length, Int.toNat_natCast]; try refine okTr_and rfl ?_)
    (repeat ((with_reducible refine And.intro ?_ ?_); (· exact sd)))
    refine CallK.p (ref07_into (crcA c (nats (l.take k))) x ha (by omega)) ?_; (simp only [go_sem, Nat.reduceAdd, Nat.reduceMul, Int.reduceToNat, Nat.reduceLeDiff, Int.reduceLE, Int.reduceLT, ↓reduceIte, Int.reduceBEq, Int.reduceBNe, Int.reduceAdd, Int.reduceSub, Int.reduceMul, ek]; try refine okTr_and rfl ?_)
    exact ⟨k + 1, by omega, by omega, Wk.to (by simp) (by simp [leT, he])⟩
  · have ek : k = l.length := by simp at h; omega
    subst ek
    (simp only [go_sem, Nat.reduceAdd, Nat.reduceMul, Int.reduceToNat, Nat.reduceLeDiff, Int.reduceLE, Int.reduceLT, ↓reduceIte, Int.reduceBEq, Int.reduceBNe, Int.reduceAdd, Int.reduceSub, Int.reduceMul]; try refine okTr_and rfl ?_)
    ((refine FinK.finB r115 [] ?_ ?_); (· first | with_reducible rfl | (simp [List.take_length]; done) | rfl); (· simp [resAL, resA1, loadA, oneOr, List.take_length]))
theorem ref07_Add (c : Nat) (l : List Int) (hc : c < 4294967296) (hl : Bys l) (hn : l.length ≤ 140737488355328) : Ct Tryz.prog 115 [wA c, slA .u8 l] [] (fun _ => wA (crcA c (nats l))) [] (fun _ => []) := (ref07_Add0 c l hc hl hn).toCt cl cl
theorem ref07_Sum0 (l : List Int) (hl : Bys l) (hn : l.length ≤ 140737488355328) : Does Tryz.prog 47 [slA .u8 l] [] (sumA l) [] := by
  have h := crcI_range hl
  have e : IntKind.u32.wrap (4294967295 - ((crcA 4294967295 (nats l) : Nat) : Int)) = crcI l := IntWalk.u32_in _ (by unfold crcI at h; omega)
  refine Does.runA Tryz.func47 b47 n47 Tryz.ntmps47 ?_; simp only [c47, go_sem, Nat.reduceAdd, Nat.reduceMul, Int.reduceToNat, Nat.reduceLeDiff, Int.reduceLE, Int.reduceLT, ↓reduceIte, Int.reduceBEq, Int.reduceBNe, Int.reduceAdd, Int.reduceSub, Int.reduceMul]; try refine okTr_and rfl ?_
  refine CallK.p (ref07_Add 4294967295 l (by omega) hl hn) ?_; (simp only [go_sem, Nat.reduceAdd, Nat.reduceMul, Int.reduceToNat, Nat.reduceLeDiff, Int.reduceLE, Int.reduceLT, ↓reduceIte, Int.reduceBEq, Int.reduceBNe, Int.reduceAdd, Int.reduceSub, Int.reduceMul, e]; try refine okTr_and rfl ?_)
  exact FinK.finA r47 []
theorem ref07_Sum (l : List Int) (hl : Bys l) (hn : l.length ≤ 140737488355328) : Ct Tryz.prog 47 [slA .u8 l] [] (fun _ => sumA l) [] (fun _ => []) := (ref07_Sum0 l hl hn).toCt cl cl
theorem sum_u64 {l : List Int} (hl : Bys l) : IntKind.u64.wrap (crcI l) = crcI l := by
  have := crcI_range hl
  exact IntWalk.u64_in _ (by omega)
end Go.Proofs.YtnfagphepkeedaaGreat
end
section
namespace Go.Proofs.YtnfagphepkeedaaGreat
open Go.RowKit

theorem ref03_Fixed0 (x : Int) (n : Nat) (h0 : 0 ≤ x) (h1 : x < 18446744073709551616) (hn : n ≤ 8) : Does Tryz.prog 84 [uA x, iA n] [] (slA .u8 (lowBytes n x)) [] := by
  refine Does.runA Tryz.func84 b84 n84 Tryz.ntmps84 ?_; simp only [c84, go_sem, Nat.reduceAdd, Nat.reduceMul, Int.reduceToNat, Nat.reduceLeDiff, Int.reduceLE, Int.reduceLT, ↓reduceIte, Int.reduceBEq, Int.reduceBNe, Int.reduceAdd, Int.reduceSub, Int.reduceMul]; try refine okTr_and rfl ?_
  refine loop_of (α := Nat) (fun k => [uA x, iA n, .any, .any, .any, ownA 0 (lowBytes k x), iA k, .any, .any, .any, .any, .any, .any, .any, .any, .any, .any, .any, .any, .any, .any, .any, .any, .any, .any, .any]) (fun k => [.row 1 k]) (fun k => k ≤ n) (fun k => n - k) 0 (by simp) ((Wk.row 5 1 rfl (.inl rfl) (Nat.le_refl _)).trans (Wk.to (by simp) (by simp [leT, ints, lowBytes]))) ?_
  intro k hk
  have hs := lowBytes_snoc k x
  have hl := lowBytes_len k x
  by_cases hlt : k < n
  · have q1 : decide ((k : Int) < (n : Int)) = true := by simp; omega
    have q2 : decide ((k : Int) < 8) = true := by simp; omega
    have ei := i64_succ k (by omega)
    have em : IntKind.i64.wrap (8 * (k : Int)) = 8 * k := IntWalk.i64_in _ (by omega)
    have eu : IntKind.u64.wrap (8 * (k : Int)) = 8 * k := IntWalk.u64_in _ (by omega)
    have es : x.fdiv (2 ^ min (8 * (k : Int)).toNat 64) = x / 256 ^ k := by
      have : min (8 * (k : Int)).toNat 64 = 8 * k := by omega
      rw [this, Int.fdiv_eq_ediv_of_nonneg _ (Int.le_of_lt (Int.pow_pos (by omega))), Int.pow_mul]; rfl
    have e8 : IntKind.u8.wrap (x / 256 ^ k) = x / 256 ^ k % 256 := IntKind.wrap_u8 _
    (simp only [go_sem, Nat.reduceAdd, Nat.reduceMul, Int.reduceToNat, Nat.reduceLeDiff, Int.reduceLE, Int.reduceLT, ↓reduceIte, Int.reduceBEq, Int.reduceBNe, Int.reduceAdd, Int.reduceSub, Int.reduceMul, q1, q2, em, eu, es, e8, ei, ints_snoc, ← hs, ints_length, hl]; try refine okTr_and rfl ?_)
    (repeat ((with_reducible refine And.intro ?_ ?_); (· exact sd)))
    exact ⟨k + 1, hlt, by omega, Wk.to (by simp) (by simp [leT])⟩
  · have q1 : decide ((k : Int) < (n : Int)) = false := by simp; omega
    have ek : k = n := by omega
    (simp only [go_sem, Nat.reduceAdd, Nat.reduceMul, Int.reduceToNat, Nat.reduceLeDiff, Int.reduceLE, Int.reduceLT, ↓reduceIte, Int.reduceBEq, Int.reduceBNe, Int.reduceAdd, Int.reduceSub, Int.reduceMul, q1]; try refine okTr_and rfl ?_)
    (refine FinK.untag 4 rfl ?_; simp only [untag1_sl, List.set_cons_zero, List.set_cons_succ])
    ((refine FinK.finB r84 [] ?_ ?_); (· first | with_reducible rfl | (simp [ek]; done) | rfl); (· simp [resAL, resA1, loadA, oneOr, ek]))
theorem ref03_Fixed (x : Int) (n : Nat) (h0 : 0 ≤ x) (h1 : x < 18446744073709551616) (hn : n ≤ 8) : Ct Tryz.prog 84 [uA x, iA n] [] (fun _ => slA .u8 (lowBytes n x)) [] (fun _ => []) := (ref03_Fixed0 x n h0 h1 hn).toCt cl cl

theorem frame_bound0 (m : Int) : Does Tryz.prog 117 [iA m] [] (iA (mfr m)) [] := by
  have e := mn m 2097152
  refine Does.runA Tryz.func117 b117 n117 Tryz.ntmps117 ?_; simp only [c117, go_sem, Nat.reduceAdd, Nat.reduceMul, Int.reduceToNat, Nat.reduceLeDiff, Int.reduceLE, Int.reduceLT, ↓reduceIte, Int.reduceBEq, Int.reduceBNe, Int.reduceAdd, Int.reduceSub, Int.reduceMul, e]; try refine okTr_and rfl ?_
  ((refine FinK.finB r117 [] ?_ ?_); (· first | with_reducible rfl | (simp [mfr]; done) | rfl); (· simp [resAL, resA1, loadA, oneOr, mfr]))
theorem frame_bound (m : Int) : Ct Tryz.prog 117 [iA m] [] (fun _ => iA (mfr m)) [] (fun _ => []) := (frame_bound0 m).toCt cl cl
/-- A writer behind a frame. -/
def WS.frame (s : WS) (p : List Int) : WS := if 2097152 < (p.length : Int) then s.fail 2 else ((s.put (vb p.length)).put p).put (lowBytes 4 (crcI p))
theorem WS.fine.frame {s : WS} (h : s.fine) (p : List Int) : (s.frame p).fine := by
  unfold WS.frame
  split
  · exact h.fail 2
  · exact ((h.put _).put _).put _
theorem frame_checked0 (s : RS) (b : List Int) (x a : Int) (hb : Bys b) (hn : b.length ≤ 140737488355328) : Does Tryz.prog 118 [slA .u8 b, uA x, .fn 38 [.ref 0 0] [], iA a] [rdr s] (.tup []) [rdr (if x = crcI b then s else s.fail 6 a)] := by
  have e := sum_u64 hb
  refine Does.runA Tryz.func118 b118 n118 Tryz.ntmps118 ?_; simp only [c118, go_sem, Nat.reduceAdd, Nat.reduceMul, Int.reduceToNat, Nat.reduceLeDiff, Int.reduceLE, Int.reduceLT, ↓reduceIte, Int.reduceBEq, Int.reduceBNe, Int.reduceAdd, Int.reduceSub, Int.reduceMul]; try refine okTr_and rfl ?_
  refine CallK.p (crc_Sum b hb hn) ?_; (simp only [go_sem, Nat.reduceAdd, Nat.reduceMul, Int.reduceToNat, Nat.reduceLeDiff, Int.reduceLE, Int.reduceLT, ↓reduceIte, Int.reduceBEq, Int.reduceBNe, Int.reduceAdd, Int.reduceSub, Int.reduceMul, e]; try refine okTr_and rfl ?_)
  by_cases h : x = crcI b
  · have q : (crcI b != x) = false := by simp [h]
    (simp only [go_sem, Nat.reduceAdd, Nat.reduceMul, Int.reduceToNat, Nat.reduceLeDiff, Int.reduceLE, Int.reduceLT, ↓reduceIte, Int.reduceBEq, Int.reduceBNe, Int.reduceAdd, Int.reduceSub, Int.reduceMul, q]; try refine okTr_and rfl ?_)
    ((refine FinK.finB r118 [0] ?_ ?_); (· first | with_reducible rfl | (simp [h]; done) | rfl); (· simp [resAL, resA1, loadA, oneOr, h]))
  · have q : (crcI b != x) = true := by simp; exact fun h' => h h'.symm
    (simp only [go_sem, Nat.reduceAdd, Nat.reduceMul, Int.reduceToNat, Nat.reduceLeDiff, Int.reduceLE, Int.reduceLT, ↓reduceIte, Int.reduceBEq, Int.reduceBNe, Int.reduceAdd, Int.reduceSub, Int.reduceMul, q]; try refine okTr_and rfl ?_)
    refine CallK.u1 (Reader_Fail s 6 a 0) rfl ?_; (simp only [go_sem, Nat.reduceAdd, Nat.reduceMul, Int.reduceToNat, Nat.reduceLeDiff, Int.reduceLE, Int.reduceLT, ↓reduceIte, Int.reduceBEq, Int.reduceBNe, Int.reduceAdd, Int.reduceSub, Int.reduceMul]; try refine okTr_and rfl ?_)
    ((refine FinK.finB r118 [0] ?_ ?_); (· first | with_reducible rfl | (simp [h]; done) | rfl); (· simp [resAL, resA1, loadA, oneOr, h]))
theorem frame_checked (s : RS) (b : List Int) (x a : Int) (i : Nat) (hb : Bys b) (hn : b.length ≤ 140737488355328) : Ct Tryz.prog 118 [slA .u8 b, uA x, .fn 38 [.ref i 0] [], iA a] [(i, rdr s)] (fun _ => .tup []) [(i, rdr (if x = crcI b then s else s.fail 6 a))] (fun _ => []) :=
  Ct.u1 (frame_checked0 s b x a hb hn) i cl (fun ρ => rdr_ren ρ _) (fun ρ => rdr_ren ρ _) (rdr_dead s) clo
theorem frame_Read0 (s : RS) (m : Int) (hs : ROk s) (m1 : m < 9223372036854775808) : Does Tryz.prog 52 [.ref 0 0, iA m] [rdr s] (slA .u8 (s.frame m).2) [rdr ((s.frame m).1)] := by
  obtain ⟨a1, a2⟩ := RS.ok.blob hs (mfr m)
  have hsh := blob_short hs (mfr m)
  have hlen := hs.len
  refine Does.runA Tryz.func52 b52 n52 Tryz.ntmps52 ?_; simp only [c52, go_sem, Nat.reduceAdd, Nat.reduceMul, Int.reduceToNat, Nat.reduceLeDiff, Int.reduceLE, Int.reduceLT, ↓reduceIte, Int.reduceBEq, Int.reduceBNe, Int.reduceAdd, Int.reduceSub, Int.reduceMul]; try refine okTr_and rfl ?_
  refine CallK.p (frame_bound m) ?_; (simp only [go_sem, Nat.reduceAdd, Nat.reduceMul, Int.reduceToNat, Nat.reduceLeDiff, Int.reduceLE, Int.reduceLT, ↓reduceIte, Int.reduceBEq, Int.reduceBNe, Int.reduceAdd, Int.reduceSub, Int.reduceMul]; try refine okTr_and rfl ?_)
  refine CallK.u1 (blob_Read s (mfr m) _ (by unfold mfr; omega) hs) rfl ?_; (simp only [go_sem, Nat.reduceAdd, Nat.reduceMul, Int.reduceToNat, Nat.reduceLeDiff, Int.reduceLE, Int.reduceLT, ↓reduceIte, Int.reduceBEq, Int.reduceBNe, Int.reduceAdd, Int.reduceSub, Int.reduceMul]; try refine okTr_and rfl ?_)
  generalize hB : s.blob (mfr m) = B at *
  obtain ⟨t, p⟩ := B
  simp only at a1 a2 hsh
  have e : s.frame m = if (t.fixed 4).1.code = 0 then (if (t.fixed 4).2 = crcI p then ((t.fixed 4).1, p) else ((t.fixed 4).1.fail 6 t.at_, [])) else ((t.fixed 4).1, []) := by
    unfold RS.frame; rw [hB]
  refine CallK.r1 (Reader_At t _) rfl ?_; (simp only [go_sem, Nat.reduceAdd, Nat.reduceMul, Int.reduceToNat, Nat.reduceLeDiff, Int.reduceLE, Int.reduceLT, ↓reduceIte, Int.reduceBEq, Int.reduceBNe, Int.reduceAdd, Int.reduceSub, Int.reduceMul]; try refine okTr_and rfl ?_)
  refine CallK.u1 (blob_ReadFixed t 4 _ a1) rfl ?_; (simp only [go_sem, Nat.reduceAdd, Nat.reduceMul, Int.reduceToNat, Nat.reduceLeDiff, Int.reduceLE, Int.reduceLT, ↓reduceIte, Int.reduceBEq, Int.reduceBNe, Int.reduceAdd, Int.reduceSub, Int.reduceMul]; try refine okTr_and rfl ?_)
  refine CallK.u1 (frame_checked (t.fixed 4).1 p (t.fixed 4).2 t.at_ _ hsh.2 (by omega)) rfl ?_; (simp only [go_sem, Nat.reduceAdd, Nat.reduceMul, Int.reduceToNat, Nat.reduceLeDiff, Int.reduceLE, Int.reduceLT, ↓reduceIte, Int.reduceBEq, Int.reduceBNe, Int.reduceAdd, Int.reduceSub, Int.reduceMul]; try refine okTr_and rfl ?_)
  by_cases hc : (t.fixed 4).1.code = 0
  · rw [if_pos hc] at e
    by_cases hx : (t.fixed 4).2 = crcI p
    · rw [if_pos hx] at e
      rw [if_pos hx]
      refine CallK.r1 (Reader_Good (t.fixed 4).1 _) rfl ?_; (simp only [go_sem, Nat.reduceAdd, Nat.reduceMul, Int.reduceToNat, Nat.reduceLeDiff, Int.reduceLE, Int.reduceLT, ↓reduceIte, Int.reduceBEq, Int.reduceBNe, Int.reduceAdd, Int.reduceSub, Int.reduceMul, good_true hc]; try refine okTr_and rfl ?_)
      ((refine FinK.finB r52 [0] ?_ ?_); (· first | with_reducible rfl | (simp [e]; done) | rfl); (· simp [resAL, resA1, loadA, oneOr, e]))
    · rw [if_neg hx] at e
      rw [if_neg hx]
      have hb : ¬ ((t.fixed 4).1.fail 6 t.at_).code = 0 := fail_not0 _ _ hc (by decide)
      refine CallK.r1 (Reader_Good ((t.fixed 4).1.fail 6 t.at_) _) rfl ?_; (simp only [go_sem, Nat.reduceAdd, Nat.reduceMul, Int.reduceToNat, Nat.reduceLeDiff, Int.reduceLE, Int.reduceLT, ↓reduceIte, Int.reduceBEq, Int.reduceBNe, Int.reduceAdd, Int.reduceSub, Int.reduceMul, good_false hb]; try refine okTr_and rfl ?_)
      (refine FinK.untag 4 rfl ?_; simp only [untag1_sl, List.set_cons_zero, List.set_cons_succ])
      ((refine FinK.finB r52 [0] ?_ ?_); (· first | with_reducible rfl | (simp [e]; done) | rfl); (· simp [resAL, resA1, loadA, oneOr, e]))
  · rw [if_neg hc] at e
    have hk : ((if (t.fixed 4).2 = crcI p then (t.fixed 4).1 else (t.fixed 4).1.fail 6 t.at_)) = (t.fixed 4).1 := by
      split
      · rfl
      · unfold RS.fail; rw [if_neg hc]
    rw [hk]
    refine CallK.r1 (Reader_Good (t.fixed 4).1 _) rfl ?_; (simp only [go_sem, Nat.reduceAdd, Nat.reduceMul, Int.reduceToNat, Nat.reduceLeDiff, Int.reduceLE, Int.reduceLT, ↓reduceIte, Int.reduceBEq, Int.reduceBNe, Int.reduceAdd, Int.reduceSub, Int.reduceMul, good_false hc]; try refine okTr_and rfl ?_)
    (refine FinK.untag 4 rfl ?_; simp only [untag1_sl, List.set_cons_zero, List.set_cons_succ])
    ((refine FinK.finB r52 [0] ?_ ?_); (· first | with_reducible rfl | (simp [e]; done) | rfl); (· simp [resAL, resA1, loadA, oneOr, e]))
theorem frame_Read (s : RS) (m : Int) (i : Nat) (hs : ROk s) (m1 : m < 9223372036854775808) : Ct Tryz.prog 52 [.ref i 0, iA m] [(i, rdr s)] (fun _ => slA .u8 (s.frame m).2) [(i, rdr ((s.frame m).1))] (fun _ => []) := Ct.u1 (frame_Read0 s m hs m1) i cl (fun ρ => rdr_ren ρ _) (fun ρ => rdr_ren ρ _) (rdr_dead _) cl
end Go.Proofs.YtnfagphepkeedaaGreat
end
section
namespace Go.Proofs.YtnfagphepkeedaaGreat
open Go.RowKit

abbrev hdA (h : Hd) : AV := .agg [iA h.ver, uA h.ep, uA h.base]
abbrev tholS : ByteArray := ⟨#[84, 72, 79, 76]⟩
theorem thol_bys : Bys thol := by unfold Bys thol; decide
theorem text_is {l : List Int} (hl : Bys l) : ((bytesOf (ints .u8 l)).toList == tholS.toList) = sameB l thol := bytes_same hl thol_bys
theorem thol_text : (tholS.data.toList.map fun b => AV.lit (.int .u8 b.toNat)) = ints .u8 thol := rfl
theorem vb9 {x : Int} (h : x < 4611686018427387904) : (vb x).length ≤ 9 := by
  have h1 := vb_mono (x := x) (y := 4611686018427387903) (by omega)
  have h2 : (vb 4611686018427387903).length = 9 := by kernel_rfl
  omega
theorem hMost0 : Does Tryz.prog 101 [] [] (iA 27) [] := by
  have h2 : ((vb 4611686018427387903).length : Int) = 9 := by have : (vb 4611686018427387903).length = 9 := by kernel_rfl
                                                              omega
  have e1 : IntKind.i64.wrap 18 = 18 := by decide
  have e2 : IntKind.i64.wrap 23 = 23 := by decide
  have e3 : IntKind.i64.wrap 27 = 27 := by decide
  refine Does.runA Tryz.func101 b101 n101 Tryz.ntmps101 ?_; simp only [c101, go_sem, Nat.reduceAdd, Nat.reduceMul, Int.reduceToNat, Nat.reduceLeDiff, Int.reduceLE, Int.reduceLT, ↓reduceIte, Int.reduceBEq, Int.reduceBNe, Int.reduceAdd, Int.reduceSub, Int.reduceMul]; try refine okTr_and rfl ?_
  refine CallK.p (varint_Size 4611686018427387903 (by omega) (by omega)) ?_; (simp only [go_sem, Nat.reduceAdd, Nat.reduceMul, Int.reduceToNat, Nat.reduceLeDiff, Int.reduceLE, Int.reduceLT, ↓reduceIte, Int.reduceBEq, Int.reduceBNe, Int.reduceAdd, Int.reduceSub, Int.reduceMul, h2, e1, e2, e3]; try refine okTr_and rfl ?_)
  (repeat ((with_reducible refine And.intro ?_ ?_); (· exact sd)))
  exact FinK.finA r101 []
theorem hMost : Ct Tryz.prog 101 [] [] (fun _ => iA 27) [] (fun _ => []) := (hMost0).toCt cl cl
theorem header_based0 (v : Int) : Does Tryz.prog 156 [iA v] [] (bA (v == 1)) [] := by
  refine Does.runA Tryz.func156 b156 n156 Tryz.ntmps156 ?_; simp only [c156, go_sem, Nat.reduceAdd, Nat.reduceMul, Int.reduceToNat, Nat.reduceLeDiff, Int.reduceLE, Int.reduceLT, ↓reduceIte, Int.reduceBEq, Int.reduceBNe, Int.reduceAdd, Int.reduceSub, Int.reduceMul]; try refine okTr_and rfl ?_
  exact FinK.finA r156 []
theorem header_based (v : Int) : Ct Tryz.prog 156 [iA v] [] (fun _ => bA (v == 1)) [] (fun _ => []) := (header_based0 v).toCt cl cl
theorem header_Right0 (h : Hd) : Does Tryz.prog 151 [hdA h] [] (bA (rightH h)) [] := by
  refine Does.runA Tryz.func151 b151 n151 Tryz.ntmps151 ?_; simp only [c151, go_sem, Nat.reduceAdd, Nat.reduceMul, Int.reduceToNat, Nat.reduceLeDiff, Int.reduceLE, Int.reduceLT, ↓reduceIte, Int.reduceBEq, Int.reduceBNe, Int.reduceAdd, Int.reduceSub, Int.reduceMul]; try refine okTr_and rfl ?_
  by_cases h1 : 1 ≤ h.ver
  · have q1 : decide (1 ≤ h.ver) = true := decide_eq_true h1
    by_cases h2 : h.ver ≤ 3
    · have q2 : decide (h.ver ≤ 3) = true := decide_eq_true h2
      have q12 : decide (1 ≤ h.ver ∧ h.ver ≤ 3) = true := decide_eq_true ⟨h1, h2⟩
      (simp only [go_sem, Nat.reduceAdd, Nat.reduceMul, Int.reduceToNat, Nat.reduceLeDiff, Int.reduceLE, Int.reduceLT, ↓reduceIte, Int.reduceBEq, Int.reduceBNe, Int.reduceAdd, Int.reduceSub, Int.reduceMul, q1, q2]; try refine okTr_and rfl ?_)
      refine CallK.p (epoch_Right h.ep) ?_
      cases q3 : epRight h.ep
      · have e : rightH h = false := by unfold rightH; rw [q12, q3]; rfl
        (simp only [go_sem, Nat.reduceAdd, Nat.reduceMul, Int.reduceToNat, Nat.reduceLeDiff, Int.reduceLE, Int.reduceLT, ↓reduceIte, Int.reduceBEq, Int.reduceBNe, Int.reduceAdd, Int.reduceSub, Int.reduceMul, q3]; try refine okTr_and rfl ?_)
        ((refine FinK.finB r151 [] ?_ ?_); (· first | with_reducible rfl | (simp [e]; done) | rfl); (· simp [resAL, resA1, loadA, oneOr, e]))
      · (simp only [go_sem, Nat.reduceAdd, Nat.reduceMul, Int.reduceToNat, Nat.reduceLeDiff, Int.reduceLE, Int.reduceLT, ↓reduceIte, Int.reduceBEq, Int.reduceBNe, Int.reduceAdd, Int.reduceSub, Int.reduceMul, q3]; try refine okTr_and rfl ?_)
        refine CallK.p (epoch_Pos h.base) ?_
        cases q4 : epPos h.base
        · have e : rightH h = false := by unfold rightH; rw [q12, q3, q4]; rfl
          (simp only [go_sem, Nat.reduceAdd, Nat.reduceMul, Int.reduceToNat, Nat.reduceLeDiff, Int.reduceLE, Int.reduceLT, ↓reduceIte, Int.reduceBEq, Int.reduceBNe, Int.reduceAdd, Int.reduceSub, Int.reduceMul, q4]; try refine okTr_and rfl ?_)
          ((refine FinK.finB r151 [] ?_ ?_); (· first | with_reducible rfl | (simp [e]; done) | rfl); (· simp [resAL, resA1, loadA, oneOr, e]))
        · (simp only [go_sem, Nat.reduceAdd, Nat.reduceMul, Int.reduceToNat, Nat.reduceLeDiff, Int.reduceLE, Int.reduceLT, ↓reduceIte, Int.reduceBEq, Int.reduceBNe, Int.reduceAdd, Int.reduceSub, Int.reduceMul, q4]; try refine okTr_and rfl ?_)
          refine CallK.p (header_based h.ver) ?_
          by_cases h5 : h.ver = 1
          · have q5 : (h.ver == 1) = true := by simpa using h5
            have e : rightH h = true := by unfold rightH; rw [q12, q3, q4, decide_eq_true h5]; rfl
            (simp only [go_sem, Nat.reduceAdd, Nat.reduceMul, Int.reduceToNat, Nat.reduceLeDiff, Int.reduceLE, Int.reduceLT, ↓reduceIte, Int.reduceBEq, Int.reduceBNe, Int.reduceAdd, Int.reduceSub, Int.reduceMul, q5]; try refine okTr_and rfl ?_)
            ((refine FinK.finB r151 [] ?_ ?_); (· first | with_reducible rfl | (simp [e]; done) | rfl); (· simp [resAL, resA1, loadA, oneOr, e]))
          · have q5 : (h.ver == 1) = false := by simpa using h5
            have e : (h.base == 0) = rightH h := by
              unfold rightH; rw [q12, q3, q4, decide_eq_false h5, Bool.eq_iff_iff]; simp
            (simp only [go_sem, Nat.reduceAdd, Nat.reduceMul, Int.reduceToNat, Nat.reduceLeDiff, Int.reduceLE, Int.reduceLT, ↓reduceIte, Int.reduceBEq, Int.reduceBNe, Int.reduceAdd, Int.reduceSub, Int.reduceMul, q5, e]; try refine okTr_and rfl ?_)
            exact FinK.finA r151 []
    · have q2 : decide (h.ver ≤ 3) = false := decide_eq_false h2
      have e : rightH h = false := by unfold rightH; rw [decide_eq_false (by omega)]; rfl
      (simp only [go_sem, Nat.reduceAdd, Nat.reduceMul, Int.reduceToNat, Nat.reduceLeDiff, Int.reduceLE, Int.reduceLT, ↓reduceIte, Int.reduceBEq, Int.reduceBNe, Int.reduceAdd, Int.reduceSub, Int.reduceMul, q1, q2]; try refine okTr_and rfl ?_)
      ((refine FinK.finB r151 [] ?_ ?_); (· first | with_reducible rfl | (simp [e]; done) | rfl); (· simp [resAL, resA1, loadA, oneOr, e]))
  · have q1 : decide (1 ≤ h.ver) = false := decide_eq_false h1
    have e : rightH h = false := by unfold rightH; rw [decide_eq_false (by omega)]; rfl
    (simp only [go_sem, Nat.reduceAdd, Nat.reduceMul, Int.reduceToNat, Nat.reduceLeDiff, Int.reduceLE, Int.reduceLT, ↓reduceIte, Int.reduceBEq, Int.reduceBNe, Int.reduceAdd, Int.reduceSub, Int.reduceMul, q1]; try refine okTr_and rfl ?_)
    ((refine FinK.finB r151 [] ?_ ?_); (· first | with_reducible rfl | (simp [e]; done) | rfl); (· simp [resAL, resA1, loadA, oneOr, e]))
theorem header_Right (h : Hd) : Ct Tryz.prog 151 [hdA h] [] (fun _ => bA (rightH h)) [] (fun _ => []) := (header_Right0 h).toCt cl cl
theorem Writer_Thol0 (s : WS) (hs : s.fine) : Does Tryz.prog 178 [.ref 0 0, .lit (.string tholS)] [wob 1 s, wrow s] (.tup []) [wob 1 (s.put thol), wrow (s.put thol)] := by
  refine Does.runA Tryz.func178 b178 n178 Tryz.ntmps178 ?_; simp only [c178, go_sem, Nat.reduceAdd, Nat.reduceMul, Int.reduceToNat, Nat.reduceLeDiff, Int.reduceLE, Int.reduceLT, ↓reduceIte, Int.reduceBEq, Int.reduceBNe, Int.reduceAdd, Int.reduceSub, Int.reduceMul, thol_text]; try refine okTr_and rfl ?_
  (repeat ((with_reducible refine And.intro ?_ ?_); (· exact sd)))
  refine CallK.u2 (Writer_Put s thol 0 1 (by decide) hs.ok (hs.room _)) rfl rfl ?_; (simp only [go_sem, Nat.reduceAdd, Nat.reduceMul, Int.reduceToNat, Nat.reduceLeDiff, Int.reduceLE, Int.reduceLT, ↓reduceIte, Int.reduceBEq, Int.reduceBNe, Int.reduceAdd, Int.reduceSub, Int.reduceMul]; try refine okTr_and rfl ?_)
  exact FinK.finA r178 [0, 1]
theorem Writer_Thol (s : WS) (i j : Nat) (h : i ≠ j) (hs : s.fine) : Ct Tryz.prog 178 [.ref i 0, .lit (.string tholS)] [(i, wob j s), (j, wrow s)] (fun _ => .tup []) [(i, wob j (s.put thol)), (j, wrow (s.put thol))] (fun _ => []) := Ct.u2 (Writer_Thol0 s hs) i j h cl cl cl cl cl (wob_dead _ _) (wrow_dead _) clo
def WS.epput (s : WS) (x : Int) (b : Bool) : WS := if b = true then s.put (vb x) else s.fail 3
theorem epoch_put0 (s : WS) (x : Int) (b : Bool) (h0 : 0 ≤ x) (h1 : x < 18446744073709551616) (hs : s.fine) : Does Tryz.prog 169 [.ref 0 0, uA x, bA b] [wob 1 s, wrow s] (.tup []) [wob 1 (s.epput x b), wrow (s.epput x b)] := by
  refine Does.runA Tryz.func169 b169 n169 Tryz.ntmps169 ?_; simp only [c169, go_sem, Nat.reduceAdd, Nat.reduceMul, Int.reduceToNat, Nat.reduceLeDiff, Int.reduceLE, Int.reduceLT, ↓reduceIte, Int.reduceBEq, Int.reduceBNe, Int.reduceAdd, Int.reduceSub, Int.reduceMul]; try refine okTr_and rfl ?_
  cases b
  · (simp only [go_sem, Nat.reduceAdd, Nat.reduceMul, Int.reduceToNat, Nat.reduceLeDiff, Int.reduceLE, Int.reduceLT, ↓reduceIte, Int.reduceBEq, Int.reduceBNe, Int.reduceAdd, Int.reduceSub, Int.reduceMul]; try refine okTr_and rfl ?_)
    refine CallK.u2 (Writer_Fail s 3 0 1 (by decide)) rfl rfl ?_; (simp only [go_sem, Nat.reduceAdd, Nat.reduceMul, Int.reduceToNat, Nat.reduceLeDiff, Int.reduceLE, Int.reduceLT, ↓reduceIte, Int.reduceBEq, Int.reduceBNe, Int.reduceAdd, Int.reduceSub, Int.reduceMul]; try refine okTr_and rfl ?_)
    ((refine FinK.finB r169 [0, 1] ?_ ?_); (· first | with_reducible rfl | (simp [WS.epput]; done) | rfl); (· simp [resAL, resA1, loadA, oneOr, WS.epput]))
  · (simp only [go_sem, Nat.reduceAdd, Nat.reduceMul, Int.reduceToNat, Nat.reduceLeDiff, Int.reduceLE, Int.reduceLT, ↓reduceIte, Int.reduceBEq, Int.reduceBNe, Int.reduceAdd, Int.reduceSub, Int.reduceMul]; try refine okTr_and rfl ?_)
    refine CallK.u2 (varint_Put s x 0 1 (by decide) h0 h1 hs.ok (hs.room _)) rfl rfl ?_; (simp only [go_sem, Nat.reduceAdd, Nat.reduceMul, Int.reduceToNat, Nat.reduceLeDiff, Int.reduceLE, Int.reduceLT, ↓reduceIte, Int.reduceBEq, Int.reduceBNe, Int.reduceAdd, Int.reduceSub, Int.reduceMul]; try refine okTr_and rfl ?_)
    ((refine FinK.finB r169 [0, 1] ?_ ?_); (· first | with_reducible rfl | (simp [WS.epput]; done) | rfl); (· simp [resAL, resA1, loadA, oneOr, WS.epput]))
theorem epoch_put (s : WS) (x : Int) (b : Bool) (i j : Nat) (h : i ≠ j) (h0 : 0 ≤ x) (h1 : x < 18446744073709551616) (hs : s.fine) : Ct Tryz.prog 169 [.ref i 0, uA x, bA b] [(i, wob j s), (j, wrow s)] (fun _ => .tup []) [(i, wob j (s.epput x b)), (j, wrow (s.epput x b))] (fun _ => []) := Ct.u2 (epoch_put0 s x b h0 h1 hs) i j h cl cl cl cl cl (wob_dead _ _) (wrow_dead _) clo
theorem epoch_Put0 (s : WS) (x : Int) (h0 : 0 ≤ x) (h1 : x < 18446744073709551616) (hs : s.fine) : Does Tryz.prog 136 [.ref 0 0, uA x] [wob 1 s, wrow s] (.tup []) [wob 1 (s.epput x (epRight x)), wrow (s.epput x (epRight x))] := by
  refine Does.runA Tryz.func136 b136 n136 Tryz.ntmps136 ?_; simp only [c136, go_sem, Nat.reduceAdd, Nat.reduceMul, Int.reduceToNat, Nat.reduceLeDiff, Int.reduceLE, Int.reduceLT, ↓reduceIte, Int.reduceBEq, Int.reduceBNe, Int.reduceAdd, Int.reduceSub, Int.reduceMul]; try refine okTr_and rfl ?_
  refine CallK.p (epoch_Right x) ?_; (simp only [go_sem, Nat.reduceAdd, Nat.reduceMul, Int.reduceToNat, Nat.reduceLeDiff, Int.reduceLE, Int.reduceLT, ↓reduceIte, Int.reduceBEq, Int.reduceBNe, Int.reduceAdd, Int.reduceSub, Int.reduceMul]; try refine okTr_and rfl ?_)
  refine CallK.u2 (epoch_put s x (epRight x) 0 1 (by decide) h0 h1 hs) rfl rfl ?_; (simp only [go_sem, Nat.reduceAdd, Nat.reduceMul, Int.reduceToNat, Nat.reduceLeDiff, Int.reduceLE, Int.reduceLT, ↓reduceIte, Int.reduceBEq, Int.reduceBNe, Int.reduceAdd, Int.reduceSub, Int.reduceMul]; try refine okTr_and rfl ?_)
  exact FinK.finA r136 [0, 1]
theorem epoch_Put (s : WS) (x : Int) (i j : Nat) (h : i ≠ j) (h0 : 0 ≤ x) (h1 : x < 18446744073709551616) (hs : s.fine) : Ct Tryz.prog 136 [.ref i 0, uA x] [(i, wob j s), (j, wrow s)] (fun _ => .tup []) [(i, wob j (s.epput x (epRight x))), (j, wrow (s.epput x (epRight x)))] (fun _ => []) := Ct.u2 (epoch_Put0 s x h0 h1 hs) i j h cl cl cl cl cl (wob_dead _ _) (wrow_dead _) clo
theorem epoch_PutPos0 (s : WS) (x : Int) (h0 : 0 ≤ x) (h1 : x < 18446744073709551616) (hs : s.fine) : Does Tryz.prog 137 [.ref 0 0, uA x] [wob 1 s, wrow s] (.tup []) [wob 1 (s.epput x (epPos x)), wrow (s.epput x (epPos x))] := by
  refine Does.runA Tryz.func137 b137 n137 Tryz.ntmps137 ?_; simp only [c137, go_sem, Nat.reduceAdd, Nat.reduceMul, Int.reduceToNat, Nat.reduceLeDiff, Int.reduceLE, Int.reduceLT, ↓reduceIte, Int.reduceBEq, Int.reduceBNe, Int.reduceAdd, Int.reduceSub, Int.reduceMul]; try refine okTr_and rfl ?_
  refine CallK.p (epoch_Pos x) ?_; (simp only [go_sem, Nat.reduceAdd, Nat.reduceMul, Int.reduceToNat, Nat.reduceLeDiff, Int.reduceLE, Int.reduceLT, ↓reduceIte, Int.reduceBEq, Int.reduceBNe, Int.reduceAdd, Int.reduceSub, Int.reduceMul]; try refine okTr_and rfl ?_)
  refine CallK.u2 (epoch_put s x (epPos x) 0 1 (by decide) h0 h1 hs) rfl rfl ?_; (simp only [go_sem, Nat.reduceAdd, Nat.reduceMul, Int.reduceToNat, Nat.reduceLeDiff, Int.reduceLE, Int.reduceLT, ↓reduceIte, Int.reduceBEq, Int.reduceBNe, Int.reduceAdd, Int.reduceSub, Int.reduceMul]; try refine okTr_and rfl ?_)
  exact FinK.finA r137 [0, 1]
theorem epoch_PutPos (s : WS) (x : Int) (i j : Nat) (h : i ≠ j) (h0 : 0 ≤ x) (h1 : x < 18446744073709551616) (hs : s.fine) : Ct Tryz.prog 137 [.ref i 0, uA x] [(i, wob j s), (j, wrow s)] (fun _ => .tup []) [(i, wob j (s.epput x (epPos x))), (j, wrow (s.epput x (epPos x)))] (fun _ => []) := Ct.u2 (epoch_PutPos0 s x h0 h1 hs) i j h cl cl cl cl cl (wob_dead _ _) (wrow_dead _) clo
theorem headerB_27 {h : Hd} (hr : rightH h = true) : (plainB h).length ≤ 23 ∧ (headerB h).length ≤ 27 := by
  obtain ⟨h1, h2, h3, h4⟩ := rightH_iff.1 hr
  have a := vb9 h2.2
  have b := vb9 h3
  have c := headerB_len h
  have d : (plainB h).length ≤ 23 := by
    unfold plainB
    simp only [List.length_append, thol, List.length_cons, List.length_nil]
    split
    · omega
    · simp only [List.length_nil]; omega
  exact ⟨d, by omega⟩
theorem header_plain0 (h : Hd) (hr : rightH h = true) (hb : 0 ≤ h.base) : Does Tryz.prog 153 [hdA h] [] (slA .u8 (plainB h)) [] := by
  obtain ⟨h1, h2, h3, h4⟩ := rightH_iff.1 hr
  have a := vb9 h2.2
  have b := vb9 h3
  have ew : IntKind.u8.wrap h.ver = h.ver := IntWalk.u8_in _ (by omega)
  have f0 : (WS.new 27).fine := WS.fine.new (by omega)
  have f1 := f0.put thol
  have w1 : (WS.new 27).put thol = ⟨27, thol, 0⟩ := by kernel_rfl
  rw [w1] at f1
  have f2 := f1.put [h.ver]
  have w2 : (WS.mk 27 thol 0).put [h.ver] = ⟨27, thol ++ [h.ver], 0⟩ := put_fit rfl (by simp [thol])
  rw [w2] at f2
  have f3 := f2.put (vb h.ep)
  have w3 : (WS.mk 27 (thol ++ [h.ver]) 0).put (vb h.ep) = ⟨27, thol ++ [h.ver] ++ vb h.ep, 0⟩ := put_fit rfl (by simp [thol]; omega)
  rw [w3] at f3
  have w3' : (WS.mk 27 (thol ++ [h.ver]) 0).epput h.ep (epRight h.ep) = ⟨27, thol ++ [h.ver] ++ vb h.ep, 0⟩ := by unfold WS.epput; rw [if_pos (epRight_iff.2 h2), w3]
  have w4 : (WS.mk 27 (thol ++ [h.ver] ++ vb h.ep) 0).put (vb h.base) = ⟨27, thol ++ [h.ver] ++ vb h.ep ++ vb h.base, 0⟩ := put_fit rfl (by simp [thol]; omega)
  have w4' : (WS.mk 27 (thol ++ [h.ver] ++ vb h.ep) 0).epput h.base (epPos h.base) = ⟨27, thol ++ [h.ver] ++ vb h.ep ++ vb h.base, 0⟩ := by unfold WS.epput; rw [if_pos (epPos_iff.2 h3), w4]
  have e1 : ints .u8 [h.ver] = [u8A h.ver] := rfl
  have hl := (headerB_27 hr).1
  refine Does.runA Tryz.func153 b153 n153 Tryz.ntmps153 ?_; simp only [c153, go_sem, Nat.reduceAdd, Nat.reduceMul, Int.reduceToNat, Nat.reduceLeDiff, Int.reduceLE, Int.reduceLT, ↓reduceIte, Int.reduceBEq, Int.reduceBNe, Int.reduceAdd, Int.reduceSub, Int.reduceMul]; try refine okTr_and rfl ?_
  refine CallK.p (hMost) ?_; (simp only [go_sem, Nat.reduceAdd, Nat.reduceMul, Int.reduceToNat, Nat.reduceLeDiff, Int.reduceLE, Int.reduceLT, ↓reduceIte, Int.reduceBEq, Int.reduceBNe, Int.reduceAdd, Int.reduceSub, Int.reduceMul]; try refine okTr_and rfl ?_)
  refine CallK.n (pen_New 27) ?_; (simp only [go_sem, Nat.reduceAdd, Nat.reduceMul, Int.reduceToNat, Nat.reduceLeDiff, Int.reduceLE, Int.reduceLT, ↓reduceIte, Int.reduceBEq, Int.reduceBNe, Int.reduceAdd, Int.reduceSub, Int.reduceMul]; try refine okTr_and rfl ?_)
  refine CallK.u2 (Writer_Thol (WS.new 27) _ _ (by decide) f0) rfl rfl ?_; (simp only [go_sem, Nat.reduceAdd, Nat.reduceMul, Int.reduceToNat, Nat.reduceLeDiff, Int.reduceLE, Int.reduceLT, ↓reduceIte, Int.reduceBEq, Int.reduceBNe, Int.reduceAdd, Int.reduceSub, Int.reduceMul, w1, ew]; try refine okTr_and rfl ?_)
  (repeat ((with_reducible refine And.intro ?_ ?_); (· exact sd)))
  refine CallK.u2 (Writer_Put (WS.mk 27 thol 0) [h.ver] _ _ (by decide) f1.ok (f1.room _)) rfl rfl ?_; (simp only [go_sem, Nat.reduceAdd, Nat.reduceMul, Int.reduceToNat, Nat.reduceLeDiff, Int.reduceLE, Int.reduceLT, ↓reduceIte, Int.reduceBEq, Int.reduceBNe, Int.reduceAdd, Int.reduceSub, Int.reduceMul, w2]; try refine okTr_and rfl ?_)
  refine CallK.u2 (epoch_Put (WS.mk 27 (thol ++ [h.ver]) 0) h.ep _ _ (by decide) (by omega) (by omega) f2) rfl rfl ?_; (simp only [go_sem, Nat.reduceAdd, Nat.reduceMul, Int.reduceToNat, Nat.reduceLeDiff, Int.reduceLE, Int.reduceLT, ↓reduceIte, Int.reduceBEq, Int.reduceBNe, Int.reduceAdd, Int.reduceSub, Int.reduceMul, w3']; try refine okTr_and rfl ?_)
  refine CallK.p (header_based h.ver) ?_
  by_cases hv : h.ver = 1
  · have q5 : (h.ver == 1) = true := by simpa using hv
    have e : plainB h = thol ++ [h.ver] ++ vb h.ep ++ vb h.base := by unfold plainB; rw [if_pos hv]
    have hbs : (WS.mk 27 (plainB h) 0).bytes = plainB h := rfl
    rw [← e] at w4'
    (simp only [go_sem, Nat.reduceAdd, Nat.reduceMul, Int.reduceToNat, Nat.reduceLeDiff, Int.reduceLE, Int.reduceLT, ↓reduceIte, Int.reduceBEq, Int.reduceBNe, Int.reduceAdd, Int.reduceSub, Int.reduceMul, q5]; try refine okTr_and rfl ?_)
    refine CallK.u2 (epoch_PutPos (WS.mk 27 (thol ++ [h.ver] ++ vb h.ep) 0) h.base _ _ (by decide) hb (by omega) f3) rfl rfl ?_; (simp only [go_sem, Nat.reduceAdd, Nat.reduceMul, Int.reduceToNat, Nat.reduceLeDiff, Int.reduceLE, Int.reduceLT, ↓reduceIte, Int.reduceBEq, Int.reduceBNe, Int.reduceAdd, Int.reduceSub, Int.reduceMul, w4']; try refine okTr_and rfl ?_)
    refine CallK.r2 (Writer_Bytes (WS.mk 27 (plainB h) 0) _ _ (by decide) (by show (plainB h).length ≤ _; omega)) rfl rfl ?_; (simp only [go_sem, Nat.reduceAdd, Nat.reduceMul, Int.reduceToNat, Nat.reduceLeDiff, Int.reduceLE, Int.reduceLT, ↓reduceIte, Int.reduceBEq, Int.reduceBNe, Int.reduceAdd, Int.reduceSub, Int.reduceMul, hbs]; try refine okTr_and rfl ?_)
    exact FinK.finA r153 []
  · have q5 : (h.ver == 1) = false := by simpa using hv
    have e : plainB h = thol ++ [h.ver] ++ vb h.ep := by unfold plainB; rw [if_neg hv, List.append_nil]
    have hbs : (WS.mk 27 (plainB h) 0).bytes = plainB h := rfl
    rw [← e]
    (simp only [go_sem, Nat.reduceAdd, Nat.reduceMul, Int.reduceToNat, Nat.reduceLeDiff, Int.reduceLE, Int.reduceLT, ↓reduceIte, Int.reduceBEq, Int.reduceBNe, Int.reduceAdd, Int.reduceSub, Int.reduceMul, q5]; try refine okTr_and rfl ?_)
    refine CallK.r2 (Writer_Bytes (WS.mk 27 (plainB h) 0) _ _ (by decide) (by show (plainB h).length ≤ _; omega)) rfl rfl ?_; (simp only [go_sem, Nat.reduceAdd, Nat.reduceMul, Int.reduceToNat, Nat.reduceLeDiff, Int.reduceLE, Int.reduceLT, ↓reduceIte, Int.reduceBEq, Int.reduceBNe, Int.reduceAdd, Int.reduceSub, Int.reduceMul, hbs]; try refine okTr_and rfl ?_)
    exact FinK.finA r153 []
theorem header_plain (h : Hd) (hr : rightH h = true) (hb : 0 ≤ h.base) : Ct Tryz.prog 153 [hdA h] [] (fun _ => slA .u8 (plainB h)) [] (fun _ => []) := (header_plain0 h hr hb).toCt cl cl
def WS.header (s : WS) (h : Hd) : WS := if rightH h = true then (s.put (plainB h)).put (lowBytes 4 (crcI (plainB h))) else s.fail 3
theorem WS.fine.header {s : WS} (hs : s.fine) (h : Hd) : (s.header h).fine := by
  unfold WS.header; split
  · exact (hs.put _).put _
  · exact hs.fail 3
theorem header_fit {s : WS} {h : Hd} (hr : rightH h = true) (hc : s.code = 0) (hm : (s.l.length : Int) + (headerB h).length ≤ s.most) : s.header h = ⟨s.most, s.l ++ headerB h, 0⟩ := by
  rw [headerB_len] at hm
  have h4 := lowBytes_len 4 (crcI (plainB h))
  unfold WS.header
  rw [if_pos hr, put_fit hc (by omega), put_fit rfl (by simp only [List.length_append]; omega)]
  simp [headerB]
theorem header_Put0 (s : WS) (h : Hd) (hs : s.fine) (hb : 0 ≤ h.base) : Does Tryz.prog 102 [.ref 0 0, hdA h] [wob 1 s, wrow s] (.tup []) [wob 1 (s.header h), wrow (s.header h)] := by
  refine Does.runA Tryz.func102 b102 n102 Tryz.ntmps102 ?_; simp only [c102, go_sem, Nat.reduceAdd, Nat.reduceMul, Int.reduceToNat, Nat.reduceLeDiff, Int.reduceLE, Int.reduceLT, ↓reduceIte, Int.reduceBEq, Int.reduceBNe, Int.reduceAdd, Int.reduceSub, Int.reduceMul]; try refine okTr_and rfl ?_
  refine CallK.p (header_Right h) ?_
  by_cases hr : rightH h = true
  · have hp := plainB_bys hr hb
    have hl := (headerB_27 hr).1
    have hcr := crcI_range hp
    have e := sum_u64 hp
    (simp only [go_sem, Nat.reduceAdd, Nat.reduceMul, Int.reduceToNat, Nat.reduceLeDiff, Int.reduceLE, Int.reduceLT, ↓reduceIte, Int.reduceBEq, Int.reduceBNe, Int.reduceAdd, Int.reduceSub, Int.reduceMul, hr]; try refine okTr_and rfl ?_)
    refine CallK.p (header_plain h hr hb) ?_; (simp only [go_sem, Nat.reduceAdd, Nat.reduceMul, Int.reduceToNat, Nat.reduceLeDiff, Int.reduceLE, Int.reduceLT, ↓reduceIte, Int.reduceBEq, Int.reduceBNe, Int.reduceAdd, Int.reduceSub, Int.reduceMul]; try refine okTr_and rfl ?_)
    refine CallK.u2 (Writer_Put s (plainB h) 0 1 (by decide) hs.ok (hs.room _)) rfl rfl ?_; (simp only [go_sem, Nat.reduceAdd, Nat.reduceMul, Int.reduceToNat, Nat.reduceLeDiff, Int.reduceLE, Int.reduceLT, ↓reduceIte, Int.reduceBEq, Int.reduceBNe, Int.reduceAdd, Int.reduceSub, Int.reduceMul]; try refine okTr_and rfl ?_)
    refine CallK.p (crc_Sum (plainB h) hp (by omega)) ?_; (simp only [go_sem, Nat.reduceAdd, Nat.reduceMul, Int.reduceToNat, Nat.reduceLeDiff, Int.reduceLE, Int.reduceLT, ↓reduceIte, Int.reduceBEq, Int.reduceBNe, Int.reduceAdd, Int.reduceSub, Int.reduceMul, e]; try refine okTr_and rfl ?_)
    refine CallK.u2 (Writer_Fixed (s.put (plainB h)) (crcI (plainB h)) 4 0 1 (by decide) hcr.1 (by omega) (hs.put _)) rfl rfl ?_; (simp only [go_sem, Nat.reduceAdd, Nat.reduceMul, Int.reduceToNat, Nat.reduceLeDiff, Int.reduceLE, Int.reduceLT, ↓reduceIte, Int.reduceBEq, Int.reduceBNe, Int.reduceAdd, Int.reduceSub, Int.reduceMul]; try refine okTr_and rfl ?_)
    ((refine FinK.finB r102 [0, 1] ?_ ?_); (· first | with_reducible rfl | (simp [WS.header, hr, show (min (max (4 : Int) 0) 8).toNat = 4 from rfl]; done) | rfl); (· simp [resAL, resA1, loadA, oneOr, WS.header, hr, show (min (max (4 : Int) 0) 8).toNat = 4 from rfl]))
  · have hr' : rightH h = false := by simpa using hr
    (simp only [go_sem, Nat.reduceAdd, Nat.reduceMul, Int.reduceToNat, Nat.reduceLeDiff, Int.reduceLE, Int.reduceLT, ↓reduceIte, Int.reduceBEq, Int.reduceBNe, Int.reduceAdd, Int.reduceSub, Int.reduceMul, hr']; try refine okTr_and rfl ?_)
    refine CallK.u2 (Writer_Fail s 3 0 1 (by decide)) rfl rfl ?_; (simp only [go_sem, Nat.reduceAdd, Nat.reduceMul, Int.reduceToNat, Nat.reduceLeDiff, Int.reduceLE, Int.reduceLT, ↓reduceIte, Int.reduceBEq, Int.reduceBNe, Int.reduceAdd, Int.reduceSub, Int.reduceMul]; try refine okTr_and rfl ?_)
    ((refine FinK.finB r102 [0, 1] ?_ ?_); (· first | with_reducible rfl | (simp [WS.header, hr']; done) | rfl); (· simp [resAL, resA1, loadA, oneOr, WS.header, hr']))
theorem header_Put (s : WS) (d : Hd) (i j : Nat) (h : i ≠ j) (hs : s.fine) (hb : 0 ≤ d.base) : Ct Tryz.prog 102 [.ref i 0, hdA d] [(i, wob j s), (j, wrow s)] (fun _ => .tup []) [(i, wob j (s.header d)), (j, wrow (s.header d))] (fun _ => []) := Ct.u2 (header_Put0 s d hs hb) i j h cl cl cl cl cl (wob_dead _ _) (wrow_dead _) clo
def bytesH (h : Hd) : List Int := if rightH h = true then headerB h else []
def errH (h : Hd) : Int := if rightH h = true then 0 else 3
theorem new_header (h : Hd) {n : Int} (hn : 27 ≤ n) : (WS.new n).header h = ⟨n, bytesH h, errH h⟩ ∧ ((WS.new n).header h).bytes = bytesH h := by
  by_cases hr : rightH h = true
  · have hl := (headerB_27 hr).2
    have e := header_fit (s := WS.new n) hr rfl (by rw [WS.new_is (by omega)]; simp; omega)
    rw [e, WS.new_is (by omega)]
    unfold bytesH errH
    rw [if_pos hr, if_pos hr]
    exact ⟨by simp, by simp [WS.bytes]⟩
  · unfold WS.header bytesH errH
    rw [if_neg hr, if_neg hr, if_neg hr, WS.new_is (by omega)]
    exact ⟨rfl, rfl⟩
theorem header_Bytes0 (h : Hd) (hb : 0 ≤ h.base) : Does Tryz.prog 27 [hdA h] [] (.tup [slA .u8 (bytesH h), iA (errH h)]) [] := by
  have f0 : (WS.new 27).fine := WS.fine.new (by omega)
  have hff := (f0.header h).len
  obtain ⟨e1, e2⟩ := new_header h (n := 27) (by omega)
  have e3 : ((WS.new 27).header h).code = errH h := by rw [e1]
  refine Does.runA Tryz.func27 b27 n27 Tryz.ntmps27 ?_; simp only [c27, go_sem, Nat.reduceAdd, Nat.reduceMul, Int.reduceToNat, Nat.reduceLeDiff, Int.reduceLE, Int.reduceLT, ↓reduceIte, Int.reduceBEq, Int.reduceBNe, Int.reduceAdd, Int.reduceSub, Int.reduceMul]; try refine okTr_and rfl ?_
  refine CallK.p (hMost) ?_; (simp only [go_sem, Nat.reduceAdd, Nat.reduceMul, Int.reduceToNat, Nat.reduceLeDiff, Int.reduceLE, Int.reduceLT, ↓reduceIte, Int.reduceBEq, Int.reduceBNe, Int.reduceAdd, Int.reduceSub, Int.reduceMul]; try refine okTr_and rfl ?_)
  refine CallK.n (pen_New 27) ?_; (simp only [go_sem, Nat.reduceAdd, Nat.reduceMul, Int.reduceToNat, Nat.reduceLeDiff, Int.reduceLE, Int.reduceLT, ↓reduceIte, Int.reduceBEq, Int.reduceBNe, Int.reduceAdd, Int.reduceSub, Int.reduceMul]; try refine okTr_and rfl ?_)
  refine CallK.u2 (header_Put (WS.new 27) h _ _ (by decide) f0 hb) rfl rfl ?_; (simp only [go_sem, Nat.reduceAdd, Nat.reduceMul, Int.reduceToNat, Nat.reduceLeDiff, Int.reduceLE, Int.reduceLT, ↓reduceIte, Int.reduceBEq, Int.reduceBNe, Int.reduceAdd, Int.reduceSub, Int.reduceMul]; try refine okTr_and rfl ?_)
  refine CallK.r2 (Writer_Bytes ((WS.new 27).header h) _ _ (by decide) hff) rfl rfl ?_; (simp only [go_sem, Nat.reduceAdd, Nat.reduceMul, Int.reduceToNat, Nat.reduceLeDiff, Int.reduceLE, Int.reduceLT, ↓reduceIte, Int.reduceBEq, Int.reduceBNe, Int.reduceAdd, Int.reduceSub, Int.reduceMul, e2, e3]; try refine okTr_and rfl ?_)
  exact FinK.finA r27 []
theorem header_Bytes (h : Hd) (hb : 0 ≤ h.base) : Ct Tryz.prog 27 [hdA h] [] (fun _ => .tup [slA .u8 (bytesH h), iA (errH h)]) [] (fun _ => []) := (header_Bytes0 h hb).toCt cl cl
end Go.Proofs.YtnfagphepkeedaaGreat
end
section
namespace Go.Proofs.YtnfagphepkeedaaGreat
open Go.RowKit

theorem byte_take (s : RS) (h0 : 0 ≤ s.at_) : s.byte = ((s.take 1).1, (s.take 1).2.getD 0 0) := by
  unfold RS.byte RS.take
  split
  · simp [List.getD_eq_getElem?_getD, List.getElem?_take, List.getElem?_drop]
  · rfl
theorem lets_eq (s : RS) : s.lets = if sameB (s.take 4).2 thol = true then (s.take 4).1 else (s.take 4).1.fail 14 s.at_ := by
  unfold RS.lets sameB
  by_cases h : (s.take 4).2 = thol
  · rw [if_neg (by rintro ⟨_, h'⟩; exact h' h), if_pos (by simpa using h)]
  · rw [if_neg (c := decide ((s.take 4).2 = thol) = true) (by simpa using h)]
    by_cases hc : (s.take 4).1.code = 0
    · rw [if_pos ⟨hc, h⟩]
    · rw [if_neg (by rintro ⟨h', _⟩; exact hc h'), fail_bad hc]
set_option maxRecDepth 100000 in
theorem header_begin0 (s : RS) (hs : ROk s) : Does Tryz.prog 155 [.ref 0 0] [rdr s] (iA s.hbegin.2) [rdr (s.hbegin.1)] := by
  obtain ⟨hk, hkl⟩ := lets_keep hs
  have hTb := take_bys hs.bys 4
  have hl := lets_eq s
  have hbt := byte_take s.lets hk.at0
  have hvr := byte_u8 hk.ok hk.bys
  have hv2 : s.hbegin = if (s.lets.take 1).1.code = 0 then (if 1 ≤ (s.lets.take 1).2.getD 0 0 ∧ (s.lets.take 1).2.getD 0 0 ≤ 3 then ((s.lets.take 1).1, (s.lets.take 1).2.getD 0 0) else ((s.lets.take 1).1.fail 8 s.lets.at_, 0)) else ((s.lets.take 1).1, 0) := rfl
  have hv0 : ¬ (s.lets.take 1).1.code = 0 → (s.lets.take 1).2.getD 0 0 = 0 := fun h => by rw [take_bad h]; rfl
  have hat : (s.lets.take 1).1.code = 0 → IntKind.i64.wrap ((s.lets.take 1).1.at_ - 1) = s.lets.at_ := fun h => by
    have h4 := (take_bytes hk h).2.2.2.1
    have h0 := hk.at0
    have h1 := hk.at1
    have h2 := hk.len
    rw [h4, IntWalk.i64_in _ (by omega)]; omega
  rw [hbt] at hvr
  obtain ⟨t, ht⟩ : ∃ t, (s.lets.take 1).1 = t := ⟨_, rfl⟩
  obtain ⟨v, hv⟩ : ∃ v, (s.lets.take 1).2.getD 0 0 = v := ⟨_, rfl⟩
  rw [ht, hv] at hbt
  rw [ht, hv] at hv2
  rw [ht, hv] at hv0
  rw [ht] at hat
  simp only [hv] at hvr
  have ev : IntKind.i64.wrap v = v := IntWalk.i64_in _ (by omega)
  refine Does.runA Tryz.func155 b155 n155 Tryz.ntmps155 ?_; simp only [c155, go_sem, Nat.reduceAdd, Nat.reduceMul, Int.reduceToNat, Nat.reduceLeDiff, Int.reduceLE, Int.reduceLT, ↓reduceIte, Int.reduceBEq, Int.reduceBNe, Int.reduceAdd, Int.reduceSub, Int.reduceMul]; try refine okTr_and rfl ?_
  refine CallK.r1 (Reader_At s 0) rfl ?_; (simp only [go_sem, Nat.reduceAdd, Nat.reduceMul, Int.reduceToNat, Nat.reduceLeDiff, Int.reduceLE, Int.reduceLT, ↓reduceIte, Int.reduceBEq, Int.reduceBNe, Int.reduceAdd, Int.reduceSub, Int.reduceMul]; try refine okTr_and rfl ?_)
  refine CallK.u1 (Reader_Take s 4 0 hs.ok) rfl ?_; (simp only [go_sem, Nat.reduceAdd, Nat.reduceMul, Int.reduceToNat, Nat.reduceLeDiff, Int.reduceLE, Int.reduceLT, ↓reduceIte, Int.reduceBEq, Int.reduceBNe, Int.reduceAdd, Int.reduceSub, Int.reduceMul, ints_u8, text_is hTb]; try refine okTr_and rfl ?_)
  by_cases hT : sameB (s.take 4).2 thol = true
  · rw [if_pos hT] at hl
    rw [← hl]
    (simp only [go_sem, Nat.reduceAdd, Nat.reduceMul, Int.reduceToNat, Nat.reduceLeDiff, Int.reduceLE, Int.reduceLT, ↓reduceIte, Int.reduceBEq, Int.reduceBNe, Int.reduceAdd, Int.reduceSub, Int.reduceMul, hT]; try refine okTr_and rfl ?_)
    refine CallK.u1 (Reader_Byte s.lets 0 hk.ok) rfl ?_; (simp only [go_sem, Nat.reduceAdd, Nat.reduceMul, Int.reduceToNat, Nat.reduceLeDiff, Int.reduceLE, Int.reduceLT, ↓reduceIte, Int.reduceBEq, Int.reduceBNe, Int.reduceAdd, Int.reduceSub, Int.reduceMul, hbt, ev]; try refine okTr_and rfl ?_)
    by_cases hc : t.code = 0
    · rw [if_pos hc] at hv2
      by_cases h1 : 1 ≤ v
      · have q1 : decide (v < 1) = false := decide_eq_false (by omega)
        by_cases h3 : v ≤ 3
        · have q3 : decide (3 < v) = false := decide_eq_false (by omega)
          rw [if_pos ⟨h1, h3⟩] at hv2
          (simp only [go_sem, Nat.reduceAdd, Nat.reduceMul, Int.reduceToNat, Nat.reduceLeDiff, Int.reduceLE, Int.reduceLT, ↓reduceIte, Int.reduceBEq, Int.reduceBNe, Int.reduceAdd, Int.reduceSub, Int.reduceMul, q1, q3]; try refine okTr_and rfl ?_)
          refine CallK.r1 (Reader_Good t 0) rfl ?_; (simp only [go_sem, Nat.reduceAdd, Nat.reduceMul, Int.reduceToNat, Nat.reduceLeDiff, Int.reduceLE, Int.reduceLT, ↓reduceIte, Int.reduceBEq, Int.reduceBNe, Int.reduceAdd, Int.reduceSub, Int.reduceMul, good_true hc]; try refine okTr_and rfl ?_)
          ((refine FinK.finB r155 [0] ?_ ?_); (· first | with_reducible rfl | (simp [hv2]; done) | rfl); (· simp [resAL, resA1, loadA, oneOr, hv2]))
        · have q3 : decide (3 < v) = true := decide_eq_true (by omega)
          rw [if_neg (by omega)] at hv2
          (simp only [go_sem, Nat.reduceAdd, Nat.reduceMul, Int.reduceToNat, Nat.reduceLeDiff, Int.reduceLE, Int.reduceLT, ↓reduceIte, Int.reduceBEq, Int.reduceBNe, Int.reduceAdd, Int.reduceSub, Int.reduceMul, q1, q3]; try refine okTr_and rfl ?_)
          refine CallK.r1 (Reader_At t 0) rfl ?_; (simp only [go_sem, Nat.reduceAdd, Nat.reduceMul, Int.reduceToNat, Nat.reduceLeDiff, Int.reduceLE, Int.reduceLT, ↓reduceIte, Int.reduceBEq, Int.reduceBNe, Int.reduceAdd, Int.reduceSub, Int.reduceMul, hat hc]; try refine okTr_and rfl ?_)
          refine CallK.u1 (Reader_Fail t 8 s.lets.at_ 0) rfl ?_; (simp only [go_sem, Nat.reduceAdd, Nat.reduceMul, Int.reduceToNat, Nat.reduceLeDiff, Int.reduceLE, Int.reduceLT, ↓reduceIte, Int.reduceBEq, Int.reduceBNe, Int.reduceAdd, Int.reduceSub, Int.reduceMul]; try refine okTr_and rfl ?_)
          refine CallK.r1 (Reader_Good (t.fail 8 s.lets.at_) 0) rfl ?_; (simp only [go_sem, Nat.reduceAdd, Nat.reduceMul, Int.reduceToNat, Nat.reduceLeDiff, Int.reduceLE, Int.reduceLT, ↓reduceIte, Int.reduceBEq, Int.reduceBNe, Int.reduceAdd, Int.reduceSub, Int.reduceMul, good_false (fail_not0 8 s.lets.at_ hc (by decide))]; try refine okTr_and rfl ?_)
          ((refine FinK.finB r155 [0] ?_ ?_); (· first | with_reducible rfl | (simp [hv2]; done) | rfl); (· simp [resAL, resA1, loadA, oneOr, hv2]))
      · have q1 : decide (v < 1) = true := decide_eq_true (by omega)
        rw [if_neg (by omega)] at hv2
        (simp only [go_sem, Nat.reduceAdd, Nat.reduceMul, Int.reduceToNat, Nat.reduceLeDiff, Int.reduceLE, Int.reduceLT, ↓reduceIte, Int.reduceBEq, Int.reduceBNe, Int.reduceAdd, Int.reduceSub, Int.reduceMul, q1]; try refine okTr_and rfl ?_)
        refine CallK.r1 (Reader_At t 0) rfl ?_; (simp only [go_sem, Nat.reduceAdd, Nat.reduceMul, Int.reduceToNat, Nat.reduceLeDiff, Int.reduceLE, Int.reduceLT, ↓reduceIte, Int.reduceBEq, Int.reduceBNe, Int.reduceAdd, Int.reduceSub, Int.reduceMul, hat hc]; try refine okTr_and rfl ?_)
        refine CallK.u1 (Reader_Fail t 8 s.lets.at_ 0) rfl ?_; (simp only [go_sem, Nat.reduceAdd, Nat.reduceMul, Int.reduceToNat, Nat.reduceLeDiff, Int.reduceLE, Int.reduceLT, ↓reduceIte, Int.reduceBEq, Int.reduceBNe, Int.reduceAdd, Int.reduceSub, Int.reduceMul]; try refine okTr_and rfl ?_)
        refine CallK.r1 (Reader_Good (t.fail 8 s.lets.at_) 0) rfl ?_; (simp only [go_sem, Nat.reduceAdd, Nat.reduceMul, Int.reduceToNat, Nat.reduceLeDiff, Int.reduceLE, Int.reduceLT, ↓reduceIte, Int.reduceBEq, Int.reduceBNe, Int.reduceAdd, Int.reduceSub, Int.reduceMul, good_false (fail_not0 8 s.lets.at_ hc (by decide))]; try refine okTr_and rfl ?_)
        ((refine FinK.finB r155 [0] ?_ ?_); (· first | with_reducible rfl | (simp [hv2]; done) | rfl); (· simp [resAL, resA1, loadA, oneOr, hv2]))
    · rw [if_neg hc] at hv2
      have q0 := hv0 hc
      have q1 : decide (v < 1) = true := decide_eq_true (by omega)
      (simp only [go_sem, Nat.reduceAdd, Nat.reduceMul, Int.reduceToNat, Nat.reduceLeDiff, Int.reduceLE, Int.reduceLT, ↓reduceIte, Int.reduceBEq, Int.reduceBNe, Int.reduceAdd, Int.reduceSub, Int.reduceMul, q1]; try refine okTr_and rfl ?_)
      refine CallK.r1 (Reader_At t 0) rfl ?_; (simp only [go_sem, Nat.reduceAdd, Nat.reduceMul, Int.reduceToNat, Nat.reduceLeDiff, Int.reduceLE, Int.reduceLT, ↓reduceIte, Int.reduceBEq, Int.reduceBNe, Int.reduceAdd, Int.reduceSub, Int.reduceMul]; try refine okTr_and rfl ?_)
      refine CallK.u1 (Reader_Fail t 8 _ 0) rfl ?_; (simp only [go_sem, Nat.reduceAdd, Nat.reduceMul, Int.reduceToNat, Nat.reduceLeDiff, Int.reduceLE, Int.reduceLT, ↓reduceIte, Int.reduceBEq, Int.reduceBNe, Int.reduceAdd, Int.reduceSub, Int.reduceMul, fail_bad hc]; try refine okTr_and rfl ?_)
      refine CallK.r1 (Reader_Good t 0) rfl ?_; (simp only [go_sem, Nat.reduceAdd, Nat.reduceMul, Int.reduceToNat, Nat.reduceLeDiff, Int.reduceLE, Int.reduceLT, ↓reduceIte, Int.reduceBEq, Int.reduceBNe, Int.reduceAdd, Int.reduceSub, Int.reduceMul, good_false hc]; try refine okTr_and rfl ?_)
      ((refine FinK.finB r155 [0] ?_ ?_); (· first | with_reducible rfl | (simp [hv2]; done) | rfl); (· simp [resAL, resA1, loadA, oneOr, hv2]))
  · have hT' : sameB (s.take 4).2 thol = false := by simpa using hT
    rw [if_neg hT] at hl
    (simp only [go_sem, Nat.reduceAdd, Nat.reduceMul, Int.reduceToNat, Nat.reduceLeDiff, Int.reduceLE, Int.reduceLT, ↓reduceIte, Int.reduceBEq, Int.reduceBNe, Int.reduceAdd, Int.reduceSub, Int.reduceMul, hT']; try refine okTr_and rfl ?_)
    refine CallK.u1 (Reader_Fail (s.take 4).1 14 s.at_ 0) rfl ?_; (simp only [go_sem, Nat.reduceAdd, Nat.reduceMul, Int.reduceToNat, Nat.reduceLeDiff, Int.reduceLE, Int.reduceLT, ↓reduceIte, Int.reduceBEq, Int.reduceBNe, Int.reduceAdd, Int.reduceSub, Int.reduceMul, ← hl]; try refine okTr_and rfl ?_)
    refine CallK.u1 (Reader_Byte s.lets 0 hk.ok) rfl ?_; (simp only [go_sem, Nat.reduceAdd, Nat.reduceMul, Int.reduceToNat, Nat.reduceLeDiff, Int.reduceLE, Int.reduceLT, ↓reduceIte, Int.reduceBEq, Int.reduceBNe, Int.reduceAdd, Int.reduceSub, Int.reduceMul, hbt, ev]; try refine okTr_and rfl ?_)
    by_cases hc : t.code = 0
    · rw [if_pos hc] at hv2
      by_cases h1 : 1 ≤ v
      · have q1 : decide (v < 1) = false := decide_eq_false (by omega)
        by_cases h3 : v ≤ 3
        · have q3 : decide (3 < v) = false := decide_eq_false (by omega)
          rw [if_pos ⟨h1, h3⟩] at hv2
          (simp only [go_sem, Nat.reduceAdd, Nat.reduceMul, Int.reduceToNat, Nat.reduceLeDiff, Int.reduceLE, Int.reduceLT, ↓reduceIte, Int.reduceBEq, Int.reduceBNe, Int.reduceAdd, Int.reduceSub, Int.reduceMul, q1, q3]; try refine okTr_and rfl ?_)
          refine CallK.r1 (Reader_Good t 0) rfl ?_; (simp only [go_sem, Nat.reduceAdd, Nat.reduceMul, Int.reduceToNat, Nat.reduceLeDiff, Int.reduceLE, Int.reduceLT, ↓reduceIte, Int.reduceBEq, Int.reduceBNe, Int.reduceAdd, Int.reduceSub, Int.reduceMul, good_true hc]; try refine okTr_and rfl ?_)
          ((refine FinK.finB r155 [0] ?_ ?_); (· first | with_reducible rfl | (simp [hv2]; done) | rfl); (· simp [resAL, resA1, loadA, oneOr, hv2]))
        · have q3 : decide (3 < v) = true := decide_eq_true (by omega)
          rw [if_neg (by omega)] at hv2
          (simp only [go_sem, Nat.reduceAdd, Nat.reduceMul, Int.reduceToNat, Nat.reduceLeDiff, Int.reduceLE, Int.reduceLT, ↓reduceIte, Int.reduceBEq, Int.reduceBNe, Int.reduceAdd, Int.reduceSub, Int.reduceMul, q1, q3]; try refine okTr_and rfl ?_)
          refine CallK.r1 (Reader_At t 0) rfl ?_; (simp only [go_sem, Nat.reduceAdd, Nat.reduceMul, Int.reduceToNat, Nat.reduceLeDiff, Int.reduceLE, Int.reduceLT, ↓reduceIte, Int.reduceBEq, Int.reduceBNe, Int.reduceAdd, Int.reduceSub, Int.reduceMul, hat hc]; try refine okTr_and rfl ?_)
          refine CallK.u1 (Reader_Fail t 8 s.lets.at_ 0) rfl ?_; (simp only [go_sem, Nat.reduceAdd, Nat.reduceMul, Int.reduceToNat, Nat.reduceLeDiff, Int.reduceLE, Int.reduceLT, ↓reduceIte, Int.reduceBEq, Int.reduceBNe, Int.reduceAdd, Int.reduceSub, Int.reduceMul]; try refine okTr_and rfl ?_)
          refine CallK.r1 (Reader_Good (t.fail 8 s.lets.at_) 0) rfl ?_; (simp only [go_sem, Nat.reduceAdd, Nat.reduceMul, Int.reduceToNat, Nat.reduceLeDiff, Int.reduceLE, Int.reduceLT, ↓reduceIte, Int.reduceBEq, Int.reduceBNe, Int.reduceAdd, Int.reduceSub, Int.reduceMul, good_false (fail_not0 8 s.lets.at_ hc (by decide))]; try refine okTr_and rfl ?_)
          ((refine FinK.finB r155 [0] ?_ ?_); (· first | with_reducible rfl | (simp [hv2]; done) | rfl); (· simp [resAL, resA1, loadA, oneOr, hv2]))
      · have q1 : decide (v < 1) = true := decide_eq_true (by omega)
        rw [if_neg (by omega)] at hv2
        (simp only [go_sem, Nat.reduceAdd, Nat.reduceMul, Int.reduceToNat, Nat.reduceLeDiff, Int.reduceLE, Int.reduceLT, ↓reduceIte, Int.reduceBEq, Int.reduceBNe, Int.reduceAdd, Int.reduceSub, Int.reduceMul, q1]; try refine okTr_and rfl ?_)
        refine CallK.r1 (Reader_At t 0) rfl ?_; (simp only [go_sem, Nat.reduceAdd, Nat.reduceMul, Int.reduceToNat, Nat.reduceLeDiff, Int.reduceLE, Int.reduceLT, ↓reduceIte, Int.reduceBEq, Int.reduceBNe, Int.reduceAdd, Int.reduceSub, Int.reduceMul, hat hc]; try refine okTr_and rfl ?_)
        refine CallK.u1 (Reader_Fail t 8 s.lets.at_ 0) rfl ?_; (simp only [go_sem, Nat.reduceAdd, Nat.reduceMul, Int.reduceToNat, Nat.reduceLeDiff, Int.reduceLE, Int.reduceLT, ↓reduceIte, Int.reduceBEq, Int.reduceBNe, Int.reduceAdd, Int.reduceSub, Int.reduceMul]; try refine okTr_and rfl ?_)
        refine CallK.r1 (Reader_Good (t.fail 8 s.lets.at_) 0) rfl ?_; (simp only [go_sem, Nat.reduceAdd, Nat.reduceMul, Int.reduceToNat, Nat.reduceLeDiff, Int.reduceLE, Int.reduceLT, ↓reduceIte, Int.reduceBEq, Int.reduceBNe, Int.reduceAdd, Int.reduceSub, Int.reduceMul, good_false (fail_not0 8 s.lets.at_ hc (by decide))]; try refine okTr_and rfl ?_)
        ((refine FinK.finB r155 [0] ?_ ?_); (· first | with_reducible rfl | (simp [hv2]; done) | rfl); (· simp [resAL, resA1, loadA, oneOr, hv2]))
    · rw [if_neg hc] at hv2
      have q0 := hv0 hc
      have q1 : decide (v < 1) = true := decide_eq_true (by omega)
      (simp only [go_sem, Nat.reduceAdd, Nat.reduceMul, Int.reduceToNat, Nat.reduceLeDiff, Int.reduceLE, Int.reduceLT, ↓reduceIte, Int.reduceBEq, Int.reduceBNe, Int.reduceAdd, Int.reduceSub, Int.reduceMul, q1]; try refine okTr_and rfl ?_)
      refine CallK.r1 (Reader_At t 0) rfl ?_; (simp only [go_sem, Nat.reduceAdd, Nat.reduceMul, Int.reduceToNat, Nat.reduceLeDiff, Int.reduceLE, Int.reduceLT, ↓reduceIte, Int.reduceBEq, Int.reduceBNe, Int.reduceAdd, Int.reduceSub, Int.reduceMul]; try refine okTr_and rfl ?_)
      refine CallK.u1 (Reader_Fail t 8 _ 0) rfl ?_; (simp only [go_sem, Nat.reduceAdd, Nat.reduceMul, Int.reduceToNat, Nat.reduceLeDiff, Int.reduceLE, Int.reduceLT, ↓reduceIte, Int.reduceBEq, Int.reduceBNe, Int.reduceAdd, Int.reduceSub, Int.reduceMul, fail_bad hc]; try refine okTr_and rfl ?_)
      refine CallK.r1 (Reader_Good t 0) rfl ?_; (simp only [go_sem, Nat.reduceAdd, Nat.reduceMul, Int.reduceToNat, Nat.reduceLeDiff, Int.reduceLE, Int.reduceLT, ↓reduceIte, Int.reduceBEq, Int.reduceBNe, Int.reduceAdd, Int.reduceSub, Int.reduceMul, good_false hc]; try refine okTr_and rfl ?_)
      ((refine FinK.finB r155 [0] ?_ ?_); (· first | with_reducible rfl | (simp [hv2]; done) | rfl); (· simp [resAL, resA1, loadA, oneOr, hv2]))
theorem header_begin (s : RS) (i : Nat) (hs : ROk s) : Ct Tryz.prog 155 [.ref i 0] [(i, rdr s)] (fun _ => iA s.hbegin.2) [(i, rdr (s.hbegin.1))] (fun _ => []) := Ct.u1 (header_begin0 s hs) i cl (fun ρ => rdr_ren ρ _) (fun ρ => rdr_ren ρ _) (rdr_dead _) cl
set_option maxRecDepth 100000 in
theorem header_Read0 (s : RS) (hs : ROk s) : Does Tryz.prog 103 [.ref 0 0] [rdr s] (hdA s.header.2) [rdr (s.header.1)] := by
  obtain ⟨ka, _⟩ := hbegin_keep hs
  obtain ⟨kb, _⟩ := epo_keep ka epRight
  obtain ⟨kc, kl⟩ := hplain_keep hs
  have e0 : s.hplain = (((s.hbegin.1.epo epRight).1.hbase s.hbegin.2).1, ⟨s.hbegin.2, (s.hbegin.1.epo epRight).2, ((s.hbegin.1.epo epRight).1.hbase s.hbegin.2).2⟩) := rfl
  have hgood : (s.hplain.1.fixed 4).1.code = 0 → rightH s.hplain.2 = true ∧ 0 ≤ s.hplain.2.base ∧ s.from s.hplain.1 = plainB s.hplain.2 := fun h => by
    obtain ⟨t1, t2, t3, t4, t5⟩ := take_bytes kc (n := 4) h
    obtain ⟨p1, p2, p3, p4, p5⟩ := hplain_is hs t1
    exact ⟨p2, p3, from_take hs.at0 (by omega) p5 hs.at1⟩
  have e : s.header = if (s.hplain.1.fixed 4).1.code = 0 then (if (s.hplain.1.fixed 4).2 = crcI (s.from s.hplain.1) then ((s.hplain.1.fixed 4).1, s.hplain.2) else ((s.hplain.1.fixed 4).1.fail 6 s.hplain.1.at_, hd0)) else ((s.hplain.1.fixed 4).1, hd0) := rfl
  obtain ⟨A, hA⟩ : ∃ A, s.hbegin = A := ⟨_, rfl⟩
  rw [hA] at e0 ka kb
  obtain ⟨B, hB⟩ : ∃ B, A.1.epo epRight = B := ⟨_, rfl⟩
  rw [hB] at e0 kb
  refine Does.runA Tryz.func103 b103 n103 Tryz.ntmps103 ?_; simp only [c103, go_sem, Nat.reduceAdd, Nat.reduceMul, Int.reduceToNat, Nat.reduceLeDiff, Int.reduceLE, Int.reduceLT, ↓reduceIte, Int.reduceBEq, Int.reduceBNe, Int.reduceAdd, Int.reduceSub, Int.reduceMul]; try refine okTr_and rfl ?_
  refine CallK.u1 (header_begin s 0 hs) rfl ?_; (simp only [go_sem, Nat.reduceAdd, Nat.reduceMul, Int.reduceToNat, Nat.reduceLeDiff, Int.reduceLE, Int.reduceLT, ↓reduceIte, Int.reduceBEq, Int.reduceBNe, Int.reduceAdd, Int.reduceSub, Int.reduceMul, hA]; try refine okTr_and rfl ?_)
  refine CallK.u1 (epoch_Read A.1 0 ka) rfl ?_; (simp only [go_sem, Nat.reduceAdd, Nat.reduceMul, Int.reduceToNat, Nat.reduceLeDiff, Int.reduceLE, Int.reduceLT, ↓reduceIte, Int.reduceBEq, Int.reduceBNe, Int.reduceAdd, Int.reduceSub, Int.reduceMul, hB]; try refine okTr_and rfl ?_)
  refine CallK.p (header_based A.2) ?_
  by_cases hv : A.2 = 1
  · have qv : (A.2 == 1) = true := by simpa using hv
    obtain ⟨C, hC⟩ : ∃ C, B.1.epo epPos = C := ⟨_, rfl⟩
    have hC' : B.1.hbase A.2 = C := by unfold RS.hbase; rw [if_pos hv, hC]
    rw [hC'] at e0
    rw [e0] at kc
    rw [e0] at hgood
    rw [e0] at e
    simp only at kc hgood e
    obtain ⟨F, hF⟩ : ∃ F, C.1.fixed 4 = F := ⟨_, rfl⟩
    have hF' : C.1.fixed (min (max 4 0) 8) = F := hF
    rw [hF] at hgood
    rw [hF] at e
    (simp only [go_sem, Nat.reduceAdd, Nat.reduceMul, Int.reduceToNat, Nat.reduceLeDiff, Int.reduceLE, Int.reduceLT, ↓reduceIte, Int.reduceBEq, Int.reduceBNe, Int.reduceAdd, Int.reduceSub, Int.reduceMul, qv]; try refine okTr_and rfl ?_)
    refine CallK.u1 (epoch_ReadPos B.1 0 kb) rfl ?_; (simp only [go_sem, Nat.reduceAdd, Nat.reduceMul, Int.reduceToNat, Nat.reduceLeDiff, Int.reduceLE, Int.reduceLT, ↓reduceIte, Int.reduceBEq, Int.reduceBNe, Int.reduceAdd, Int.reduceSub, Int.reduceMul, hC]; try refine okTr_and rfl ?_)
    refine CallK.r1 (Reader_At C.1 0) rfl ?_; (simp only [go_sem, Nat.reduceAdd, Nat.reduceMul, Int.reduceToNat, Nat.reduceLeDiff, Int.reduceLE, Int.reduceLT, ↓reduceIte, Int.reduceBEq, Int.reduceBNe, Int.reduceAdd, Int.reduceSub, Int.reduceMul]; try refine okTr_and rfl ?_)
    refine CallK.u1 (blob_ReadFixed C.1 4 0 kc) rfl ?_; (simp only [go_sem, Nat.reduceAdd, Nat.reduceMul, Int.reduceToNat, Nat.reduceLeDiff, Int.reduceLE, Int.reduceLT, ↓reduceIte, Int.reduceBEq, Int.reduceBNe, Int.reduceAdd, Int.reduceSub, Int.reduceMul, hF']; try refine okTr_and rfl ?_)
    by_cases hc : F.1.code = 0
    · obtain ⟨hr, hb, hfr⟩ := hgood hc
      rw [if_pos hc, hfr] at e
      have hp := plainB_bys hr hb
      have hpl := (headerB_27 hr).1
      have eb := sum_u64 hp
      refine CallK.r1 (Reader_Good F.1 0) rfl ?_; (simp only [go_sem, Nat.reduceAdd, Nat.reduceMul, Int.reduceToNat, Nat.reduceLeDiff, Int.reduceLE, Int.reduceLT, ↓reduceIte, Int.reduceBEq, Int.reduceBNe, Int.reduceAdd, Int.reduceSub, Int.reduceMul, good_true hc]; try refine okTr_and rfl ?_)
      refine CallK.p (header_plain ⟨A.2, B.2, C.2⟩ hr hb) ?_; (simp only [go_sem, Nat.reduceAdd, Nat.reduceMul, Int.reduceToNat, Nat.reduceLeDiff, Int.reduceLE, Int.reduceLT, ↓reduceIte, Int.reduceBEq, Int.reduceBNe, Int.reduceAdd, Int.reduceSub, Int.reduceMul]; try refine okTr_and rfl ?_)
      refine CallK.p (crc_Sum (plainB ⟨A.2, B.2, C.2⟩) hp (by omega)) ?_; (simp only [go_sem, Nat.reduceAdd, Nat.reduceMul, Int.reduceToNat, Nat.reduceLeDiff, Int.reduceLE, Int.reduceLT, ↓reduceIte, Int.reduceBEq, Int.reduceBNe, Int.reduceAdd, Int.reduceSub, Int.reduceMul, eb]; try refine okTr_and rfl ?_)
      by_cases hx : F.2 = crcI (plainB ⟨A.2, B.2, C.2⟩)
      · have q2 : (F.2 != crcI (plainB ⟨A.2, B.2, C.2⟩)) = false := by simpa using hx
        rw [if_pos hx] at e
        (simp only [go_sem, Nat.reduceAdd, Nat.reduceMul, Int.reduceToNat, Nat.reduceLeDiff, Int.reduceLE, Int.reduceLT, ↓reduceIte, Int.reduceBEq, Int.reduceBNe, Int.reduceAdd, Int.reduceSub, Int.reduceMul, q2]; try refine okTr_and rfl ?_)
        ((refine FinK.finB r103 [0] ?_ ?_); (· first | with_reducible rfl | (simp [e]; done) | rfl); (· simp [resAL, resA1, loadA, oneOr, e]))
      · have q2 : (F.2 != crcI (plainB ⟨A.2, B.2, C.2⟩)) = true := by simpa using hx
        rw [if_neg hx] at e
        (simp only [go_sem, Nat.reduceAdd, Nat.reduceMul, Int.reduceToNat, Nat.reduceLeDiff, Int.reduceLE, Int.reduceLT, ↓reduceIte, Int.reduceBEq, Int.reduceBNe, Int.reduceAdd, Int.reduceSub, Int.reduceMul, q2]; try refine okTr_and rfl ?_)
        refine CallK.u1 (Reader_Fail F.1 6 C.1.at_ 0) rfl ?_; (simp only [go_sem, Nat.reduceAdd, Nat.reduceMul, Int.reduceToNat, Nat.reduceLeDiff, Int.reduceLE, Int.reduceLT, ↓reduceIte, Int.reduceBEq, Int.reduceBNe, Int.reduceAdd, Int.reduceSub, Int.reduceMul]; try refine okTr_and rfl ?_)
        ((refine FinK.finB r103 [0] ?_ ?_); (· first | with_reducible rfl | (simp [e, hd0]; done) | rfl); (· simp [resAL, resA1, loadA, oneOr, e, hd0]))
    · rw [if_neg hc] at e
      refine CallK.r1 (Reader_Good F.1 0) rfl ?_; (simp only [go_sem, Nat.reduceAdd, Nat.reduceMul, Int.reduceToNat, Nat.reduceLeDiff, Int.reduceLE, Int.reduceLT, ↓reduceIte, Int.reduceBEq, Int.reduceBNe, Int.reduceAdd, Int.reduceSub, Int.reduceMul, good_false hc]; try refine okTr_and rfl ?_)
      ((refine FinK.finB r103 [0] ?_ ?_); (· first | with_reducible rfl | (simp [e, hd0]; done) | rfl); (· simp [resAL, resA1, loadA, oneOr, e, hd0]))
  · have qv : (A.2 == 1) = false := by simpa using hv
    have hC' : B.1.hbase A.2 = (B.1, 0) := by unfold RS.hbase; rw [if_neg hv]
    rw [hC'] at e0
    rw [e0] at kc
    rw [e0] at hgood
    rw [e0] at e
    simp only at kc hgood e
    obtain ⟨F, hF⟩ : ∃ F, B.1.fixed 4 = F := ⟨_, rfl⟩
    have hF' : B.1.fixed (min (max 4 0) 8) = F := hF
    rw [hF] at hgood
    rw [hF] at e
    (simp only [go_sem, Nat.reduceAdd, Nat.reduceMul, Int.reduceToNat, Nat.reduceLeDiff, Int.reduceLE, Int.reduceLT, ↓reduceIte, Int.reduceBEq, Int.reduceBNe, Int.reduceAdd, Int.reduceSub, Int.reduceMul, qv]; try refine okTr_and rfl ?_)
    refine CallK.r1 (Reader_At B.1 0) rfl ?_; (simp only [go_sem, Nat.reduceAdd, Nat.reduceMul, Int.reduceToNat, Nat.reduceLeDiff, Int.reduceLE, Int.reduceLT, ↓reduceIte, Int.reduceBEq, Int.reduceBNe, Int.reduceAdd, Int.reduceSub, Int.reduceMul]; try refine okTr_and rfl ?_)
    refine CallK.u1 (blob_ReadFixed B.1 4 0 kc) rfl ?_; (simp only [go_sem, Nat.reduceAdd, Nat.reduceMul, Int.reduceToNat, Nat.reduceLeDiff, Int.reduceLE, Int.reduceLT, ↓reduceIte, Int.reduceBEq, Int.reduceBNe, Int.reduceAdd, Int.reduceSub, Int.reduceMul, hF']; try refine okTr_and rfl ?_)
    by_cases hc : F.1.code = 0
    · obtain ⟨hr, hb, hfr⟩ := hgood hc
      rw [if_pos hc, hfr] at e
      have hp := plainB_bys hr hb
      have hpl := (headerB_27 hr).1
      have eb := sum_u64 hp
      refine CallK.r1 (Reader_Good F.1 0) rfl ?_; (simp only [go_sem, Nat.reduceAdd, Nat.reduceMul, Int.reduceToNat, Nat.reduceLeDiff, Int.reduceLE, Int.reduceLT, ↓reduceIte, Int.reduceBEq, Int.reduceBNe, Int.reduceAdd, Int.reduceSub, Int.reduceMul, good_true hc]; try refine okTr_and rfl ?_)
      refine CallK.p (header_plain ⟨A.2, B.2, 0⟩ hr hb) ?_; (simp only [go_sem, Nat.reduceAdd, Nat.reduceMul, Int.reduceToNat, Nat.reduceLeDiff, Int.reduceLE, Int.reduceLT, ↓reduceIte, Int.reduceBEq, Int.reduceBNe, Int.reduceAdd, Int.reduceSub, Int.reduceMul]; try refine okTr_and rfl ?_)
      refine CallK.p (crc_Sum (plainB ⟨A.2, B.2, 0⟩) hp (by omega)) ?_; (simp only [go_sem, Nat.reduceAdd, Nat.reduceMul, Int.reduceToNat, Nat.reduceLeDiff, Int.reduceLE, Int.reduceLT, ↓reduceIte, Int.reduceBEq, Int.reduceBNe, Int.reduceAdd, Int.reduceSub, Int.reduceMul, eb]; try refine okTr_and rfl ?_)
      by_cases hx : F.2 = crcI (plainB ⟨A.2, B.2, 0⟩)
      · have q2 : (F.2 != crcI (plainB ⟨A.2, B.2, 0⟩)) = false := by simpa using hx
        rw [if_pos hx] at e
        (simp only [go_sem, Nat.reduceAdd, Nat.reduceMul, Int.reduceToNat, Nat.reduceLeDiff, Int.reduceLE, Int.reduceLT, ↓reduceIte, Int.reduceBEq, Int.reduceBNe, Int.reduceAdd, Int.reduceSub, Int.reduceMul, q2]; try refine okTr_and rfl ?_)
        ((refine FinK.finB r103 [0] ?_ ?_); (· first | with_reducible rfl | (simp [e]; done) | rfl); (· simp [resAL, resA1, loadA, oneOr, e]))
      · have q2 : (F.2 != crcI (plainB ⟨A.2, B.2, 0⟩)) = true := by simpa using hx
        rw [if_neg hx] at e
        (simp only [go_sem, Nat.reduceAdd, Nat.reduceMul, Int.reduceToNat, Nat.reduceLeDiff, Int.reduceLE, Int.reduceLT, ↓reduceIte, Int.reduceBEq, Int.reduceBNe, Int.reduceAdd, Int.reduceSub, Int.reduceMul, q2]; try refine okTr_and rfl ?_)
        refine CallK.u1 (Reader_Fail F.1 6 B.1.at_ 0) rfl ?_; (simp only [go_sem, Nat.reduceAdd, Nat.reduceMul, Int.reduceToNat, Nat.reduceLeDiff, Int.reduceLE, Int.reduceLT, ↓reduceIte, Int.reduceBEq, Int.reduceBNe, Int.reduceAdd, Int.reduceSub, Int.reduceMul]; try refine okTr_and rfl ?_)
        ((refine FinK.finB r103 [0] ?_ ?_); (· first | with_reducible rfl | (simp [e, hd0]; done) | rfl); (· simp [resAL, resA1, loadA, oneOr, e, hd0]))
    · rw [if_neg hc] at e
      refine CallK.r1 (Reader_Good F.1 0) rfl ?_; (simp only [go_sem, Nat.reduceAdd, Nat.reduceMul, Int.reduceToNat, Nat.reduceLeDiff, Int.reduceLE, Int.reduceLT, ↓reduceIte, Int.reduceBEq, Int.reduceBNe, Int.reduceAdd, Int.reduceSub, Int.reduceMul, good_false hc]; try refine okTr_and rfl ?_)
      ((refine FinK.finB r103 [0] ?_ ?_); (· first | with_reducible rfl | (simp [e, hd0]; done) | rfl); (· simp [resAL, resA1, loadA, oneOr, e, hd0]))
theorem header_Read (s : RS) (i : Nat) (hs : ROk s) : Ct Tryz.prog 103 [.ref i 0] [(i, rdr s)] (fun _ => hdA s.header.2) [(i, rdr (s.header.1))] (fun _ => []) := Ct.u1 (header_Read0 s hs) i cl (fun ρ => rdr_ren ρ _) (fun ρ => rdr_ren ρ _) (rdr_dead _) cl
end Go.Proofs.YtnfagphepkeedaaGreat
end
section
namespace Go.Proofs.YtnfagphepkeedaaGreat
open Go.RowKit

set_option maxRecDepth 100000 in
theorem ref31_Bytes0 (h : Hd) (hr : rightH h = true) (hb : 0 ≤ h.base) : Does Tryz.prog 81 [hdA h] [] (ownA 0 (headerB h)) [.row 1 (headerB h).length] := by
  obtain ⟨h1, h2, h3, h4⟩ := rightH_iff.1 hr
  have ew : IntKind.u8.wrap h.ver = h.ver := IntWalk.u8_in _ (by omega)
  have e1 : [u8A 84, u8A 72, u8A 79, u8A 76, u8A h.ver] = ints .u8 (thol ++ [h.ver]) := rfl
  have l1 : (thol ++ [h.ver]).length = 5 := rfl
  have l2 : (thol ++ [h.ver] ++ vb h.ep).length = 5 + (vb h.ep).length := by rw [List.length_append, l1]
  have hp := plainB_bys hr hb
  have hcr := crcI_range hp
  have eb := sum_u64 hp
  have hpl := headerB_27 hr
  have vl := (vb_len h.ep).2
  have vl2 := (vb_len h.base).2
  have l4 := lowBytes_len 4 (crcI (plainB h))
  have ef : plainB h ++ lowBytes 4 (crcI (plainB h)) = headerB h := rfl
  have ef2 : (plainB h).length + 4 = (headerB h).length := (headerB_len h).symm
  refine Does.runA Tryz.func81 b81 n81 Tryz.ntmps81 ?_; simp only [c81, go_sem, Nat.reduceAdd, Nat.reduceMul, Int.reduceToNat, Nat.reduceLeDiff, Int.reduceLE, Int.reduceLT, ↓reduceIte, Int.reduceBEq, Int.reduceBNe, Int.reduceAdd, Int.reduceSub, Int.reduceMul]; try refine okTr_and rfl ?_
  (repeat ((with_reducible refine And.intro ?_ ?_); (· exact sd)))
  (simp only [go_sem, Nat.reduceAdd, Nat.reduceMul, Int.reduceToNat, Nat.reduceLeDiff, Int.reduceLE, Int.reduceLT, ↓reduceIte, Int.reduceBEq, Int.reduceBNe, Int.reduceAdd, Int.reduceSub, Int.reduceMul, ew, e1]; try refine okTr_and rfl ?_)
  refine CallK.p (ref04_Bytes h.ep (by omega) (by omega)) ?_; (simp only [go_sem, Nat.reduceAdd, Nat.reduceMul, Int.reduceToNat, Nat.reduceLeDiff, Int.reduceLE, Int.reduceLT, ↓reduceIte, Int.reduceBEq, Int.reduceBNe, Int.reduceAdd, Int.reduceSub, Int.reduceMul, ints_append, ints_length, ← List.length_append]; try refine okTr_and rfl ?_)
  (repeat ((with_reducible refine And.intro ?_ ?_); (· exact sd)))
  by_cases hv : h.ver = 1
  · have q5 : (h.ver == 1) = true := by simpa using hv
    have e : thol ++ [h.ver] ++ vb h.ep ++ vb h.base = plainB h := by unfold plainB; rw [if_pos hv]
    (simp only [go_sem, Nat.reduceAdd, Nat.reduceMul, Int.reduceToNat, Nat.reduceLeDiff, Int.reduceLE, Int.reduceLT, ↓reduceIte, Int.reduceBEq, Int.reduceBNe, Int.reduceAdd, Int.reduceSub, Int.reduceMul, q5]; try refine okTr_and rfl ?_)
    (repeat ((with_reducible refine And.intro ?_ ?_); (· exact sd)))
    refine CallK.p (ref04_Bytes h.base hb (by omega)) ?_; (simp only [go_sem, Nat.reduceAdd, Nat.reduceMul, Int.reduceToNat, Nat.reduceLeDiff, Int.reduceLE, Int.reduceLT, ↓reduceIte, Int.reduceBEq, Int.reduceBNe, Int.reduceAdd, Int.reduceSub, Int.reduceMul, ints_append, ints_length, e, ← List.length_append]; try refine okTr_and rfl ?_)
    (repeat ((with_reducible refine And.intro ?_ ?_); (· exact sd)))
    refine CallK.p (ref07_Sum (plainB h) hp (by omega)) ?_; (simp only [go_sem, Nat.reduceAdd, Nat.reduceMul, Int.reduceToNat, Nat.reduceLeDiff, Int.reduceLE, Int.reduceLT, ↓reduceIte, Int.reduceBEq, Int.reduceBNe, Int.reduceAdd, Int.reduceSub, Int.reduceMul, eb]; try refine okTr_and rfl ?_)
    refine CallK.p (ref03_Fixed (crcI (plainB h)) 4 hcr.1 (by omega) (by omega)) ?_; (simp only [go_sem, Nat.reduceAdd, Nat.reduceMul, Int.reduceToNat, Nat.reduceLeDiff, Int.reduceLE, Int.reduceLT, ↓reduceIte, Int.reduceBEq, Int.reduceBNe, Int.reduceAdd, Int.reduceSub, Int.reduceMul, ints_append, ints_length, ef, l4, ef2]; try refine okTr_and rfl ?_)
    (repeat ((with_reducible refine And.intro ?_ ?_); (· exact sd)))
    exact FinK.finA r81 [1]
  · have q5 : (h.ver == 1) = false := by simpa using hv
    have e : thol ++ [h.ver] ++ vb h.ep = plainB h := by unfold plainB; rw [if_neg hv, List.append_nil]
    (simp only [go_sem, Nat.reduceAdd, Nat.reduceMul, Int.reduceToNat, Nat.reduceLeDiff, Int.reduceLE, Int.reduceLT, ↓reduceIte, Int.reduceBEq, Int.reduceBNe, Int.reduceAdd, Int.reduceSub, Int.reduceMul, q5, e]; try refine okTr_and rfl ?_)
    (repeat ((with_reducible refine And.intro ?_ ?_); (· exact sd)))
    refine CallK.p (ref07_Sum (plainB h) hp (by omega)) ?_; (simp only [go_sem, Nat.reduceAdd, Nat.reduceMul, Int.reduceToNat, Nat.reduceLeDiff, Int.reduceLE, Int.reduceLT, ↓reduceIte, Int.reduceBEq, Int.reduceBNe, Int.reduceAdd, Int.reduceSub, Int.reduceMul, eb]; try refine okTr_and rfl ?_)
    refine CallK.p (ref03_Fixed (crcI (plainB h)) 4 hcr.1 (by omega) (by omega)) ?_; (simp only [go_sem, Nat.reduceAdd, Nat.reduceMul, Int.reduceToNat, Nat.reduceLeDiff, Int.reduceLE, Int.reduceLT, ↓reduceIte, Int.reduceBEq, Int.reduceBNe, Int.reduceAdd, Int.reduceSub, Int.reduceMul, ints_append, ints_length, ef, l4, ef2]; try refine okTr_and rfl ?_)
    (repeat ((with_reducible refine And.intro ?_ ?_); (· exact sd)))
    exact FinK.finA r81 [1]
theorem ref31_Bytes (h : Hd) (hr : rightH h = true) (hb : 0 ≤ h.base) : Ct Tryz.prog 81 [hdA h] [] (fun n => ownA n (headerB h)) [] (fun _ => [.row 1 (headerB h).length]) := Ct.n (ref31_Bytes0 h hr hb) cl cl clo
end Go.Proofs.YtnfagphepkeedaaGreat
end
section
namespace Go.Proofs.YtnfagphepkeedaaGreat
open Go.RowKit

end Go.Proofs.YtnfagphepkeedaaGreat
end
section
namespace Go.Proofs.YtnfagphepkeedaaGreat
open Go.RowKit

theorem Reader_End0 (s : RS) (hs : ROk s) : Does Tryz.prog 39 [.ref 0 0] [rdr s] (.tup []) [rdr (s.rest9)] := by
  refine Does.runA Tryz.func39 b39 n39 Tryz.ntmps39 ?_; simp only [c39, go_sem, Nat.reduceAdd, Nat.reduceMul, Int.reduceToNat, Nat.reduceLeDiff, Int.reduceLE, Int.reduceLT, ↓reduceIte, Int.reduceBEq, Int.reduceBNe, Int.reduceAdd, Int.reduceSub, Int.reduceMul]; try refine okTr_and rfl ?_
  refine CallK.r1 (Reader_Left s 0 hs.ok) rfl ?_
  by_cases h : 0 < s.left
  · have q : decide (0 < s.left) = true := decide_eq_true h
    have e : s.rest9 = s.fail 9 s.at_ := by unfold RS.rest9; rw [if_pos h]
    (simp only [go_sem, Nat.reduceAdd, Nat.reduceMul, Int.reduceToNat, Nat.reduceLeDiff, Int.reduceLE, Int.reduceLT, ↓reduceIte, Int.reduceBEq, Int.reduceBNe, Int.reduceAdd, Int.reduceSub, Int.reduceMul, q]; try refine okTr_and rfl ?_)
    refine CallK.u1 (Reader_Fail s 9 s.at_ 0) rfl ?_; (simp only [go_sem, Nat.reduceAdd, Nat.reduceMul, Int.reduceToNat, Nat.reduceLeDiff, Int.reduceLE, Int.reduceLT, ↓reduceIte, Int.reduceBEq, Int.reduceBNe, Int.reduceAdd, Int.reduceSub, Int.reduceMul]; try refine okTr_and rfl ?_)
    ((refine FinK.finB r39 [0] ?_ ?_); (· first | with_reducible rfl | (simp [e]; done) | rfl); (· simp [resAL, resA1, loadA, oneOr, e]))
  · have q : decide (0 < s.left) = false := decide_eq_false h
    have e : s.rest9 = s := by unfold RS.rest9; rw [if_neg h]
    (simp only [go_sem, Nat.reduceAdd, Nat.reduceMul, Int.reduceToNat, Nat.reduceLeDiff, Int.reduceLE, Int.reduceLT, ↓reduceIte, Int.reduceBEq, Int.reduceBNe, Int.reduceAdd, Int.reduceSub, Int.reduceMul, q]; try refine okTr_and rfl ?_)
    ((refine FinK.finB r39 [0] ?_ ?_); (· first | with_reducible rfl | (simp [e]; done) | rfl); (· simp [resAL, resA1, loadA, oneOr, e]))
theorem Reader_End (s : RS) (i : Nat) (hs : ROk s) : Ct Tryz.prog 39 [.ref i 0] [(i, rdr s)] (fun _ => .tup []) [(i, rdr (s.rest9))] (fun _ => []) := Ct.u1 (Reader_End0 s hs) i cl (fun ρ => rdr_ren ρ _) (fun ρ => rdr_ren ρ _) (rdr_dead _) cl
theorem ROk.rest9 {s : RS} (h : ROk s) : ROk s.rest9 := by
  unfold RS.rest9; split
  · exact h.fail _ _
  · exact h
end Go.Proofs.YtnfagphepkeedaaGreat
end
section
namespace Go.Proofs.YtnfagphepkeedaaGreat
open Go.RowKit

theorem Reader_Since0 (s : RS) (a : Int) (hs : s.ok) (a0 : 0 ≤ a) (a1 : a ≤ s.at_) : Does Tryz.prog 35 [.ref 0 0, iA a] [rdr s] (slA .u8 ((s.l.drop a.toNat).take (s.at_ - a).toNat)) [rdr (s)] := by
  obtain ⟨h0, h1, h2⟩ := hs
  have q1 : decide (a < 0) = false := decide_eq_false (by omega)
  have q2 : decide (s.at_ < a) = false := decide_eq_false (by omega)
  have e1 : ((s.l.drop a.toNat).take (s.at_ - a).toNat).length ≤ s.l.length := by simp; omega
  unfold rdr
  refine Does.runA Tryz.func35 b35 n35 Tryz.ntmps35 ?_; simp only [c35, go_sem, Nat.reduceAdd, Nat.reduceMul, Int.reduceToNat, Nat.reduceLeDiff, Int.reduceLE, Int.reduceLT, ↓reduceIte, Int.reduceBEq, Int.reduceBNe, Int.reduceAdd, Int.reduceSub, Int.reduceMul, q1, q2, ints_length, ints_drop, ints_take]; try refine okTr_and rfl ?_
  (repeat ((with_reducible refine And.intro ?_ ?_); (· exact sd)))
  (refine FinK.untag 4 rfl ?_; simp only [untag1_sl, List.set_cons_zero, List.set_cons_succ])
  exact FinK.finA r35 [0]
theorem Reader_Since (s : RS) (a : Int) (i : Nat) (hs : s.ok) (a0 : 0 ≤ a) (a1 : a ≤ s.at_) : Ct Tryz.prog 35 [.ref i 0, iA a] [(i, rdr s)] (fun _ => slA .u8 ((s.l.drop a.toNat).take (s.at_ - a).toNat)) [] (fun _ => []) :=
  Ct.r1 (Reader_Since0 s a hs a0 a1) i cl (fun ρ => rdr_ren ρ s) (rdr_dead s) cl
theorem legacy_begin0 (s : RS) (v : Int) (hs : ROk s) (hv : ¬ v = 0) : Does Tryz.prog 29 [.ref 0 0, iA v] [rdr s] (hdA s.header.2) [rdr (s.begin v)] := by
  have hbad := fun hc => header_bad (s := s) hc
  obtain ⟨F, hF⟩ : ∃ F, s.header = F := ⟨_, rfl⟩
  have e : s.begin v = if F.1.code = 0 ∧ ¬ F.2.ver = v then F.1.fail 8 4 else F.1 := by unfold RS.begin; rw [hF]
  rw [e, hF]
  rw [hF] at hbad
  refine Does.runA Tryz.func29 b29 n29 Tryz.ntmps29 ?_; simp only [c29, go_sem, Nat.reduceAdd, Nat.reduceMul, Int.reduceToNat, Nat.reduceLeDiff, Int.reduceLE, Int.reduceLT, ↓reduceIte, Int.reduceBEq, Int.reduceBNe, Int.reduceAdd, Int.reduceSub, Int.reduceMul]; try refine okTr_and rfl ?_
  refine CallK.u1 (header_Read s 0 hs) rfl ?_; (simp only [go_sem, Nat.reduceAdd, Nat.reduceMul, Int.reduceToNat, Nat.reduceLeDiff, Int.reduceLE, Int.reduceLT, ↓reduceIte, Int.reduceBEq, Int.reduceBNe, Int.reduceAdd, Int.reduceSub, Int.reduceMul, hF]; try refine okTr_and rfl ?_)
  by_cases h : F.2.ver = v
  · have q : (F.2.ver != v) = false := by simpa using h
    rw [if_neg (fun hh => hh.2 h)]
    (simp only [go_sem, Nat.reduceAdd, Nat.reduceMul, Int.reduceToNat, Nat.reduceLeDiff, Int.reduceLE, Int.reduceLT, ↓reduceIte, Int.reduceBEq, Int.reduceBNe, Int.reduceAdd, Int.reduceSub, Int.reduceMul, q]; try refine okTr_and rfl ?_)
    exact FinK.finA r29 [0]
  · have q : (F.2.ver != v) = true := by simpa using h
    have e2 : (if F.1.code = 0 ∧ ¬ F.2.ver = v then F.1.fail 8 4 else F.1) = F.1.fail 8 4 := by
      by_cases hc : F.1.code = 0
      · rw [if_pos ⟨hc, h⟩]
      · rw [if_neg (fun hh => hc hh.1), fail_stays hc]
    rw [e2]
    (simp only [go_sem, Nat.reduceAdd, Nat.reduceMul, Int.reduceToNat, Nat.reduceLeDiff, Int.reduceLE, Int.reduceLT, ↓reduceIte, Int.reduceBEq, Int.reduceBNe, Int.reduceAdd, Int.reduceSub, Int.reduceMul, q]; try refine okTr_and rfl ?_)
    refine CallK.u1 (Reader_Fail F.1 8 4 0) rfl ?_; (simp only [go_sem, Nat.reduceAdd, Nat.reduceMul, Int.reduceToNat, Nat.reduceLeDiff, Int.reduceLE, Int.reduceLT, ↓reduceIte, Int.reduceBEq, Int.reduceBNe, Int.reduceAdd, Int.reduceSub, Int.reduceMul]; try refine okTr_and rfl ?_)
    exact FinK.finA r29 [0]
theorem legacy_begin (s : RS) (v : Int) (i : Nat) (hs : ROk s) (hv : ¬ v = 0) : Ct Tryz.prog 29 [.ref i 0, iA v] [(i, rdr s)] (fun _ => hdA s.header.2) [(i, rdr (s.begin v))] (fun _ => []) := Ct.u1 (legacy_begin0 s v hs hv) i cl (fun ρ => rdr_ren ρ _) (fun ρ => rdr_ren ρ _) (rdr_dead _) cl
theorem legacy_counted0 (s : RS) (base least most : Int) (hs : ROk s) (b0 : 0 ≤ base) (b1 : base < 18446744073709551616) (m1 : most ≤ 1000000) : Does Tryz.prog 31 [.ref 0 0, uA base, iA least, iA most] [rdr s] (iA (s.cnt base least most).2) [rdr ((s.cnt base least most).1)] := by
  have hr := int_range (s := s) (m := most) hs.bys
  have hsnd := cnt_snd s base least most
  have hz := fun hc => int_zero (s := s) (m := most) hc
  obtain ⟨F, hF⟩ : ∃ F, s.int most = F := ⟨_, rfl⟩
  have e : s.cnt base least most = if F.1.code = 0 ∧ (F.2 < least ∨ fitsB base F.2 = false) then (F.1.fail 3 s.at_, F.2) else F := by unfold RS.cnt; rw [hF]
  rw [hsnd, e, hF]
  rw [hF] at hr hz
  have yes : F.2 < least ∨ fitsB base F.2 = false → (if F.1.code = 0 ∧ (F.2 < least ∨ fitsB base F.2 = false) then (F.1.fail 3 s.at_, F.2) else F).1 = F.1.fail 3 s.at_ := fun h => by
    by_cases hc : F.1.code = 0
    · rw [if_pos ⟨hc, h⟩]
    · rw [if_neg (fun hh => hc hh.1), fail_stays hc]
  have no : ¬ (F.2 < least ∨ fitsB base F.2 = false) → (if F.1.code = 0 ∧ (F.2 < least ∨ fitsB base F.2 = false) then (F.1.fail 3 s.at_, F.2) else F).1 = F.1 := fun h => by
    rw [if_neg (fun hh => h hh.2)]
  refine Does.runA Tryz.func31 b31 n31 Tryz.ntmps31 ?_; simp only [c31, go_sem, Nat.reduceAdd, Nat.reduceMul, Int.reduceToNat, Nat.reduceLeDiff, Int.reduceLE, Int.reduceLT, ↓reduceIte, Int.reduceBEq, Int.reduceBNe, Int.reduceAdd, Int.reduceSub, Int.reduceMul]; try refine okTr_and rfl ?_
  refine CallK.r1 (Reader_At s 0) rfl ?_; (simp only [go_sem, Nat.reduceAdd, Nat.reduceMul, Int.reduceToNat, Nat.reduceLeDiff, Int.reduceLE, Int.reduceLT, ↓reduceIte, Int.reduceBEq, Int.reduceBNe, Int.reduceAdd, Int.reduceSub, Int.reduceMul]; try refine okTr_and rfl ?_)
  refine CallK.u1 (varint_ReadInt s most 0 (by omega) hs.ok hs.bys) rfl ?_; (simp only [go_sem, Nat.reduceAdd, Nat.reduceMul, Int.reduceToNat, Nat.reduceLeDiff, Int.reduceLE, Int.reduceLT, ↓reduceIte, Int.reduceBEq, Int.reduceBNe, Int.reduceAdd, Int.reduceSub, Int.reduceMul, hF]; try refine okTr_and rfl ?_)
  by_cases h1 : F.2 < least
  · have q1 : decide (F.2 < least) = true := decide_eq_true h1
    rw [yes (.inl h1)]
    (simp only [go_sem, Nat.reduceAdd, Nat.reduceMul, Int.reduceToNat, Nat.reduceLeDiff, Int.reduceLE, Int.reduceLT, ↓reduceIte, Int.reduceBEq, Int.reduceBNe, Int.reduceAdd, Int.reduceSub, Int.reduceMul, q1]; try refine okTr_and rfl ?_)
    refine CallK.u1 (Reader_Fail F.1 3 s.at_ 0) rfl ?_; (simp only [go_sem, Nat.reduceAdd, Nat.reduceMul, Int.reduceToNat, Nat.reduceLeDiff, Int.reduceLE, Int.reduceLT, ↓reduceIte, Int.reduceBEq, Int.reduceBNe, Int.reduceAdd, Int.reduceSub, Int.reduceMul]; try refine okTr_and rfl ?_)
    exact FinK.finA r31 [0]
  · have q1 : decide (F.2 < least) = false := decide_eq_false h1
    (simp only [go_sem, Nat.reduceAdd, Nat.reduceMul, Int.reduceToNat, Nat.reduceLeDiff, Int.reduceLE, Int.reduceLT, ↓reduceIte, Int.reduceBEq, Int.reduceBNe, Int.reduceAdd, Int.reduceSub, Int.reduceMul, q1]; try refine okTr_and rfl ?_)
    refine CallK.p (legacy_numbered base F.2 b0 b1 hr.1 (by omega)) ?_
    cases h2 : fitsB base F.2 with
    | false =>
      rw [h2] at yes
      rw [yes (.inr rfl)]
      (simp only [go_sem, Nat.reduceAdd, Nat.reduceMul, Int.reduceToNat, Nat.reduceLeDiff, Int.reduceLE, Int.reduceLT, ↓reduceIte, Int.reduceBEq, Int.reduceBNe, Int.reduceAdd, Int.reduceSub, Int.reduceMul]; try refine okTr_and rfl ?_)
      refine CallK.u1 (Reader_Fail F.1 3 s.at_ 0) rfl ?_; (simp only [go_sem, Nat.reduceAdd, Nat.reduceMul, Int.reduceToNat, Nat.reduceLeDiff, Int.reduceLE, Int.reduceLT, ↓reduceIte, Int.reduceBEq, Int.reduceBNe, Int.reduceAdd, Int.reduceSub, Int.reduceMul]; try refine okTr_and rfl ?_)
      exact FinK.finA r31 [0]
    | true =>
      rw [h2] at no
      rw [no (by rintro (h | h); exact h1 h; cases h)]
      (simp only [go_sem, Nat.reduceAdd, Nat.reduceMul, Int.reduceToNat, Nat.reduceLeDiff, Int.reduceLE, Int.reduceLT, ↓reduceIte, Int.reduceBEq, Int.reduceBNe, Int.reduceAdd, Int.reduceSub, Int.reduceMul]; try refine okTr_and rfl ?_)
      exact FinK.finA r31 [0]
theorem legacy_counted (s : RS) (base least most : Int) (i : Nat) (hs : ROk s) (b0 : 0 ≤ base) (b1 : base < 18446744073709551616) (m1 : most ≤ 1000000) : Ct Tryz.prog 31 [.ref i 0, uA base, iA least, iA most] [(i, rdr s)] (fun _ => iA (s.cnt base least most).2) [(i, rdr ((s.cnt base least most).1))] (fun _ => []) := Ct.u1 (legacy_counted0 s base least most hs b0 b1 m1) i cl (fun ρ => rdr_ren ρ _) (fun ρ => rdr_ren ρ _) (rdr_dead _) cl
theorem oback_fail {s : RS} (hs : ROk s) (pos : Int) (p0 : 0 ≤ pos) : (pos < s.vint.1.vint.2 → s.oback pos = s.vint.1.vint.1.fail 3 s.vint.1.at_) ∧ (¬ pos < s.vint.1.vint.2 → s.oback pos = s.vint.1.vint.1) := by
  unfold RS.oback
  refine ⟨fun h => ?_, fun h => by rw [if_neg (fun hh => h hh.2)]⟩
  by_cases hc : s.vint.1.vint.1.code = 0
  · rw [if_pos ⟨hc, h⟩]
  · have := vint_zero hc
    omega
theorem oldV_ok {s : RS} (hs : ROk s) {pos : Int} (p0 : 0 ≤ pos) {d : List Int} : (oldV s pos d).data = d := by unfold oldV; split <;> rfl
set_option maxHeartbeats 1000000 in
theorem legacy_old0 (s : RS) (pos m : Int) (hs : ROk s) (p0 : 0 ≤ pos) (p1 : pos < 18446744073709551616) (m1 : m < 9223372036854775808) : Does Tryz.prog 34 [.ref 0 0, uA pos, iA m] [rdr s] (oA (oldV s pos ((s.oback pos).blob m).2)) [rdr (((s.oback pos).blob m).1)] := by
  obtain ⟨v1, v2⟩ := hs.vint
  obtain ⟨w1, w2⟩ := v1.vint
  have r1 := vint_range (s := s) hs.bys
  have r2 := vint_range (s := s.vint.1) v1.bys
  obtain ⟨ok1, ok2⟩ := oback_keep hs pos
  obtain ⟨of1, of2⟩ := oback_fail hs pos p0
  have hV : oldV s pos ((s.oback pos).blob m).2 = if 0 < s.vint.1.vint.2 ∧ (s.oback pos).code = 0 then ⟨s.vint.2, pos - s.vint.1.vint.2, true, ((s.oback pos).blob m).2⟩ else ⟨s.vint.2, 0, false, ((s.oback pos).blob m).2⟩ := rfl
  have hpos : (s.oback pos).code = 0 → s.vint.1.vint.2 ≤ pos := fun h => (oback_is h).2.1
  obtain ⟨B, hB⟩ : ∃ B, s.oback pos = B := ⟨_, rfl⟩
  rw [hB] at ok1 hV hpos of1 of2
  rw [hB, hV]
  obtain ⟨D, hD⟩ : ∃ D, B.blob m = D := ⟨_, rfl⟩
  rw [hD]
  have key : ∀ (tail : Prop), tail → tail := fun _ h => h
  refine Does.runA Tryz.func34 b34 n34 Tryz.ntmps34 ?_; simp only [c34, go_sem, Nat.reduceAdd, Nat.reduceMul, Int.reduceToNat, Nat.reduceLeDiff, Int.reduceLE, Int.reduceLT, ↓reduceIte, Int.reduceBEq, Int.reduceBNe, Int.reduceAdd, Int.reduceSub, Int.reduceMul]; try refine okTr_and rfl ?_
  refine CallK.u1 (varint_Read s 0 hs.ok hs.bys) rfl ?_; (simp only [go_sem, Nat.reduceAdd, Nat.reduceMul, Int.reduceToNat, Nat.reduceLeDiff, Int.reduceLE, Int.reduceLT, ↓reduceIte, Int.reduceBEq, Int.reduceBNe, Int.reduceAdd, Int.reduceSub, Int.reduceMul]; try refine okTr_and rfl ?_)
  refine CallK.r1 (Reader_At s.vint.1 0) rfl ?_; (simp only [go_sem, Nat.reduceAdd, Nat.reduceMul, Int.reduceToNat, Nat.reduceLeDiff, Int.reduceLE, Int.reduceLT, ↓reduceIte, Int.reduceBEq, Int.reduceBNe, Int.reduceAdd, Int.reduceSub, Int.reduceMul]; try refine okTr_and rfl ?_)
  refine CallK.u1 (varint_Read s.vint.1 0 v1.ok v1.bys) rfl ?_; (simp only [go_sem, Nat.reduceAdd, Nat.reduceMul, Int.reduceToNat, Nat.reduceLeDiff, Int.reduceLE, Int.reduceLT, ↓reduceIte, Int.reduceBEq, Int.reduceBNe, Int.reduceAdd, Int.reduceSub, Int.reduceMul]; try refine okTr_and rfl ?_)
  by_cases hp : pos < s.vint.1.vint.2
  · have q1 : decide (pos < s.vint.1.vint.2) = true := decide_eq_true hp
    have q2 : decide (0 < s.vint.1.vint.2) = true := decide_eq_true (by omega)
    have hc : ¬ B.code = 0 := fun h => by have := hpos h; omega
    have hg : B.good = false := by unfold RS.good; simpa using hc
    rw [if_neg (fun hh => hc hh.2)]
    have e := of1 hp
    (simp only [go_sem, Nat.reduceAdd, Nat.reduceMul, Int.reduceToNat, Nat.reduceLeDiff, Int.reduceLE, Int.reduceLT, ↓reduceIte, Int.reduceBEq, Int.reduceBNe, Int.reduceAdd, Int.reduceSub, Int.reduceMul, q1]; try refine okTr_and rfl ?_)
    refine CallK.u1 (Reader_Fail s.vint.1.vint.1 3 s.vint.1.at_ 0) rfl ?_; (simp only [go_sem, Nat.reduceAdd, Nat.reduceMul, Int.reduceToNat, Nat.reduceLeDiff, Int.reduceLE, Int.reduceLT, ↓reduceIte, Int.reduceBEq, Int.reduceBNe, Int.reduceAdd, Int.reduceSub, Int.reduceMul, q2, ← e]; try refine okTr_and rfl ?_)
    refine CallK.r1 (Reader_Good B 0) rfl ?_; (simp only [go_sem, Nat.reduceAdd, Nat.reduceMul, Int.reduceToNat, Nat.reduceLeDiff, Int.reduceLE, Int.reduceLT, ↓reduceIte, Int.reduceBEq, Int.reduceBNe, Int.reduceAdd, Int.reduceSub, Int.reduceMul, hg]; try refine okTr_and rfl ?_)
    refine CallK.u1 (blob_Read B m 0 m1 ok1) rfl ?_; (simp only [go_sem, Nat.reduceAdd, Nat.reduceMul, Int.reduceToNat, Nat.reduceLeDiff, Int.reduceLE, Int.reduceLT, ↓reduceIte, Int.reduceBEq, Int.reduceBNe, Int.reduceAdd, Int.reduceSub, Int.reduceMul, hD]; try refine okTr_and rfl ?_)
    exact FinK.finA r34 [0]
  · have q1 : decide (pos < s.vint.1.vint.2) = false := decide_eq_false hp
    have e := of2 hp
    by_cases h0 : 0 < s.vint.1.vint.2
    · have q2 : decide (0 < s.vint.1.vint.2) = true := decide_eq_true h0
      (simp only [go_sem, Nat.reduceAdd, Nat.reduceMul, Int.reduceToNat, Nat.reduceLeDiff, Int.reduceLE, Int.reduceLT, ↓reduceIte, Int.reduceBEq, Int.reduceBNe, Int.reduceAdd, Int.reduceSub, Int.reduceMul, q1, q2, ← e]; try refine okTr_and rfl ?_)
      refine CallK.r1 (Reader_Good B 0) rfl ?_; (simp only [go_sem, Nat.reduceAdd, Nat.reduceMul, Int.reduceToNat, Nat.reduceLeDiff, Int.reduceLE, Int.reduceLT, ↓reduceIte, Int.reduceBEq, Int.reduceBNe, Int.reduceAdd, Int.reduceSub, Int.reduceMul]; try refine okTr_and rfl ?_)
      by_cases hc : B.code = 0
      · have hg : B.good = true := by unfold RS.good; simpa using hc
        have w : IntKind.u64.wrap (pos - s.vint.1.vint.2) = pos - s.vint.1.vint.2 := IntWalk.u64_in _ (by omega)
        rw [if_pos ⟨h0, hc⟩]
        (simp only [go_sem, Nat.reduceAdd, Nat.reduceMul, Int.reduceToNat, Nat.reduceLeDiff, Int.reduceLE, Int.reduceLT, ↓reduceIte, Int.reduceBEq, Int.reduceBNe, Int.reduceAdd, Int.reduceSub, Int.reduceMul, hg, w]; try refine okTr_and rfl ?_)
        refine CallK.u1 (blob_Read B m 0 m1 ok1) rfl ?_; (simp only [go_sem, Nat.reduceAdd, Nat.reduceMul, Int.reduceToNat, Nat.reduceLeDiff, Int.reduceLE, Int.reduceLT, ↓reduceIte, Int.reduceBEq, Int.reduceBNe, Int.reduceAdd, Int.reduceSub, Int.reduceMul, hD]; try refine okTr_and rfl ?_)
        exact FinK.finA r34 [0]
      · have hg : B.good = false := by unfold RS.good; simpa using hc
        rw [if_neg (fun hh => hc hh.2)]
        (simp only [go_sem, Nat.reduceAdd, Nat.reduceMul, Int.reduceToNat, Nat.reduceLeDiff, Int.reduceLE, Int.reduceLT, ↓reduceIte, Int.reduceBEq, Int.reduceBNe, Int.reduceAdd, Int.reduceSub, Int.reduceMul, hg]; try refine okTr_and rfl ?_)
        refine CallK.u1 (blob_Read B m 0 m1 ok1) rfl ?_; (simp only [go_sem, Nat.reduceAdd, Nat.reduceMul, Int.reduceToNat, Nat.reduceLeDiff, Int.reduceLE, Int.reduceLT, ↓reduceIte, Int.reduceBEq, Int.reduceBNe, Int.reduceAdd, Int.reduceSub, Int.reduceMul, hD]; try refine okTr_and rfl ?_)
        exact FinK.finA r34 [0]
    · have q2 : decide (0 < s.vint.1.vint.2) = false := decide_eq_false h0
      rw [if_neg (fun hh => h0 hh.1)]
      (simp only [go_sem, Nat.reduceAdd, Nat.reduceMul, Int.reduceToNat, Nat.reduceLeDiff, Int.reduceLE, Int.reduceLT, ↓reduceIte, Int.reduceBEq, Int.reduceBNe, Int.reduceAdd, Int.reduceSub, Int.reduceMul, q1, q2, ← e]; try refine okTr_and rfl ?_)
      refine CallK.u1 (blob_Read B m 0 m1 ok1) rfl ?_; (simp only [go_sem, Nat.reduceAdd, Nat.reduceMul, Int.reduceToNat, Nat.reduceLeDiff, Int.reduceLE, Int.reduceLT, ↓reduceIte, Int.reduceBEq, Int.reduceBNe, Int.reduceAdd, Int.reduceSub, Int.reduceMul, hD]; try refine okTr_and rfl ?_)
      exact FinK.finA r34 [0]
theorem legacy_old (s : RS) (pos m : Int) (i : Nat) (hs : ROk s) (p0 : 0 ≤ pos) (p1 : pos < 18446744073709551616) (m1 : m < 9223372036854775808) : Ct Tryz.prog 34 [.ref i 0, uA pos, iA m] [(i, rdr s)] (fun _ => oA (oldV s pos ((s.oback pos).blob m).2)) [(i, rdr (((s.oback pos).blob m).1))] (fun _ => []) := Ct.u1 (legacy_old0 s pos m hs p0 p1 m1) i cl (fun ρ => rdr_ren ρ _) (fun ρ => rdr_ren ρ _) (rdr_dead _) cl
end Go.Proofs.YtnfagphepkeedaaGreat
end
section
namespace Go.Proofs.YtnfagphepkeedaaGreat
open Go.RowKit

abbrev hdO (h : Hd) : AObj := .cells [iA h.ver, uA h.ep, uA h.base]
abbrev ptO (r : Nat) : AObj := .cells [.ref r 0]
abbrev inO (n : Int) : AObj := .cells [iA n]
def got1 (s : RS) (u : Sg1) : Sg1 × (Int × Int) := if s.code = 0 then (u, (0, 0)) else (sg10, (s.code, s.fat))
theorem legacy_got10 (s : RS) (u : Sg1) : Does Tryz.prog 40 [.ref 0 0, sg1A u] [rdr s] (.tup [sg1A (got1 s u).1, fltA (got1 s u).2]) [rdr (s)] := by
  refine Does.runA Tryz.func40 b40 n40 Tryz.ntmps40 ?_; simp only [c40, go_sem, Nat.reduceAdd, Nat.reduceMul, Int.reduceToNat, Nat.reduceLeDiff, Int.reduceLE, Int.reduceLT, ↓reduceIte, Int.reduceBEq, Int.reduceBNe, Int.reduceAdd, Int.reduceSub, Int.reduceMul]; try refine okTr_and rfl ?_
  refine CallK.r1 (Reader_Fault s 0) rfl ?_; (simp only [go_sem, Nat.reduceAdd, Nat.reduceMul, Int.reduceToNat, Nat.reduceLeDiff, Int.reduceLE, Int.reduceLT, ↓reduceIte, Int.reduceBEq, Int.reduceBNe, Int.reduceAdd, Int.reduceSub, Int.reduceMul]; try refine okTr_and rfl ?_)
  refine CallK.p (fault_Good s.code s.fat) ?_
  by_cases hc : s.code = 0
  · have q : (s.code == 0) = true := by simpa using hc
    have e : got1 s u = (u, (0, 0)) := by unfold got1; rw [if_pos hc]
    rw [e]
    (simp only [go_sem, Nat.reduceAdd, Nat.reduceMul, Int.reduceToNat, Nat.reduceLeDiff, Int.reduceLE, Int.reduceLT, ↓reduceIte, Int.reduceBEq, Int.reduceBNe, Int.reduceAdd, Int.reduceSub, Int.reduceMul, q]; try refine okTr_and rfl ?_)
    exact FinK.finA r40 [0]
  · have q : (s.code == 0) = false := by simpa using hc
    have e : got1 s u = (sg10, (s.code, s.fat)) := by unfold got1; rw [if_neg hc]
    rw [e]
    (simp only [go_sem, Nat.reduceAdd, Nat.reduceMul, Int.reduceToNat, Nat.reduceLeDiff, Int.reduceLE, Int.reduceLT, ↓reduceIte, Int.reduceBEq, Int.reduceBNe, Int.reduceAdd, Int.reduceSub, Int.reduceMul, q]; try refine okTr_and rfl ?_)
    (refine FinK.wao (ys := [uA 0, uA 0, slO []]) 2 rfl (by repeat (first | exact Wa.refl _ | exact WaL.nil | exact Wa.nil | exact Wa.none | refine WaL.cons ?_ ?_ | refine Wa.agg ?_ | refine Wa.slN ?_ | refine Wa.slS ?_ | exact WaL.refl _)) ?_; simp only [List.set_cons_zero, List.set_cons_succ])
    ((refine FinK.finB r40 [0] ?_ ?_); (· first | with_reducible rfl | (simp [sg10, o1s_nil]; done) | rfl); (· simp [resAL, resA1, loadA, oneOr, sg10, o1s_nil]))
theorem legacy_got1 (s : RS) (u : Sg1) (i : Nat) : Ct Tryz.prog 40 [.ref i 0, sg1A u] [(i, rdr s)] (fun _ => .tup [sg1A (got1 s u).1, fltA (got1 s u).2]) [] (fun _ => []) :=
  Ct.r1 (legacy_got10 s u) i cl (fun ρ => rdr_ren ρ s) (rdr_dead s) cl
theorem blob_len2 {s : RS} (hs : ROk s) {m : Int} (m0 : 0 ≤ m) : ((s.blob m).2.length : Int) ≤ m := by
  by_cases hc : (s.blob m).1.code = 0
  · exact (blob_is hs hc).2.1
  · rw [blob_bad hc]; simpa using m0
theorem legacy_Decode110 (t : RS) (h : Hd) (k : Nat) (left pos : Int) (ht : ROk t) (hp : IntKind.u64.wrap (h.base + k) = pos) (hk : k ≤ 1000000) (p0 : 0 ≤ pos) (p1 : pos < 18446744073709551616) (l0 : 0 ≤ left) (l1 : left ≤ 1048576) :
    Does Tryz.prog 33 [iA k, .ref 1 0, .ref 2 0, .ref 3 0] [rdr t, ptO 0, hdO h, inO left] (oA (oldV t pos ((t.oback pos).blob left).2)) [rdr ((t.oback pos).blob left).1, ptO 0, hdO h, inO (left - ((t.oback pos).blob left).2.length)] := by
  have w0 : IntKind.u64.wrap (k : Int) = k := IntWalk.u64_in _ (by omega)
  have hl := blob_len2 (oback_keep ht pos).1 (m := left) l0
  have hd := oldV_ok ht p0 (d := ((t.oback pos).blob left).2)
  obtain ⟨D, hD⟩ : ∃ D, (t.oback pos).blob left = D := ⟨_, rfl⟩
  have hol := legacy_old t pos left 0 ht p0 p1 (by omega)
  rw [hD] at hl hd hol ⊢
  obtain ⟨V, hV⟩ : ∃ V, oldV t pos D.2 = V := ⟨_, rfl⟩
  rw [hV] at hd hol ⊢
  have w1 : IntKind.i64.wrap (left - (V.data.length : Int)) = left - (D.2.length : Int) := by rw [hd, IntWalk.i64_in _ (by omega)]
  refine Does.runA Tryz.func33 b33 n33 Tryz.ntmps33 ?_; simp only [c33, go_sem, Nat.reduceAdd, Nat.reduceMul, Int.reduceToNat, Nat.reduceLeDiff, Int.reduceLE, Int.reduceLT, ↓reduceIte, Int.reduceBEq, Int.reduceBNe, Int.reduceAdd, Int.reduceSub, Int.reduceMul, w0, hp]; try refine okTr_and rfl ?_
  refine CallK.u1 (hol) rfl ?_; (simp only [go_sem, Nat.reduceAdd, Nat.reduceMul, Int.reduceToNat, Nat.reduceLeDiff, Int.reduceLE, Int.reduceLT, ↓reduceIte, Int.reduceBEq, Int.reduceBNe, Int.reduceAdd, Int.reduceSub, Int.reduceMul, ints_length, w1]; try refine okTr_and rfl ?_)
  exact FinK.finA r33 [0, 1, 2, 3]
theorem legacy_Decode11 (t : RS) (h : Hd) (k : Nat) (left pos : Int) (r b c d : Nat) (hn : [r, b, c, d].Nodup) (ht : ROk t) (hp : IntKind.u64.wrap (h.base + k) = pos) (hk : k ≤ 1000000) (p0 : 0 ≤ pos) (p1 : pos < 18446744073709551616) (l0 : 0 ≤ left) (l1 : left ≤ 1048576) :
    Ct Tryz.prog 33 [iA k, .ref b 0, .ref c 0, .ref d 0] [(r, rdr t), (b, ptO r), (c, hdO h), (d, inO left)] (fun _ => oA (oldV t pos ((t.oback pos).blob left).2)) [(r, rdr ((t.oback pos).blob left).1), (b, ptO r), (c, hdO h), (d, inO (left - ((t.oback pos).blob left).2.length))] (fun _ => []) :=
  Ct.u4 (legacy_Decode110 t h k left pos ht hp hk p0 p1 l0 l1) r b c d hn cl cl cl cl cl cl cl cl cl (by simp [rdr]) cl
set_option maxHeartbeats 1000000 in
set_option maxRecDepth 100000 in
theorem legacy_many10 (u : RS) (h : Hd) (N : Nat) (hu : ROk u) (b0 : 0 ≤ h.base) (b1 : h.base < 18446744073709551616) (hN : N ≤ 1000000) (hf : u.code = 0 → h.base + N ≤ 4611686018427387904) (hn : u.l.length * 48 ≤ 100000000000000) :
    Does Tryz.prog 32 [.ref 0 0, iA N, .fn 33 [] [.ref 1 0, .ref 2 0, .ref 3 0]] [rdr u, ptO 0, hdO h, inO 1048576] (slO ((oldF h.base).many N u []).2) [rdr ((oldF h.base).many N u []).1, ptO 0, hdO h, .cells [.any]] := by
  have hF := oldF_ok b0
  refine Does.runA Tryz.func32 b32 n32 Tryz.ntmps32 ?_; simp only [c32, go_sem, Nat.reduceAdd, Nat.reduceMul, Int.reduceToNat, Nat.reduceLeDiff, Int.reduceLE, Int.reduceLT, ↓reduceIte, Int.reduceBEq, Int.reduceBNe, Int.reduceAdd, Int.reduceSub, Int.reduceMul]; try refine okTr_and rfl ?_
  refine loop_of (α := RS × List O1) (fun a => [.ref 0 0, .any, .fn 33 [] [.ref 1 0, .ref 2 0, .ref 3 0], .any, .any, .any, .any, .sl (.row 4) 4 (o1s a.2), .any, .any, iA N, iA a.2.length, .any, .any, .any, .any, .any, .any, .any, .any, .any, .any, .any, .any, .any, .any]) (fun a => [rdr a.1, ptO 0, hdO h, inO (1048576 - sumO a.2), .row 4 a.2.length]) (fun a => (oldF h.base).On u N a ∧ (a.1.code = 0 → u.code = 0)) (fun a => N - a.2.length) (u, []) ⟨Fmt.On.start hu N, fun h => h⟩ ((Wk.row 7 4 rfl (.inr rfl) (by decide)).trans (Wk.to (by simp [sumO]) (by simp [leT, o1s]))) ?_
  rintro ⟨t, acc⟩ ⟨ho, hor⟩
  have hla := ho.len
  have h1 := ho.ok
  have h2 := ho.l
  have h6 := ho.res
  have hwf := ho.wf
  simp only at h1 h2 h6 hwf hor
  have hsum := old_sum hwf
  have hs0 := sumO_ge acc
  (simp only [go_sem, Nat.reduceAdd, Nat.reduceMul, Int.reduceToNat, Nat.reduceLeDiff, Int.reduceLE, Int.reduceLT, ↓reduceIte, Int.reduceBEq, Int.reduceBNe, Int.reduceAdd, Int.reduceSub, Int.reduceMul]; try refine okTr_and rfl ?_)
  by_cases hlt : acc.length < N
  · have q0 : decide ((acc.length : Int) < (N : Int)) = true := decide_eq_true (by omega)
    have ei := i64_succ acc.length (by omega)
    obtain ⟨pos, hpos⟩ : ∃ pos, IntKind.u64.wrap (h.base + (acc.length : Int)) = pos := ⟨_, rfl⟩
    have hpr : 0 ≤ pos ∧ pos < 18446744073709551616 := by
      rw [← hpos, IntKind.wrap_u64]; omega
    have hcl := legacy_Decode11 t h acc.length (1048576 - sumO acc) pos 0 1 2 3 (by decide) h1 hpos (by omega) hpr.1 hpr.2 (by omega) (by omega)
    have hff : ((oldF h.base).f t acc).1 = ((t.oback pos).blob (1048576 - sumO acc)).1 ∧ (((t.oback pos).blob (1048576 - sumO acc)).1.code = 0 → ((oldF h.base).f t acc).2 = oldV t pos ((t.oback pos).blob (1048576 - sumO acc)).2) := by
      by_cases hc0 : t.code = 0
      · have hg : h.base + (acc.length : Int) < 4611686018427387904 := by
          have := hf (hor hc0)
          omega
        have hpe : pos = h.base + (acc.length : Int) := by rw [← hpos]; exact IntWalk.u64_in _ (by omega)
        rw [oldF_f hg, ← hpe]
        exact ⟨rfl, fun _ => rfl⟩
      · rw [oldF_code h.base t acc hc0]
        have ho2 : t.oback pos = t := by
          unfold RS.oback
          rw [vint_bad hc0]; simp only
          rw [vint_bad hc0]; simp only
          rw [if_neg (fun h => hc0 h.1)]
        rw [ho2, blob_code hc0]
        exact ⟨rfl, fun hh => absurd hh hc0⟩
    have hdt := oldV_ok h1 hpr.1 (d := ((t.oback pos).blob (1048576 - sumO acc)).2)
    obtain ⟨D, hD⟩ : ∃ D, (t.oback pos).blob (1048576 - sumO acc) = D := ⟨_, rfl⟩
    rw [hD] at hff hcl hdt
    obtain ⟨V, hV⟩ : ∃ V, oldV t pos D.2 = V := ⟨_, rfl⟩
    rw [hV] at hff hcl hdt
    obtain ⟨hf1, hf2⟩ := hff
    (simp only [go_sem, Nat.reduceAdd, Nat.reduceMul, Int.reduceToNat, Nat.reduceLeDiff, Int.reduceLE, Int.reduceLT, ↓reduceIte, Int.reduceBEq, Int.reduceBNe, Int.reduceAdd, Int.reduceSub, Int.reduceMul, q0]; try refine okTr_and rfl ?_)
    refine CallK.u4 hcl rfl rfl rfl rfl ?_
    (simp only [go_sem, Nat.reduceAdd, Nat.reduceMul, Int.reduceToNat, Nat.reduceLeDiff, Int.reduceLE, Int.reduceLT, ↓reduceIte, Int.reduceBEq, Int.reduceBNe, Int.reduceAdd, Int.reduceSub, Int.reduceMul]; try refine okTr_and rfl ?_)
    refine CallK.r1 (Reader_Good D.1 0) rfl ?_; (simp only [go_sem, Nat.reduceAdd, Nat.reduceMul, Int.reduceToNat, Nat.reduceLeDiff, Int.reduceLE, Int.reduceLT, ↓reduceIte, Int.reduceBEq, Int.reduceBNe, Int.reduceAdd, Int.reduceSub, Int.reduceMul]; try refine okTr_and rfl ?_)
    by_cases hc : D.1.code = 0
    · have hg : D.1.good = true := by unfold RS.good; simpa using hc
      have hnx := ho.next hF hlt (by rw [hf1]; exact hc)
      rw [hf1, hf2 hc] at hnx
      have hrd := (hF.read t acc h1 hwf (by rw [hf1]; exact hc)).1
      have hss := sumO_snoc acc V
      have e1 : 1048576 - sumO acc - (D.2.length : Int) = 1048576 - sumO (acc ++ [V]) := by rw [hss, hdt]; omega
      (simp only [go_sem, Nat.reduceAdd, Nat.reduceMul, Int.reduceToNat, Nat.reduceLeDiff, Int.reduceLE, Int.reduceLT, ↓reduceIte, Int.reduceBEq, Int.reduceBNe, Int.reduceAdd, Int.reduceSub, Int.reduceMul, hg, o1s_snoc, o1s_length, ei, e1]; try refine okTr_and rfl ?_)
      (repeat ((with_reducible refine And.intro ?_ ?_); (· exact sd)))
      exact ⟨(D.1, acc ++ [V]), ⟨hnx, fun _ => hor hrd⟩, by simp; omega, Wk.sel [0, 1, 2, 3, 4] (by simp) rfl (by simp) rfl (by simp [ixs_z, rdr_ren]) (by simp [selT, ixs_z, ixs])⟩
    · have hg : D.1.good = false := by unfold RS.good; simpa using hc
      have hb := many_bad (F := oldF h.base) (s := t) hlt (by rw [hf1]; exact hc)
      rw [h6, hf1] at hb
      rw [hb]
      (simp only [go_sem, Nat.reduceAdd, Nat.reduceMul, Int.reduceToNat, Nat.reduceLeDiff, Int.reduceLE, Int.reduceLT, ↓reduceIte, Int.reduceBEq, Int.reduceBNe, Int.reduceAdd, Int.reduceSub, Int.reduceMul, hg]; try refine okTr_and rfl ?_)
      (refine FinK.nilk 6 4 rfl ?_; simp only [List.set_cons_zero, List.set_cons_succ])
      refine FinK.wao (ys := [.any]) 3 rfl (WaL.cons (Wa.anyL _) WaL.nil) ?_
      simp only [List.set_cons_zero, List.set_cons_succ]
      ((refine FinK.finB r32 [0, 1, 2, 3] ?_ ?_); (· first | with_reducible rfl | (simp [o1s_nil]; done) | rfl); (· simp [resAL, resA1, loadA, oneOr, o1s_nil]))
  · have q0 : decide ((acc.length : Int) < (N : Int)) = false := decide_eq_false (by omega)
    have he := many_end (F := oldF h.base) (s := t) (acc := acc) (N := N) (by omega)
    rw [h6] at he
    rw [he]
    (simp only [go_sem, Nat.reduceAdd, Nat.reduceMul, Int.reduceToNat, Nat.reduceLeDiff, Int.reduceLE, Int.reduceLT, ↓reduceIte, Int.reduceBEq, Int.reduceBNe, Int.reduceAdd, Int.reduceSub, Int.reduceMul, q0]; try refine okTr_and rfl ?_)
    (refine FinK.untag 6 rfl ?_; simp only [untag1_sl, List.set_cons_zero, List.set_cons_succ])
    refine FinK.wao (ys := [.any]) 3 rfl (WaL.cons (Wa.anyL _) WaL.nil) ?_
    simp only [List.set_cons_zero, List.set_cons_succ]
    exact FinK.finA r32 [0, 1, 2, 3]
theorem legacy_many1 (u : RS) (h : Hd) (N : Nat) (hu : ROk u) (b0 : 0 ≤ h.base) (b1 : h.base < 18446744073709551616) (hN : N ≤ 1000000) (hf : u.code = 0 → h.base + N ≤ 4611686018427387904) (hn : u.l.length * 48 ≤ 100000000000000) (r b c d : Nat) (hnd : [r, b, c, d].Nodup) :
    Ct Tryz.prog 32 [.ref r 0, iA N, .fn 33 [] [.ref b 0, .ref c 0, .ref d 0]] [(r, rdr u), (b, ptO r), (c, hdO h), (d, inO 1048576)] (fun _ => slO ((oldF h.base).many N u []).2) [(r, rdr ((oldF h.base).many N u []).1), (b, ptO r), (c, hdO h), (d, .cells [.any])] (fun _ => []) :=
  Ct.u4 (legacy_many10 u h N hu b0 b1 hN hf hn) r b c d hnd cl cl cl cl cl cl cl cl cl (by simp [rdr]) cl
theorem crcI_nonneg {l : List Int} (h : Bys l) : 0 ≤ crcI l ∧ crcI l < 4294967296 := by
  have := crcI_range h
  exact ⟨this.1, by simpa using this.2⟩
theorem header_base {s : RS} (hs : ROk s) : 0 ≤ s.header.2.base ∧ s.header.2.base < 18446744073709551616 := by
  by_cases hc : s.header.1.code = 0
  · obtain ⟨i1, i2, i3, i4, i5⟩ := header_is hs hc
    have := (rightH_iff.1 i2).2.2.1
    exact ⟨i3, by omega⟩
  · rw [header_bad hc]; exact ⟨by decide, by decide⟩
theorem from_sub {s t : RS} (h0 : 0 ≤ s.at_) (h1 : s.at_ ≤ t.at_) (hl : t.l = s.l) : (t.l.drop s.at_.toNat).take (t.at_ - s.at_).toNat = s.from t := by
  unfold RS.from
  rw [hl, show (t.at_ - s.at_).toNat = t.at_.toNat - s.at_.toNat by omega]
theorem many_at {β : Type} {F : Fmt β} (hF : ∀ s acc, ROk s → s.at_ ≤ (F.f s acc).1.at_ ∧ ROk (F.f s acc).1) : ∀ (N : Nat) (s : RS) (acc : List β), ROk s → s.at_ ≤ (F.many N s acc).1.at_ := by
  intro N
  induction N with
  | zero => intro s acc _; exact Int.le_refl _
  | succ N ih =>
    intro s acc h
    have h1 := hF s acc h
    simp only [Fmt.many]
    split
    · have := ih (F.f s acc).1 (acc ++ [(F.f s acc).2]) h1.2
      omega
    · exact h1.1
theorem skip_le {s : RS} (n : Int) : s.at_ ≤ (s.skip n).1.at_ := by
  unfold RS.skip
  repeat' split
  all_goals first | omega | (simp only [fail_at]; omega)
theorem take_le {s : RS} (n : Int) : s.at_ ≤ (s.take n).1.at_ := by unfold RS.take; split <;> exact skip_le n
theorem int_le {s : RS} (h : ROk s) (m : Int) : s.at_ ≤ (s.int m).1.at_ := by
  have hv := vint_le h
  unfold RS.int RS.most
  split
  · split
    · simp only [fail_at]; exact hv
    · exact hv
  · simp only [fail_at]; exact hv
theorem blob_le {s : RS} (h : ROk s) (m : Int) : s.at_ ≤ (s.blob m).1.at_ := by
  have h1 := int_le h m
  have h2 := take_le (s := (s.int m).1) (s.int m).2
  unfold RS.blob; omega
theorem oback_le {s : RS} (h : ROk s) (pos : Int) : s.at_ ≤ (s.oback pos).at_ := by
  have h1 := vint_le h
  have h2 := vint_le h.vint.1
  unfold RS.oback
  split
  · rw [fail_at]; omega
  · omega
theorem cnt_le {s : RS} (h : ROk s) (base least most : Int) : s.at_ ≤ (s.cnt base least most).1.at_ := by
  have := int_le h most
  unfold RS.cnt
  split
  · simp only [fail_at]; exact this
  · exact this
theorem olds_le {s : RS} (h : ROk s) {base : Int} (b0 : 0 ≤ base) : s.at_ ≤ (s.olds base).1.at_ := by
  have h1 := cnt_le h base 0 400
  have h2 := many_at (F := oldF base) (fun s acc hs => by
    simp only [oldF]
    split
    · have k := oback_keep hs (base + acc.length)
      have e1 := oback_le hs (base + acc.length)
      have e2 := blob_le k.1 (1048576 - sumO acc)
      exact ⟨by simp only; omega, (RS.ok.blob k.1 _).1⟩
    · exact ⟨by simp only [fail_at]; omega, hs.fail _ _⟩) (s.cnt base 0 400).2.toNat (s.cnt base 0 400).1 [] (cnt_keep h base 0 400).1
  unfold RS.olds; omega
set_option maxHeartbeats 1000000 in
set_option maxRecDepth 100000 in
theorem legacy_Decode10 (b : List Int) (hb : Bys b) (hn : b.length ≤ 1000000) : Does Tryz.prog 8 [slA .u8 b] [] (.tup [sg1A (dec1 b).1, fltA (dec1 b).2]) [] := by
  have hok : ROk (RS.new b) := ROk.new hb (by omega)
  have hbk := begin_keep hok 1
  have hhb := header_base hok
  have hck := cnt_keep hbk.1 (RS.new b).header.2.base 0 400
  have hcr := int_range (s := (RS.new b).begin 1) (m := 400) hbk.1.bys
  have hcs := cnt_snd ((RS.new b).begin 1) (RS.new b).header.2.base 0 400
  have hci := fun hc => (cnt_is hbk.1 (base := (RS.new b).header.2.base) (least := 0) (most := 400) hc)
  have hok2 := olds_keep hbk.1 hhb.1
  have hol := olds_le hbk.1 hhb.1
  have hsk := sum4_keep (s := (RS.new b).begin 1) hok2.1
  have hmk := many_code (F := oldF (RS.new b).header.2.base) (oldF_code _) (N := (((RS.new b).begin 1).cnt (RS.new b).header.2.base 0 400).2.toNat) (s := (((RS.new b).begin 1).cnt (RS.new b).header.2.base 0 400).1)
  have hbl : (RS.new b).l = b := rfl
  have hdef : dec1 b = got1 (RS.new b).dec1.1 (RS.new b).dec1.2 := rfl
  have hd1 : (RS.new b).dec1 = (((RS.new b).begin 1).sum4 (((RS.new b).begin 1).olds (RS.new b).header.2.base).1 |>.rest9, ⟨(RS.new b).header.2.ep, (RS.new b).header.2.base, (((RS.new b).begin 1).olds (RS.new b).header.2.base).2⟩) := rfl
  rw [hdef, hd1]
  have hom : ((RS.new b).begin 1).olds (RS.new b).header.2.base = (oldF (RS.new b).header.2.base).many (((RS.new b).begin 1).cnt (RS.new b).header.2.base 0 400).2.toNat (((RS.new b).begin 1).cnt (RS.new b).header.2.base 0 400).1 [] := rfl
  obtain ⟨H, hH⟩ : ∃ H, (RS.new b).header.2 = H := ⟨_, rfl⟩
  have hbg := legacy_begin (RS.new b) 1 2 hok (by decide)
  rw [hH] at hhb hck hcs hci hok2 hol hsk hmk hom hbg ⊢
  obtain ⟨B, hB⟩ : ∃ B, (RS.new b).begin 1 = B := ⟨_, rfl⟩
  rw [hB] at hbk hck hcr hcs hci hok2 hol hsk hmk hom hbg ⊢
  have hcn := fun i => legacy_counted B H.base 0 400 i hbk.1 hhb.1 hhb.2 (by decide)
  obtain ⟨C, hC⟩ : ∃ C, B.cnt H.base 0 400 = C := ⟨_, rfl⟩
  rw [hC] at hck hcs hci hmk hom hcn
  have hN : C.2 = (C.2.toNat : Int) := by omega
  have hmn := fun r b' c d hnd => legacy_many1 C.1 H C.2.toNat hck.1 hhb.1 hhb.2 (by omega) (fun hc => by have := (hci hc).2.2.2.2.2.1; omega) (by rw [hck.2, hbk.2, hbl]; omega) r b' c d hnd
  rw [← hom, ← hN] at hmn
  obtain ⟨O, hO⟩ : ∃ O, B.olds H.base = O := ⟨_, rfl⟩
  rw [hO] at hok2 hol hsk hmn ⊢
  have hfr := from_sub hbk.1.at0 hol hok2.2
  have hfb : Bys (B.from O.1) := fun x hx => by
    unfold RS.from at hx
    exact hbk.1.bys x (List.mem_of_mem_drop (List.mem_of_mem_take hx))
  have hfl : (B.from O.1).length ≤ 1000000 := by
    unfold RS.from
    have : B.l.length ≤ 1000000 := by rw [hbk.2, hbl]; exact hn
    simp; omega
  have hcrc := crcI_nonneg hfb
  have hs4 : B.sum4 O.1 = if (O.1.fixed 4).1.code = 0 ∧ ¬ (O.1.fixed 4).2 = crcI (B.from O.1) then (O.1.fixed 4).1.fail 6 O.1.at_ else (O.1.fixed 4).1 := rfl
  have hfx : ¬ (O.1.fixed 4).2 = crcI (B.from O.1) → B.sum4 O.1 = (O.1.fixed 4).1.fail 6 O.1.at_ := fun h => by
    rw [hs4]
    by_cases hc : (O.1.fixed 4).1.code = 0
    · rw [if_pos ⟨hc, h⟩]
    · rw [if_neg (fun hh => hc hh.1), fail_stays hc]
  have hfx2 : (O.1.fixed 4).2 = crcI (B.from O.1) → B.sum4 O.1 = (O.1.fixed 4).1 := fun h => by
    rw [hs4, if_neg (fun hh => hh.2 h)]
  have hmin : min (max (4 : Int) 0) 8 = 4 := by decide
  have hrf := blob_ReadFixed O.1 4 2 hok2.1
  rw [hmin] at hrf
  obtain ⟨X, hX⟩ : ∃ X, O.1.fixed 4 = X := ⟨_, rfl⟩
  rw [hX] at hfx hfx2 hrf
  obtain ⟨Y, hY⟩ : ∃ Y, B.sum4 O.1 = Y := ⟨_, rfl⟩
  rw [hY] at hsk hfx hfx2 ⊢
  have wc : IntKind.u64.wrap (crcI (B.from O.1)) = crcI (B.from O.1) := IntWalk.u64_in _ (by omega)
  obtain ⟨Z, hZ⟩ : ∃ Z, crcI (B.from O.1) = Z := ⟨_, rfl⟩
  have hsum := crc_Sum (B.from O.1) hfb (by omega)
  refine Does.runA Tryz.func8 b8 n8 Tryz.ntmps8 ?_; simp only [c8, go_sem, Nat.reduceAdd, Nat.reduceMul, Int.reduceToNat, Nat.reduceLeDiff, Int.reduceLE, Int.reduceLT, ↓reduceIte, Int.reduceBEq, Int.reduceBNe, Int.reduceAdd, Int.reduceSub, Int.reduceMul]; try refine okTr_and rfl ?_
  refine CallK.n (cursor_New b) ?_; (simp only [go_sem, Nat.reduceAdd, Nat.reduceMul, Int.reduceToNat, Nat.reduceLeDiff, Int.reduceLE, Int.reduceLT, ↓reduceIte, Int.reduceBEq, Int.reduceBNe, Int.reduceAdd, Int.reduceSub, Int.reduceMul]; try refine okTr_and rfl ?_)
  refine CallK.u1 (hbg) rfl ?_; (simp only [go_sem, Nat.reduceAdd, Nat.reduceMul, Int.reduceToNat, Nat.reduceLeDiff, Int.reduceLE, Int.reduceLT, ↓reduceIte, Int.reduceBEq, Int.reduceBNe, Int.reduceAdd, Int.reduceSub, Int.reduceMul]; try refine okTr_and rfl ?_)
  refine CallK.r1 (Reader_At B 2) rfl ?_; (simp only [go_sem, Nat.reduceAdd, Nat.reduceMul, Int.reduceToNat, Nat.reduceLeDiff, Int.reduceLE, Int.reduceLT, ↓reduceIte, Int.reduceBEq, Int.reduceBNe, Int.reduceAdd, Int.reduceSub, Int.reduceMul]; try refine okTr_and rfl ?_)
  refine CallK.u1 (hcn 2) rfl ?_; (simp only [go_sem, Nat.reduceAdd, Nat.reduceMul, Int.reduceToNat, Nat.reduceLeDiff, Int.reduceLE, Int.reduceLT, ↓reduceIte, Int.reduceBEq, Int.reduceBNe, Int.reduceAdd, Int.reduceSub, Int.reduceMul]; try refine okTr_and rfl ?_)
  refine CallK.u4 (hmn 2 3 4 5 (by decide)) rfl rfl rfl rfl ?_
  (simp only [go_sem, Nat.reduceAdd, Nat.reduceMul, Int.reduceToNat, Nat.reduceLeDiff, Int.reduceLE, Int.reduceLT, ↓reduceIte, Int.reduceBEq, Int.reduceBNe, Int.reduceAdd, Int.reduceSub, Int.reduceMul]; try refine okTr_and rfl ?_)
  refine CallK.r1 (Reader_At O.1 2) rfl ?_; (simp only [go_sem, Nat.reduceAdd, Nat.reduceMul, Int.reduceToNat, Nat.reduceLeDiff, Int.reduceLE, Int.reduceLT, ↓reduceIte, Int.reduceBEq, Int.reduceBNe, Int.reduceAdd, Int.reduceSub, Int.reduceMul]; try refine okTr_and rfl ?_)
  refine CallK.r1 (Reader_Since O.1 B.at_ 2 hok2.1.ok hbk.1.at0 hol) rfl ?_; (simp only [go_sem, Nat.reduceAdd, Nat.reduceMul, Int.reduceToNat, Nat.reduceLeDiff, Int.reduceLE, Int.reduceLT, ↓reduceIte, Int.reduceBEq, Int.reduceBNe, Int.reduceAdd, Int.reduceSub, Int.reduceMul, hfr]; try refine okTr_and rfl ?_)
  refine CallK.u1 (hrf) rfl ?_; (simp only [go_sem, Nat.reduceAdd, Nat.reduceMul, Int.reduceToNat, Nat.reduceLeDiff, Int.reduceLE, Int.reduceLT, ↓reduceIte, Int.reduceBEq, Int.reduceBNe, Int.reduceAdd, Int.reduceSub, Int.reduceMul]; try refine okTr_and rfl ?_)
  refine CallK.p (hsum) ?_; (simp only [go_sem, Nat.reduceAdd, Nat.reduceMul, Int.reduceToNat, Nat.reduceLeDiff, Int.reduceLE, Int.reduceLT, ↓reduceIte, Int.reduceBEq, Int.reduceBNe, Int.reduceAdd, Int.reduceSub, Int.reduceMul, wc]; try refine okTr_and rfl ?_)
  by_cases h : X.2 = crcI (B.from O.1)
  · have q : (X.2 != crcI (B.from O.1)) = false := by simpa using h
    have e := hfx2 h
    rw [← e]
    (simp only [go_sem, Nat.reduceAdd, Nat.reduceMul, Int.reduceToNat, Nat.reduceLeDiff, Int.reduceLE, Int.reduceLT, ↓reduceIte, Int.reduceBEq, Int.reduceBNe, Int.reduceAdd, Int.reduceSub, Int.reduceMul, q]; try refine okTr_and rfl ?_)
    refine CallK.u1 (Reader_End Y 2 hsk.1) rfl ?_; (simp only [go_sem, Nat.reduceAdd, Nat.reduceMul, Int.reduceToNat, Nat.reduceLeDiff, Int.reduceLE, Int.reduceLT, ↓reduceIte, Int.reduceBEq, Int.reduceBNe, Int.reduceAdd, Int.reduceSub, Int.reduceMul]; try refine okTr_and rfl ?_)
    refine CallK.r1 (legacy_got1 Y.rest9 ⟨H.ep, H.base, O.2⟩ 2) rfl ?_; (simp only [go_sem, Nat.reduceAdd, Nat.reduceMul, Int.reduceToNat, Nat.reduceLeDiff, Int.reduceLE, Int.reduceLT, ↓reduceIte, Int.reduceBEq, Int.reduceBNe, Int.reduceAdd, Int.reduceSub, Int.reduceMul]; try refine okTr_and rfl ?_)
    exact FinK.finA r8 []
  · have q : (X.2 != crcI (B.from O.1)) = true := by simpa using h
    have e := hfx h
    (simp only [go_sem, Nat.reduceAdd, Nat.reduceMul, Int.reduceToNat, Nat.reduceLeDiff, Int.reduceLE, Int.reduceLT, ↓reduceIte, Int.reduceBEq, Int.reduceBNe, Int.reduceAdd, Int.reduceSub, Int.reduceMul, q]; try refine okTr_and rfl ?_)
    refine CallK.u1 (Reader_Fail X.1 6 O.1.at_ 2) rfl ?_; (simp only [go_sem, Nat.reduceAdd, Nat.reduceMul, Int.reduceToNat, Nat.reduceLeDiff, Int.reduceLE, Int.reduceLT, ↓reduceIte, Int.reduceBEq, Int.reduceBNe, Int.reduceAdd, Int.reduceSub, Int.reduceMul, ← e]; try refine okTr_and rfl ?_)
    refine CallK.u1 (Reader_End Y 2 hsk.1) rfl ?_; (simp only [go_sem, Nat.reduceAdd, Nat.reduceMul, Int.reduceToNat, Nat.reduceLeDiff, Int.reduceLE, Int.reduceLT, ↓reduceIte, Int.reduceBEq, Int.reduceBNe, Int.reduceAdd, Int.reduceSub, Int.reduceMul]; try refine okTr_and rfl ?_)
    refine CallK.r1 (legacy_got1 Y.rest9 ⟨H.ep, H.base, O.2⟩ 2) rfl ?_; (simp only [go_sem, Nat.reduceAdd, Nat.reduceMul, Int.reduceToNat, Nat.reduceLeDiff, Int.reduceLE, Int.reduceLT, ↓reduceIte, Int.reduceBEq, Int.reduceBNe, Int.reduceAdd, Int.reduceSub, Int.reduceMul]; try refine okTr_and rfl ?_)
    exact FinK.finA r8 []
theorem legacy_Decode1 (b : List Int) (hb : Bys b) (hn : b.length ≤ 1000000) : Ct Tryz.prog 8 [slA .u8 b] [] (fun _ => .tup [sg1A (dec1 b).1, fltA (dec1 b).2]) [] (fun _ => []) := (legacy_Decode10 b hb hn).toCt cl cl
end Go.Proofs.YtnfagphepkeedaaGreat
end
section
namespace Go.Proofs.YtnfagphepkeedaaGreat
open Go.RowKit

end Go.Proofs.YtnfagphepkeedaaGreat
end
section
namespace Go.Proofs.YtnfagphepkeedaaGreat
open Go.RowKit

end Go.Proofs.YtnfagphepkeedaaGreat
end
section
namespace Go.Proofs.YtnfagphepkeedaaGreat
open Go.RowKit

end Go.Proofs.YtnfagphepkeedaaGreat
end
section
namespace Go.Proofs.YtnfagphepkeedaaGreat
open Go.RowKit

theorem WS.fine.epput {s : WS} (h : s.fine) (x : Int) (b : Bool) : (s.epput x b).fine := by
  unfold WS.epput; split
  · exact h.put _
  · exact h.fail 3
section
variable {P : Program} {S : List AObj} {K : KT} {f : FuncId} {args args₀ : List AV}
theorem CallK.rn2 {r : Nat → AV} {new : Nat → List AObj} {i j : Nat} {o p : AObj} (h : Ct P f (args.map Proofs.YtnfagphepkeedaaGreat.untag) [(i, o), (j, p)] r [] new) (hS : S[i]? = some o) (hS' : S[j]? = some p) (hK : K (r S.length) [i, j] [] (new S.length)) : CallK P f args S K := CallK.of h.untag (by simp [hS, hS']) (by simp) hK
end
theorem Writer_BytesO0 (s : WS) (hc : s.code = 0) (hb : s.l.length ≤ 140737488355328) : Does Tryz.prog 70 [.ref 0 0] [wob 1 s, wrow s] (.tup [ownA 2 s.l, iA 0]) [wob 1 s, wrow s, .row 1 s.l.length] := by
  have q : (s.code != 0) = false := by simpa using hc
  refine Does.runA Tryz.func70 b70 n70 Tryz.ntmps70 ?_; simp only [c70, go_sem, Nat.reduceAdd, Nat.reduceMul, Int.reduceToNat, Nat.reduceLeDiff, Int.reduceLE, Int.reduceLT, ↓reduceIte, Int.reduceBEq, Int.reduceBNe, Int.reduceAdd, Int.reduceSub, Int.reduceMul]; try refine okTr_and rfl ?_
  refine CallK.r2 (Writer_Code s 0 1 (by decide)) rfl rfl ?_; (simp only [go_sem, Nat.reduceAdd, Nat.reduceMul, Int.reduceToNat, Nat.reduceLeDiff, Int.reduceLE, Int.reduceLT, ↓reduceIte, Int.reduceBEq, Int.reduceBNe, Int.reduceAdd, Int.reduceSub, Int.reduceMul, q]; try refine okTr_and rfl ?_)
  (simp only [go_sem, Nat.reduceAdd, Nat.reduceMul, Int.reduceToNat, Nat.reduceLeDiff, Int.reduceLE, Int.reduceLT, ↓reduceIte, Int.reduceBEq, Int.reduceBNe, Int.reduceAdd, Int.reduceSub, Int.reduceMul, wob, wrow, ints_length]; try refine okTr_and rfl ?_)
  (repeat ((with_reducible refine And.intro ?_ ?_); (· exact sd)))
  ((refine FinK.finB r70 [0, 1, 2] ?_ ?_); (· first | with_reducible rfl | (simp [wob, wrow]; done) | rfl); (· simp [resAL, resA1, loadA, oneOr, wob, wrow]))
theorem Writer_BytesO (s : WS) (i j : Nat) (h : i ≠ j) (hc : s.code = 0) (hb : s.l.length ≤ 140737488355328) : Ct Tryz.prog 70 [.ref i 0] [(i, wob j s), (j, wrow s)] (fun n => .tup [ownA n s.l, iA 0]) [] (fun _ => [.row 1 s.l.length]) :=
  Ct.mk (Writer_BytesO0 s hc hb) [i, j] (by simpa using h) rfl (by simp) (by simp [wob_dead, wrow_dead]) (by intros; simp [ixs_z, ixs, List.range'_succ]) (by intros; simp [ixs_z, ixs, List.range'_succ, ren_ints]) (by intros; simp [wob_ren, wrow_ren, ixs, List.range'_succ]) (.inr ⟨rfl, rfl⟩) (by intros; simp [ixs_z])
end Go.Proofs.YtnfagphepkeedaaGreat
end
section
namespace Go.Proofs.YtnfagphepkeedaaGreat
open Go.RowKit

theorem header_BytesO0 (h : Hd) (hr : rightH h = true) (hb : 0 ≤ h.base) : Does Tryz.prog 27 [hdA h] [] (.tup [ownA 0 (headerB h), iA 0]) [.row 1 (headerB h).length] := by
  have f0 : (WS.new 27).fine := WS.fine.new (by omega)
  have hff := (f0.header h).len
  obtain ⟨e1, e2⟩ := new_header h (n := 27) (by omega)
  have e3 : ((WS.new 27).header h).code = 0 := by rw [e1]; unfold errH; rw [if_pos hr]
  have e4 : ((WS.new 27).header h).l = headerB h := by
    have : ((WS.new 27).header h).bytes = ((WS.new 27).header h).l := by unfold WS.bytes; rw [if_pos e3]
    rw [← this, e2]; unfold bytesH; rw [if_pos hr]
  refine Does.runA Tryz.func27 b27 n27 Tryz.ntmps27 ?_; simp only [c27, go_sem, Nat.reduceAdd, Nat.reduceMul, Int.reduceToNat, Nat.reduceLeDiff, Int.reduceLE, Int.reduceLT, ↓reduceIte, Int.reduceBEq, Int.reduceBNe, Int.reduceAdd, Int.reduceSub, Int.reduceMul]; try refine okTr_and rfl ?_
  refine CallK.p (hMost) ?_; (simp only [go_sem, Nat.reduceAdd, Nat.reduceMul, Int.reduceToNat, Nat.reduceLeDiff, Int.reduceLE, Int.reduceLT, ↓reduceIte, Int.reduceBEq, Int.reduceBNe, Int.reduceAdd, Int.reduceSub, Int.reduceMul]; try refine okTr_and rfl ?_)
  refine CallK.n (pen_New 27) ?_; (simp only [go_sem, Nat.reduceAdd, Nat.reduceMul, Int.reduceToNat, Nat.reduceLeDiff, Int.reduceLE, Int.reduceLT, ↓reduceIte, Int.reduceBEq, Int.reduceBNe, Int.reduceAdd, Int.reduceSub, Int.reduceMul]; try refine okTr_and rfl ?_)
  refine CallK.u2 (header_Put (WS.new 27) h _ _ (by decide) f0 hb) rfl rfl ?_; (simp only [go_sem, Nat.reduceAdd, Nat.reduceMul, Int.reduceToNat, Nat.reduceLeDiff, Int.reduceLE, Int.reduceLT, ↓reduceIte, Int.reduceBEq, Int.reduceBNe, Int.reduceAdd, Int.reduceSub, Int.reduceMul]; try refine okTr_and rfl ?_)
  refine CallK.rn2 (Writer_BytesO ((WS.new 27).header h) _ _ (by decide) e3 hff) rfl rfl ?_
  (simp only [go_sem, Nat.reduceAdd, Nat.reduceMul, Int.reduceToNat, Nat.reduceLeDiff, Int.reduceLE, Int.reduceLT, ↓reduceIte, Int.reduceBEq, Int.reduceBNe, Int.reduceAdd, Int.reduceSub, Int.reduceMul, e4]; try refine okTr_and rfl ?_)
  exact FinK.finA r27 [3]
theorem header_BytesO (h : Hd) (hr : rightH h = true) (hb : 0 ≤ h.base) : Ct Tryz.prog 27 [hdA h] [] (fun n => .tup [ownA n (headerB h), iA 0]) [] (fun _ => [.row 1 (headerB h).length]) := Ct.n (header_BytesO0 h hr hb) cl cl clo
def bytes1 (u : Sg1) : List Int := if right1 u = true then seg1B u else []
def err1 (u : Sg1) : Int := if right1 u = true then 0 else 3
theorem encO_take {base : Int} {l : List O1} {k : Nat} (h : k < l.length) : encs (oldF base).enc [] (l.take (k + 1)) = encs (oldF base).enc [] (l.take k) ++ (vb (l.getD k o10).st ++ (vb (backO (base + k) (l.getD k o10)) ++ blobB (l.getD k o10).data)) := by
  have el : (l.take k).length = k := by rw [List.length_take]; omega
  rw [o1_take l k h, encs_snoc, List.nil_append]
  simp only [oldF]
  rw [el]
theorem encO_le {base : Int} {l : List O1} : ∀ k, k ≤ l.length → (encs (oldF base).enc [] (l.take k)).length ≤ (encs (oldF base).enc [] l).length := by
  intro k hk
  have gen : ∀ n, k + n = l.length → (encs (oldF base).enc [] (l.take k)).length ≤ (encs (oldF base).enc [] l).length := by
    intro n
    induction n generalizing k with
    | zero => intro h; rw [List.take_of_length_le (by omega)]; exact Nat.le_refl _
    | succ n ih =>
      intro h
      have h1 := ih (k + 1) (by omega) (by omega)
      rw [encO_take (by omega), List.length_append] at h1
      omega
  exact gen (l.length - k) (by omega)
set_option maxHeartbeats 1000000 in
set_option maxRecDepth 100000 in
theorem legacy_Bytes10 (u : Sg1) (hs : Small1 u) (hO : O1s u.en) : Does Tryz.prog 15 [sg1A u] [] (.tup [slA .u8 (bytes1 u), iA (err1 u)]) [] := by
  have hR := legacy_Right1 u hs
  obtain ⟨b0, b1, n1, s1⟩ := hs
  have hs0 := sumO_ge u.en
  refine Does.runA Tryz.func15 b15 n15 Tryz.ntmps15 ?_; simp only [c15, go_sem, Nat.reduceAdd, Nat.reduceMul, Int.reduceToNat, Nat.reduceLeDiff, Int.reduceLE, Int.reduceLT, ↓reduceIte, Int.reduceBEq, Int.reduceBNe, Int.reduceAdd, Int.reduceSub, Int.reduceMul]; try refine okTr_and rfl ?_
  refine CallK.p (hR) ?_
  by_cases hr : right1 u = true
  · have e1 : bytes1 u = seg1B u := by unfold bytes1; rw [if_pos hr]
    have e2 : err1 u = 0 := by unfold err1; rw [if_pos hr]
    obtain ⟨h1, h2, h3, h4, h5⟩ := right1_iff.1 hr
    obtain ⟨g1, g2, g3, hwf⟩ := (right1_wf hO).1 hr
    have hbl := body_len hO hr
    have hbb := body_bys hO b0 hr
    have w1 : IntKind.i64.wrap (30 + sumO u.en) = 30 + sumO u.en := IntWalk.i64_in _ (by omega)
    have w2 : IntKind.i64.wrap (30 * (u.en.length : Int)) = 30 * u.en.length := IntWalk.i64_in _ (by omega)
    have w4 : IntKind.u64.wrap (u.en.length : Int) = u.en.length := IntWalk.u64_in _ (by omega)
    obtain ⟨m, hm⟩ : ∃ m, 30 + sumO u.en + 30 * (u.en.length : Int) = m := ⟨_, rfl⟩
    have w3 : IntKind.i64.wrap (30 + sumO u.en + 30 * (u.en.length : Int)) = m := by rw [IntWalk.i64_in _ (by omega), hm]
    have f0 : (WS.new m).fine := WS.fine.new (by omega)
    obtain ⟨W, hW⟩ : ∃ W : Nat → WS, W = fun k => ⟨m, vb (u.en.length : Int) ++ encs (oldF u.base).enc [] (u.en.take k), 0⟩ := ⟨_, rfl⟩
    have hlen : ∀ k, k ≤ u.en.length → ((vb (u.en.length : Int) ++ encs (oldF u.base).enc [] (u.en.take k)).length : Int) ≤ m - 20 := fun k hk => by
      have := encO_le (base := u.base) (l := u.en) k hk
      unfold bodyB at hbl
      rw [List.length_append] at hbl ⊢
      omega
    have hfine : ∀ k, k ≤ u.en.length → (W k).fine := fun k hk => by
      have := hlen k hk
      rw [hW]; exact ⟨by simp only; omega, by simp only; omega, by simp only; omega⟩
    have hW0 : (WS.new m).put (vb (u.en.length : Int)) = W 0 := by
      have hv := (vb_len (u.en.length : Int)).2
      rw [WS.new_is (by omega), put_fit rfl (by simp; omega), hW]; simp [encs]
    have hWn : ∀ k, k < u.en.length → (((((W k).put (vb (u.en.getD k o10).st)).put (vb (backO (u.base + k) (u.en.getD k o10)))).put (vb ((u.en.getD k o10).data.length : Int))).put (u.en.getD k o10).data) = W (k + 1) := fun k hk => by
      have hl := hlen (k + 1) hk
      rw [encO_take hk] at hl
      unfold blobB at hl
      simp only [List.length_append] at hl
      obtain ⟨A, hA⟩ : ∃ A, vb (u.en.length : Int) ++ encs (oldF u.base).enc [] (u.en.take k) = A := ⟨_, rfl⟩
      have hAl := congrArg List.length hA
      rw [List.length_append] at hAl
      have p0 : W k = ⟨m, A, 0⟩ := by rw [hW, ← hA]
      have p1 := put_fit (s := ⟨m, A, 0⟩) (m := vb (u.en.getD k o10).st) rfl (by simp only; omega)
      have p2 := put_fit (s := ⟨m, A ++ vb (u.en.getD k o10).st, 0⟩) (m := vb (backO (u.base + k) (u.en.getD k o10))) rfl (by simp only [List.length_append]; omega)
      have p3 := put_fit (s := ⟨m, A ++ vb (u.en.getD k o10).st ++ vb (backO (u.base + k) (u.en.getD k o10)), 0⟩) (m := vb ((u.en.getD k o10).data.length : Int)) rfl (by simp only [List.length_append]; omega)
      have p4 := put_fit (s := ⟨m, A ++ vb (u.en.getD k o10).st ++ vb (backO (u.base + k) (u.en.getD k o10)) ++ vb ((u.en.getD k o10).data.length : Int), 0⟩) (m := (u.en.getD k o10).data) rfl (by simp only [List.length_append]; omega)
      simp only at p1 p2 p3 p4
      rw [p0, p1, p2, p3, p4, hW]
      simp only
      rw [encO_take hk, ← hA]
      simp only [List.append_assoc, blobB]
    have hfin : (W u.en.length).bytes = bodyB u := by rw [hW]; unfold WS.bytes bodyB; simp
    have hfc : (W u.en.length).code = 0 := by rw [hW]
    have hbase := hr
    have hcrc := crcI_nonneg hbb
    have w5 : IntKind.u64.wrap (crcI (bodyB u)) = crcI (bodyB u) := IntWalk.u64_in _ (by omega)
    have e8 : (min (max (4 : Int) 0) 8).toNat = 4 := by decide
    have hpf := pen_Fixed (crcI (bodyB u)) 4 (by omega) (by omega)
    rw [e8] at hpf
    have hl4 := lowBytes_len 4 (crcI (bodyB u))
    have hhl := (plainB_len ⟨1, u.ep, u.base⟩).2
    have hhl2 := headerB_len ⟨1, u.ep, u.base⟩
    have hseg : headerB ⟨1, u.ep, u.base⟩ ++ bodyB u ++ lowBytes 4 (crcI (bodyB u)) = seg1B u := by unfold seg1B; rw [List.append_assoc]
    have hho := header_BytesO ⟨1, u.ep, u.base⟩ (rightH1 hr) b0
    obtain ⟨HB, hHB⟩ : ∃ HB, headerB ⟨1, u.ep, u.base⟩ = HB := ⟨_, rfl⟩
    rw [hHB] at hho hseg hhl2
    rw [e1, e2]
    (simp only [go_sem, Nat.reduceAdd, Nat.reduceMul, Int.reduceToNat, Nat.reduceLeDiff, Int.reduceLE, Int.reduceLT, ↓reduceIte, Int.reduceBEq, Int.reduceBNe, Int.reduceAdd, Int.reduceSub, Int.reduceMul, hr]; try refine okTr_and rfl ?_)
    refine CallK.n (hho) ?_; (simp only [go_sem, Nat.reduceAdd, Nat.reduceMul, Int.reduceToNat, Nat.reduceLeDiff, Int.reduceLE, Int.reduceLT, ↓reduceIte, Int.reduceBEq, Int.reduceBNe, Int.reduceAdd, Int.reduceSub, Int.reduceMul]; try refine okTr_and rfl ?_)
    refine CallK.p (legacy_total u.en n1 s1) ?_; (simp only [go_sem, Nat.reduceAdd, Nat.reduceMul, Int.reduceToNat, Nat.reduceLeDiff, Int.reduceLE, Int.reduceLT, ↓reduceIte, Int.reduceBEq, Int.reduceBNe, Int.reduceAdd, Int.reduceSub, Int.reduceMul, w1, o1s_length, w2, w3]; try refine okTr_and rfl ?_)
    refine CallK.n (pen_New m) ?_; (simp only [go_sem, Nat.reduceAdd, Nat.reduceMul, Int.reduceToNat, Nat.reduceLeDiff, Int.reduceLE, Int.reduceLT, ↓reduceIte, Int.reduceBEq, Int.reduceBNe, Int.reduceAdd, Int.reduceSub, Int.reduceMul, o1s_length, w4]; try refine okTr_and rfl ?_)
    refine CallK.u2 (varint_Put (WS.new m) u.en.length 2 3 (by decide) (by omega) (by omega) f0.ok (f0.room _)) rfl rfl ?_; (simp only [go_sem, Nat.reduceAdd, Nat.reduceMul, Int.reduceToNat, Nat.reduceLeDiff, Int.reduceLE, Int.reduceLT, ↓reduceIte, Int.reduceBEq, Int.reduceBNe, Int.reduceAdd, Int.reduceSub, Int.reduceMul, hW0, o1s_length]; try refine okTr_and rfl ?_)
    refine loop_of (α := Nat) (fun k => [.any, .ref 0 0, .any, .any, ownA 1 HB, .any, .ref 2 0, .any, .any, .any, .any, .any, .any, .any, .any, .any, .any, .any, .any, .any, .any, .any, .any, .any, .any, .any, .any, .any, .any, .any, .any, .any, .any, .any, .any, .any, .any, .any, .any, .any, .any, slO u.en, iA u.en.length, iA k, .any, .any, .any, .any, .any, .any, .any, .any, .any, .any, .any, .any, .any, .any, .any, .any, .any, .any, .any, .any, .any, .any, .any, .any, .any, .any, .any, .any, .any, .any, .any, .any, .any, .any, .any, .any, .any, .any, .any, .any]) (fun k => [sg1O u, .row 1 HB.length, wob 3 (W k), wrow (W k)]) (fun k => k ≤ u.en.length) (fun k => u.en.length - k) 0 (by simp) (Wk.to (by rfl) (by simp [leT])) ?_
    intro k hk
    (simp only [go_sem, Nat.reduceAdd, Nat.reduceMul, Int.reduceToNat, Nat.reduceLeDiff, Int.reduceLE, Int.reduceLT, ↓reduceIte, Int.reduceBEq, Int.reduceBNe, Int.reduceAdd, Int.reduceSub, Int.reduceMul]; try refine okTr_and rfl ?_)
    by_cases hlt : k < u.en.length
    · have q1 : decide ((k : Int) < (u.en.length : Int)) = true := decide_eq_true (by omega)
      have ek := i64_succ k (by omega)
      have g := o1s_get u.en k hlt
      have hx := hO _ (o1_mem u.en k hlt)
      have hgd := h5 k hlt
      have hwn := hWn k hlt
      obtain ⟨x, ex⟩ : ∃ x, u.en.getD k o10 = x := ⟨_, rfl⟩
      rw [ex] at g hx hgd hwn
      have hbr := backO_range hgd hx.b0
      have hf := hfine k (by omega)
      have hdl : x.data.length ≤ 140737488355328 := by
        have := sumO_take u.en k hlt
        have h6 := sumO_le u.en (k + 1)
        have h7 := sumO_ge (u.en.take k)
        rw [ex] at this; omega
      have wk : IntKind.u64.wrap (k : Int) = k := IntWalk.u64_in _ (by omega)
      have wp : IntKind.u64.wrap (u.base + (k : Int)) = u.base + k := IntWalk.u64_in _ (by omega)
      (simp only [go_sem, Nat.reduceAdd, Nat.reduceMul, Int.reduceToNat, Nat.reduceLeDiff, Int.reduceLE, Int.reduceLT, ↓reduceIte, Int.reduceBEq, Int.reduceBNe, Int.reduceAdd, Int.reduceSub, Int.reduceMul, q1, g, o1s_length, Int.toNat_natCast]; try refine okTr_and rfl ?_)
      (repeat ((with_reducible refine And.intro ?_ ?_); (· exact sd)))
      refine CallK.u2 (varint_Put (W k) x.st 2 3 (by decide) hx.s0 hx.s1 hf.ok (hf.room _)) rfl rfl ?_; (simp only [go_sem, Nat.reduceAdd, Nat.reduceMul, Int.reduceToNat, Nat.reduceLeDiff, Int.reduceLE, Int.reduceLT, ↓reduceIte, Int.reduceBEq, Int.reduceBNe, Int.reduceAdd, Int.reduceSub, Int.reduceMul]; try refine okTr_and rfl ?_)
      have hB : backO (u.base + k) x = if x.hb = true then u.base + k - x.bk else 0 := rfl
      obtain ⟨B, hBe⟩ : ∃ B, backO (u.base + k) x = B := ⟨_, rfl⟩
      rw [hBe] at hbr hB hwn
      have hf2 := hf.put (vb x.st)
      have hB1 : B < 18446744073709551616 := by have := hbr.2.1 (by omega); omega
      cases hb : x.hb with
      | true =>
        rw [if_pos hb] at hB
        have wb : IntKind.u64.wrap (u.base + k - x.bk) = B := by rw [← hB]; exact IntWalk.u64_in _ (by omega)
        (simp only [go_sem, Nat.reduceAdd, Nat.reduceMul, Int.reduceToNat, Nat.reduceLeDiff, Int.reduceLE, Int.reduceLT, ↓reduceIte, Int.reduceBEq, Int.reduceBNe, Int.reduceAdd, Int.reduceSub, Int.reduceMul, wk, wp, wb]; try refine okTr_and rfl ?_)
        refine CallK.u2 (varint_Put ((W k).put (vb x.st)) B 2 3 (by decide) hbr.1 hB1 hf2.ok (hf2.room _)) rfl rfl ?_; (simp only [go_sem, Nat.reduceAdd, Nat.reduceMul, Int.reduceToNat, Nat.reduceLeDiff, Int.reduceLE, Int.reduceLT, ↓reduceIte, Int.reduceBEq, Int.reduceBNe, Int.reduceAdd, Int.reduceSub, Int.reduceMul]; try refine okTr_and rfl ?_)
        refine CallK.u2 (blob_Put (((W k).put (vb x.st)).put (vb B)) x.data 2 3 (by decide) (hf2.put _) hdl) rfl rfl ?_; (simp only [go_sem, Nat.reduceAdd, Nat.reduceMul, Int.reduceToNat, Nat.reduceLeDiff, Int.reduceLE, Int.reduceLT, ↓reduceIte, Int.reduceBEq, Int.reduceBNe, Int.reduceAdd, Int.reduceSub, Int.reduceMul, hwn, ek]; try refine okTr_and rfl ?_)
        exact ⟨k + 1, hlt, by omega, Wk.sel [0, 1, 2, 3] (by simp) rfl (by simp) rfl (by simp [ixs_z, wob_ren, wrow_ren, ixs]) (by simp [selT, ixs_z, ren_ints, ixs])⟩
      | false =>
        rw [if_neg (by rw [hb]; decide)] at hB
        rw [hB] at hwn
        (simp only [go_sem, Nat.reduceAdd, Nat.reduceMul, Int.reduceToNat, Nat.reduceLeDiff, Int.reduceLE, Int.reduceLT, ↓reduceIte, Int.reduceBEq, Int.reduceBNe, Int.reduceAdd, Int.reduceSub, Int.reduceMul]; try refine okTr_and rfl ?_)
        refine CallK.u2 (varint_Put ((W k).put (vb x.st)) 0 2 3 (by decide) (by decide) (by decide) (hf.put _).ok ((hf.put _).room _)) rfl rfl ?_; (simp only [go_sem, Nat.reduceAdd, Nat.reduceMul, Int.reduceToNat, Nat.reduceLeDiff, Int.reduceLE, Int.reduceLT, ↓reduceIte, Int.reduceBEq, Int.reduceBNe, Int.reduceAdd, Int.reduceSub, Int.reduceMul]; try refine okTr_and rfl ?_)
        refine CallK.u2 (blob_Put (((W k).put (vb x.st)).put (vb 0)) x.data 2 3 (by decide) ((hf.put _).put _) hdl) rfl rfl ?_; (simp only [go_sem, Nat.reduceAdd, Nat.reduceMul, Int.reduceToNat, Nat.reduceLeDiff, Int.reduceLE, Int.reduceLT, ↓reduceIte, Int.reduceBEq, Int.reduceBNe, Int.reduceAdd, Int.reduceSub, Int.reduceMul, hwn, ek]; try refine okTr_and rfl ?_)
        exact ⟨k + 1, hlt, by omega, Wk.sel [0, 1, 2, 3] (by simp) rfl (by simp) rfl (by simp [ixs_z, wob_ren, wrow_ren, ixs]) (by simp [selT, ixs_z, ren_ints, ixs])⟩
    · have q1 : decide ((k : Int) < (u.en.length : Int)) = false := decide_eq_false (by omega)
      have ek : k = u.en.length := by omega
      subst ek
      have hff := (hfine _ (Nat.le_refl _)).len
      (simp only [go_sem, Nat.reduceAdd, Nat.reduceMul, Int.reduceToNat, Nat.reduceLeDiff, Int.reduceLE, Int.reduceLT, ↓reduceIte, Int.reduceBEq, Int.reduceBNe, Int.reduceAdd, Int.reduceSub, Int.reduceMul, q1]; try refine okTr_and rfl ?_)
      refine CallK.r2 (Writer_Bytes (W u.en.length) 2 3 (by decide) hff) rfl rfl ?_; (simp only [go_sem, Nat.reduceAdd, Nat.reduceMul, Int.reduceToNat, Nat.reduceLeDiff, Int.reduceLE, Int.reduceLT, ↓reduceIte, Int.reduceBEq, Int.reduceBNe, Int.reduceAdd, Int.reduceSub, Int.reduceMul, hfin, hfc, ints_length, ints_append]; try refine okTr_and rfl ?_)
      (repeat ((with_reducible refine And.intro ?_ ?_); (· exact sd)))
      refine CallK.p (crc_Sum (bodyB u) hbb (by omega)) ?_; (simp only [go_sem, Nat.reduceAdd, Nat.reduceMul, Int.reduceToNat, Nat.reduceLeDiff, Int.reduceLE, Int.reduceLT, ↓reduceIte, Int.reduceBEq, Int.reduceBNe, Int.reduceAdd, Int.reduceSub, Int.reduceMul, w5]; try refine okTr_and rfl ?_)
      refine CallK.p (hpf) ?_; (simp only [go_sem, Nat.reduceAdd, Nat.reduceMul, Int.reduceToNat, Nat.reduceLeDiff, Int.reduceLE, Int.reduceLT, ↓reduceIte, Int.reduceBEq, Int.reduceBNe, Int.reduceAdd, Int.reduceSub, Int.reduceMul, ints_length, ints_append, hl4, hseg]; try refine okTr_and rfl ?_)
      (repeat ((with_reducible refine And.intro ?_ ?_); (· exact sd)))
      (refine FinK.untag 2 rfl ?_; simp only [untag1_sl, List.set_cons_zero, List.set_cons_succ])
      exact FinK.finA r15 []
  · have hr' : right1 u = false := by simpa using hr
    have e1 : bytes1 u = [] := by unfold bytes1; rw [if_neg hr]
    have e2 : err1 u = 3 := by unfold err1; rw [if_neg hr]
    rw [e1, e2]
    (simp only [go_sem, Nat.reduceAdd, Nat.reduceMul, Int.reduceToNat, Nat.reduceLeDiff, Int.reduceLE, Int.reduceLT, ↓reduceIte, Int.reduceBEq, Int.reduceBNe, Int.reduceAdd, Int.reduceSub, Int.reduceMul, hr']; try refine okTr_and rfl ?_)
    (refine FinK.untag 2 rfl ?_; simp only [untag1_sl, List.set_cons_zero, List.set_cons_succ])
    exact FinK.finA r15 []
theorem legacy_Bytes1 (u : Sg1) (hs : Small1 u) (hO : O1s u.en) : Ct Tryz.prog 15 [sg1A u] [] (fun _ => .tup [slA .u8 (bytes1 u), iA (err1 u)]) [] (fun _ => []) := (legacy_Bytes10 u hs hO).toCt cl cl
set_option maxHeartbeats 1000000 in
set_option maxRecDepth 100000 in
theorem ref35_Bytes10 (u : Sg1) (hs : Small1 u) (hO : O1s u.en) (hr : right1 u = true) : Does Tryz.prog 20 [sg1A u] [] (ownA 0 (seg1B u)) [.row 1 (seg1B u).length] := by
  obtain ⟨b0, b1, n1, s1⟩ := hs
  have hs0 := sumO_ge u.en
  obtain ⟨h1, h2, h3, h4, h5⟩ := right1_iff.1 hr
  have hbl := body_len hO hr
  have hbb := body_bys hO b0 hr
  have w4 : IntKind.u64.wrap (u.en.length : Int) = u.en.length := IntWalk.u64_in _ (by omega)
  have hhl := (plainB_len ⟨1, u.ep, u.base⟩).2
  have hhl2 := headerB_len ⟨1, u.ep, u.base⟩
  have hseg : headerB ⟨1, u.ep, u.base⟩ ++ bodyB u ++ lowBytes 4 (crcI (bodyB u)) = seg1B u := by unfold seg1B; rw [List.append_assoc]
  have hho := ref31_Bytes ⟨1, u.ep, u.base⟩ (rightH1 hr) b0
  obtain ⟨HB, hHB⟩ : ∃ HB, headerB ⟨1, u.ep, u.base⟩ = HB := ⟨_, rfl⟩
  rw [hHB] at hho hseg hhl2
  obtain ⟨W, hW⟩ : ∃ W : Nat → List Int, W = fun k => HB ++ (vb (u.en.length : Int) ++ encs (oldF u.base).enc [] (u.en.take k)) := ⟨_, rfl⟩
  have hW0 : HB ++ vb (u.en.length : Int) = W 0 := by rw [hW]; simp [encs]
  have hlen : ∀ k, k ≤ u.en.length → (W k).length ≤ 1090000 := fun k hk => by
    have := encO_le (base := u.base) (l := u.en) k hk
    unfold bodyB at hbl
    rw [hW]
    simp only [List.length_append] at hbl ⊢
    omega
  have hWn : ∀ k, k < u.en.length → W k ++ vb (u.en.getD k o10).st ++ vb (backO (u.base + k) (u.en.getD k o10)) ++ blobB (u.en.getD k o10).data = W (k + 1) := fun k hk => by
    rw [hW]; simp only; rw [encO_take hk]; simp only [List.append_assoc]
  have hfin : W u.en.length = HB ++ bodyB u := by rw [hW]; unfold bodyB; simp
  have hcrc := crcI_nonneg hbb
  have w5 : IntKind.u64.wrap (crcI (bodyB u)) = crcI (bodyB u) := IntWalk.u64_in _ (by omega)
  have hl4 := lowBytes_len 4 (crcI (bodyB u))
  have hvl := (vb_len (u.en.length : Int)).2
  refine Does.runA Tryz.func20 b20 n20 Tryz.ntmps20 ?_; simp only [c20, go_sem, Nat.reduceAdd, Nat.reduceMul, Int.reduceToNat, Nat.reduceLeDiff, Int.reduceLE, Int.reduceLT, ↓reduceIte, Int.reduceBEq, Int.reduceBNe, Int.reduceAdd, Int.reduceSub, Int.reduceMul]; try refine okTr_and rfl ?_
  refine CallK.n (hho) ?_; (simp only [go_sem, Nat.reduceAdd, Nat.reduceMul, Int.reduceToNat, Nat.reduceLeDiff, Int.reduceLE, Int.reduceLT, ↓reduceIte, Int.reduceBEq, Int.reduceBNe, Int.reduceAdd, Int.reduceSub, Int.reduceMul, ints_length, o1s_length, w4]; try refine okTr_and rfl ?_)
  refine CallK.p (ref04_Bytes (u.en.length : Int) (by omega) (by omega)) ?_; (simp only [go_sem, Nat.reduceAdd, Nat.reduceMul, Int.reduceToNat, Nat.reduceLeDiff, Int.reduceLE, Int.reduceLT, ↓reduceIte, Int.reduceBEq, Int.reduceBNe, Int.reduceAdd, Int.reduceSub, Int.reduceMul, ints_append, ints_length, hW0]; try refine okTr_and rfl ?_)
  (repeat ((with_reducible refine And.intro ?_ ?_); (· exact sd)))
  refine loop_of (α := Nat) (fun k => [.any, .ref 0 0, .any, ownA 1 (W k), iA HB.length, iA k, .any, .any, .any, .any, .any, .any, .any, .any, .any, .any, .any, .any, .any, .any, .any, .any, .any, .any, .any, .any, .any, .any, .any, .any, .any, .any, .any, .any, .any, .any, .any, .any, .any, .any, .any, .any, .any, .any, .any, .any, .any, .any, .any, .any, .any, .any, .any, .any, .any, .any, .any, .any, .any, .any, .any, .any, .any, .any, .any, .any, .any, .any]) (fun k => [sg1O u, .row 1 (W k).length]) (fun k => k ≤ u.en.length) (fun k => u.en.length - k) 0 (by simp) (Wk.to (by rw [← hW0, List.length_append]) (by simp [leT])) ?_
  intro k hk
  have hlk := hlen k hk
  (simp only [go_sem, Nat.reduceAdd, Nat.reduceMul, Int.reduceToNat, Nat.reduceLeDiff, Int.reduceLE, Int.reduceLT, ↓reduceIte, Int.reduceBEq, Int.reduceBNe, Int.reduceAdd, Int.reduceSub, Int.reduceMul, o1s_length]; try refine okTr_and rfl ?_)
  by_cases hlt : k < u.en.length
  · have q1 : decide ((k : Int) < (u.en.length : Int)) = true := decide_eq_true (by omega)
    have ek := i64_succ k (by omega)
    have g := o1s_get u.en k hlt
    have hx := hO _ (o1_mem u.en k hlt)
    have hgd := h5 k hlt
    have hwn := hWn k hlt
    have hlk1 := hlen (k + 1) hlt
    obtain ⟨x, ex⟩ : ∃ x, u.en.getD k o10 = x := ⟨_, rfl⟩
    rw [ex] at g hx hgd hwn
    have hbr := backO_range hgd hx.b0
    have hbd : x.data.length ≤ 1090000 := by
      rw [← hwn] at hlk1
      unfold blobB at hlk1
      simp only [List.length_append] at hlk1
      omega
    have wk : IntKind.u64.wrap (k : Int) = k := IntWalk.u64_in _ (by omega)
    have wp : IntKind.u64.wrap (u.base + (k : Int)) = u.base + k := IntWalk.u64_in _ (by omega)
    have hB : backO (u.base + k) x = if x.hb = true then u.base + k - x.bk else 0 := rfl
    obtain ⟨B, hBe⟩ : ∃ B, backO (u.base + k) x = B := ⟨_, rfl⟩
    rw [hBe] at hbr hB hwn
    have hB1 : B < 18446744073709551616 := by have := hbr.2.1 (by omega); omega
    have hl1 := (vb_len x.st).2
    have hl2 := (vb_len B).2
    have hl3 : (blobB x.data).length ≤ x.data.length + 10 := by
      have := (vb_len (x.data.length : Int)).2
      unfold blobB; rw [List.length_append]; omega
    (simp only [go_sem, Nat.reduceAdd, Nat.reduceMul, Int.reduceToNat, Nat.reduceLeDiff, Int.reduceLE, Int.reduceLT, ↓reduceIte, Int.reduceBEq, Int.reduceBNe, Int.reduceAdd, Int.reduceSub, Int.reduceMul, q1, g, o1s_length, Int.toNat_natCast]; try refine okTr_and rfl ?_)
    (repeat ((with_reducible refine And.intro ?_ ?_); (· exact sd)))
    refine CallK.p (ref04_Bytes x.st hx.s0 hx.s1) ?_; (simp only [go_sem, Nat.reduceAdd, Nat.reduceMul, Int.reduceToNat, Nat.reduceLeDiff, Int.reduceLE, Int.reduceLT, ↓reduceIte, Int.reduceBEq, Int.reduceBNe, Int.reduceAdd, Int.reduceSub, Int.reduceMul, ints_append, ints_length]; try refine okTr_and rfl ?_)
    (repeat ((with_reducible refine And.intro ?_ ?_); (· exact sd)))
    cases hb : x.hb with
    | true =>
      rw [if_pos hb] at hB
      have wb : IntKind.u64.wrap (u.base + k - x.bk) = B := by rw [← hB]; exact IntWalk.u64_in _ (by omega)
      (simp only [go_sem, Nat.reduceAdd, Nat.reduceMul, Int.reduceToNat, Nat.reduceLeDiff, Int.reduceLE, Int.reduceLT, ↓reduceIte, Int.reduceBEq, Int.reduceBNe, Int.reduceAdd, Int.reduceSub, Int.reduceMul, wk, wp, wb]; try refine okTr_and rfl ?_)
      refine CallK.p (ref04_Bytes B hbr.1 hB1) ?_; (simp only [go_sem, Nat.reduceAdd, Nat.reduceMul, Int.reduceToNat, Nat.reduceLeDiff, Int.reduceLE, Int.reduceLT, ↓reduceIte, Int.reduceBEq, Int.reduceBNe, Int.reduceAdd, Int.reduceSub, Int.reduceMul, ints_append, ints_length]; try refine okTr_and rfl ?_)
      (repeat ((with_reducible refine And.intro ?_ ?_); (· exact sd)))
      refine CallK.n (ref06_Bytes x.data (by omega)) ?_; (simp only [go_sem, Nat.reduceAdd, Nat.reduceMul, Int.reduceToNat, Nat.reduceLeDiff, Int.reduceLE, Int.reduceLT, ↓reduceIte, Int.reduceBEq, Int.reduceBNe, Int.reduceAdd, Int.reduceSub, Int.reduceMul, ints_append, ints_length, hwn, ← List.length_append, ek]; try refine okTr_and rfl ?_)
      (repeat ((with_reducible refine And.intro ?_ ?_); (· exact sd)))
      exact ⟨k + 1, hlt, by omega, Wk.sel [0, 1] (by simp) rfl (by simp) rfl (by simp [ixs_z, ren_ints, ← hwn]) (by simp [selT, ixs_z, ren_ints])⟩
    | false =>
      rw [if_neg (by rw [hb]; decide)] at hB
      have hv0 : ints .u8 (W k ++ vb x.st) ++ [.lit (.int .u8 0)] = ints .u8 (W k ++ vb x.st ++ vb B) := by rw [hB]; simp [ints, vb_lt]
      have hvl0 : (vb B).length = 1 := by rw [hB]; rfl
      (simp only [go_sem, Nat.reduceAdd, Nat.reduceMul, Int.reduceToNat, Nat.reduceLeDiff, Int.reduceLE, Int.reduceLT, ↓reduceIte, Int.reduceBEq, Int.reduceBNe, Int.reduceAdd, Int.reduceSub, Int.reduceMul, hv0, ints_length]; try refine okTr_and rfl ?_)
      (repeat ((with_reducible refine And.intro ?_ ?_); (· exact sd)))
      refine CallK.n (ref06_Bytes x.data (by omega)) ?_; (simp only [go_sem, Nat.reduceAdd, Nat.reduceMul, Int.reduceToNat, Nat.reduceLeDiff, Int.reduceLE, Int.reduceLT, ↓reduceIte, Int.reduceBEq, Int.reduceBNe, Int.reduceAdd, Int.reduceSub, Int.reduceMul, ints_append, ints_length, hwn, ← List.length_append, ek]; try refine okTr_and rfl ?_)
      (repeat ((with_reducible refine And.intro ?_ ?_); (· exact sd)))
      exact ⟨k + 1, hlt, by omega, Wk.sel [0, 1] (by simp) rfl (by simp) rfl (by simp [ixs_z, ren_ints, ← hwn]; try omega) (by simp [selT, ixs_z, ren_ints])⟩
  · have q1 : decide ((k : Int) < (u.en.length : Int)) = false := decide_eq_false (by omega)
    have ek : k = u.en.length := by omega
    subst ek
    have hdr : (HB ++ bodyB u).drop HB.length = bodyB u := List.drop_left
    have hsl : (HB ++ bodyB u).length + 4 = (seg1B u).length := by have := congrArg List.length hseg; rw [List.length_append, hl4] at this; exact this
    rw [hfin] at hlk ⊢
    (simp only [go_sem, Nat.reduceAdd, Nat.reduceMul, Int.reduceToNat, Nat.reduceLeDiff, Int.reduceLE, Int.reduceLT, ↓reduceIte, Int.reduceBEq, Int.reduceBNe, Int.reduceAdd, Int.reduceSub, Int.reduceMul, q1, sli_l_row, ints_length, ints_drop, Int.toNat_natCast, hdr]; try refine okTr_and rfl ?_)
    (repeat ((with_reducible refine And.intro ?_ ?_); (· exact sd)))
    refine CallK.p (ref07_Sum (bodyB u) hbb (by omega)) ?_; (simp only [go_sem, Nat.reduceAdd, Nat.reduceMul, Int.reduceToNat, Nat.reduceLeDiff, Int.reduceLE, Int.reduceLT, ↓reduceIte, Int.reduceBEq, Int.reduceBNe, Int.reduceAdd, Int.reduceSub, Int.reduceMul, w5]; try refine okTr_and rfl ?_)
    refine CallK.p (ref03_Fixed (crcI (bodyB u)) 4 (by omega) (by omega) (by decide)) ?_; (simp only [go_sem, Nat.reduceAdd, Nat.reduceMul, Int.reduceToNat, Nat.reduceLeDiff, Int.reduceLE, Int.reduceLT, ↓reduceIte, Int.reduceBEq, Int.reduceBNe, Int.reduceAdd, Int.reduceSub, Int.reduceMul, ints_length, ints_append, hl4, hseg, hsl]; try refine okTr_and rfl ?_)
    (repeat ((with_reducible refine And.intro ?_ ?_); (· exact sd)))
    ((refine FinK.finB r20 [1] ?_ ?_); (· first | with_reducible rfl | (simp [hseg]; done) | rfl); (· simp [resAL, resA1, loadA, oneOr, hseg]))
theorem ref35_Bytes1 (u : Sg1) (hs : Small1 u) (hO : O1s u.en) (hr : right1 u = true) : Ct Tryz.prog 20 [sg1A u] [] (fun n => ownA n (seg1B u)) [] (fun _ => [.row 1 (seg1B u).length]) := Ct.n (ref35_Bytes10 u hs hO hr) cl cl clo
end Go.Proofs.YtnfagphepkeedaaGreat
end
