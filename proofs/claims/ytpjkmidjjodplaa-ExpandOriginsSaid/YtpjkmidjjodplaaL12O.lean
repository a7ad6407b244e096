/-
  Chapter 12: ExpandOrigins.
-/
import Derived.Test.YtpjkmidjjodplaaL12
import Derived.Test.YtpjkmidjjodplaaK33
set_option linter.all false
set_option linter.unusedSimpArgs false
set_option linter.unusedVariables false
set_option linter.unnecessarySimpa false
namespace Go.Proofs.Ytpjkmidjjodplaa
open Go.RowKit

set_option maxHeartbeats 1000000 in
set_option maxRecDepth 100000 in
theorem law_ExpandOrigins (l : List Tk) (hl : Tks l) : Does Try.prog 4 [slT l] [] (bA true) [] := by
  refine Does.run Try.func4 b4 n4 Try.ntmps4 (by simp only [List.cons_append, List.nil_append, List.length_cons, List.length_nil, Nat.zero_add, Nat.reduceAdd, Nat.reduceSub, List.replicate]; rfl) ?_; simp only [c4, go_sem, Nat.reduceAdd, Nat.reduceMul, Int.reduceToNat, Nat.reduceLeDiff, Int.reduceLE, Int.reduceLT, ↓reduceIte, Int.reduceBEq, Int.reduceBNe, Int.reduceAdd, Int.reduceSub, Int.reduceMul, qFin_ret, qFin_normal]; (try ((refine okTr_and ?_ ?_); (· rfl)))
  refine CallK.p (law11_Long l) ?_
  cases hL : longT l
  · obtain ⟨n1, n2⟩ := longT_no hL
    have hby := expT_bys hl 5000
    have hle := expFrom_le (bound := 5000) l 0 [] (by simp; omega)
    have hle' : ((expT l 5000).1.length : Int) ≤ 5000 := by have : ((expT l 5000).1.length : Int) ≤ max 5000 0 := hle; omega
    (simp only [go_sem, Nat.reduceAdd, Nat.reduceMul, Int.reduceToNat, Nat.reduceLeDiff, Int.reduceLE, Int.reduceLT, ↓reduceIte, Int.reduceBEq, Int.reduceBNe, Int.reduceAdd, Int.reduceSub, Int.reduceMul, qFin_ret, qFin_normal, hL]; (try ((refine okTr_and ?_ ?_); (· rfl))))
    refine CallK.p (expand_Origins l (by omega)) ?_; (simp only [go_sem, Nat.reduceAdd, Nat.reduceMul, Int.reduceToNat, Nat.reduceLeDiff, Int.reduceLE, Int.reduceLT, ↓reduceIte, Int.reduceBEq, Int.reduceBNe, Int.reduceAdd, Int.reduceSub, Int.reduceMul, qFin_ret, qFin_normal]; (try ((refine okTr_and ?_ ?_); (· rfl))))
    refine CallK.p (expand_Deep l (by omega)) ?_; (simp only [go_sem, Nat.reduceAdd, Nat.reduceMul, Int.reduceToNat, Nat.reduceLeDiff, Int.reduceLE, Int.reduceLT, ↓reduceIte, Int.reduceBEq, Int.reduceBNe, Int.reduceAdd, Int.reduceSub, Int.reduceMul, qFin_ret, qFin_normal]; (try ((refine okTr_and ?_ ?_); (· rfl))))
    refine CallK.p (ref12_Tokens l 5000 (by omega) (by omega) (by omega)) ?_; (simp only [go_sem, Nat.reduceAdd, Nat.reduceMul, Int.reduceToNat, Nat.reduceLeDiff, Int.reduceLE, Int.reduceLT, ↓reduceIte, Int.reduceBEq, Int.reduceBNe, Int.reduceAdd, Int.reduceSub, Int.reduceMul, qFin_ret, qFin_normal]; (try ((refine okTr_and ?_ ?_); (· rfl))))
    by_cases h11 : (expT l 5000).2.1 = 11
    · have q : ((expT l 5000).2.1 == 11) = true := by rw [h11]; rfl
      (simp only [go_sem, Nat.reduceAdd, Nat.reduceMul, Int.reduceToNat, Nat.reduceLeDiff, Int.reduceLE, Int.reduceLT, ↓reduceIte, Int.reduceBEq, Int.reduceBNe, Int.reduceAdd, Int.reduceSub, Int.reduceMul, qFin_ret, qFin_normal, q]; (try ((refine okTr_and ?_ ?_); (· rfl))))
      refine CallK.p (live12) ?_; (simp only [go_sem, Nat.reduceAdd, Nat.reduceMul, Int.reduceToNat, Nat.reduceLeDiff, Int.reduceLE, Int.reduceLT, ↓reduceIte, Int.reduceBEq, Int.reduceBNe, Int.reduceAdd, Int.reduceSub, Int.reduceMul, qFin_ret, qFin_normal]; (try ((refine okTr_and ?_ ?_); (· rfl))))
      ((refine FinK.fin r4 [] ?_ ?_ ?_ ?_ ?_ ?_); (· decide); (· rfl); (· simp); (· rfl); (· first | with_reducible rfl | (simp [ints_nil, ren_lit, ren_ref, ren_any, ren_agg, ren_tup, ren_sl, ren_fn, tren_none, tren_full, tren_row, oren_cells, oren_row, oren_dead, ixs_z, ixs_1, ixs_2, ixs_3, ren_ints, List.map_cons, List.map_nil]; done) | rfl); (· simp [resAL, resA1, loadA, oneOr, ints_nil, ren_lit, ren_ref, ren_any, ren_agg, ren_tup, ren_sl, ren_fn, tren_none, tren_full, tren_row, oren_cells, oren_row, oren_dead, ixs_z, ixs_1, ixs_2, ixs_3, ren_ints, List.map_cons, List.map_nil]))
    · have q : ((expT l 5000).2.1 == 11) = false := by simpa using h11
      have hgo := good_of l 0 [] h11
      by_cases hc : (expT l 5000).2.1 = 0
      · have q1 : ((expT l 5000).2.1 != 0) = false := by simpa using hc
        have hg : goodFrom l [] = true := hgo.2 hc
        obtain ⟨W, hW⟩ : ∃ W, (expT l 5000).1 = W := ⟨_, rfl⟩
        have hE0 : expFrom 5000 l 0 [] = (W, (0, 0)) := Prod.ext hW (expFrom_zero l 0 [] hc)
        have hE : expT l 5000 = (W, (0, 0)) := hE0
        obtain ⟨_, hr⟩ := expFrom_ok (bound := 5000) l 0 [] hc
        obtain ⟨_, _, _, k4, k5, k6⟩ := org_all (b0 := 5000) (L := l) (W := W) l 0 [] [] [] (by simp) ⟨rfl, rfl, fun p hp => by simp at hp⟩ (by simp [tsum]) hE0
        have ho : orgA l = (orgFrom l 0 [], true) := by unfold orgA; rw [if_pos hg]
        have hd : deepA l = (deepFrom l [], true) := by unfold deepA; rw [if_pos hg]
        rw [hW] at hle' hby
        generalize orgFrom l 0 [] = O at *
        generalize deepFrom l [] = D at *
        have q2 : ((O.length : Int) != (W.length : Int)) = false := by simp [k4]
        have q3 : ((D.length : Int) != (W.length : Int)) = false := by simp [k5]
        (simp only [go_sem, Nat.reduceAdd, Nat.reduceMul, Int.reduceToNat, Nat.reduceLeDiff, Int.reduceLE, Int.reduceLT, ↓reduceIte, Int.reduceBEq, Int.reduceBNe, Int.reduceAdd, Int.reduceSub, Int.reduceMul, qFin_ret, qFin_normal, hE, ho, hd, prs_length, ints_length, q2, q3]; (try ((refine okTr_and ?_ ?_); (· rfl))))
        refine loop_of (α := Nat) (fun i => [slT l, .any, .any, .sl .none 2 (prs O), .any, slA .i64 D, .any, slA .u8 W, .any, iA (tsum (l.take i)), iA i, .any, .any, .any, .any, .any, .any, .any, .any, .any, .any, .any, .any, .any, .any, .any, .any, .any, .any, .any, .any, .any, .any, .any, .any, .any, .any, .any, .any, .any, .any, .any, .any, .any, .any, .any, .any, .any, .any, .any, .any, .any, .any, .any, .any, .any, .any, .any, .any, .any, .any, .any, .any, .any, .any, .any, .any, .any, .any, .any, .any, .any, .any, .any, .any, .any, .any, .any, .any, .any, .any, .any, .any, .any, .any, .any, .any, .any, .any, .any, .any, .any, .any, .any, .any, .any, .any, .any, .any, .any, .any, .any, .any, .any, .any, .any, .any, .any, .any, .any, .any, .any, .any, .any, .any, .any, .any, .any, .any, .any, .any, .any, .any, .any, .any, .any, .any, .any, .any, .any, .any, .any, .any, .any, .any, .any, .any, .any, .any, .any, .any, .any, .any, .any, .any, .any, .any, .any, .any, .any, .any, .any, .any, .any, .any, .any, .any, .any, .any, .any, .any, .any, .any, .any, .any, .any, .any, .any, .any, .any, .any, .any, .any, .any, .any, .any, .any, .any, .any, .any, .any, .any, .any, .any, .any, .any, .any, .any, .any, .any, .any, .any, .any, .any, .any, .any, .any, .any, .any, .any, .any, .any, .any, .any]) (fun _ => [fltO (0, 0)]) (fun i => i ≤ l.length) (fun i => l.length - i) 0 (by simp) (Wk.to (by simp [fltO]) (by simp [leT, tsum])) ?_
        intro i hi
        (simp only [go_sem, Nat.reduceAdd, Nat.reduceMul, Int.reduceToNat, Nat.reduceLeDiff, Int.reduceLE, Int.reduceLT, ↓reduceIte, Int.reduceBEq, Int.reduceBNe, Int.reduceAdd, Int.reduceSub, Int.reduceMul, qFin_ret, qFin_normal, tks_length]; (try ((refine okTr_and ?_ ?_); (· rfl))))
        refine cdK_split (fun h => ?_) (fun h => ?_)
        · have hlt : i < l.length := by simpa using h
          have g := tks_get l i hlt
          have ei := i64_succ i (by omega)
          have ht0 := tsum_ge (l.take i)
          have hst := tsum_take l i hlt
          have k7 := k6 i (Nat.zero_le _) hlt
          have hri := hr _ (tk_mem l i hlt)
          have hmp := made_pos hri
          obtain ⟨t, ht⟩ : ∃ t, l.getD i tk0 = t := ⟨_, rfl⟩
          rw [ht] at g hst k7 hri hmp
          (simp only [go_sem, Nat.reduceAdd, Nat.reduceMul, Int.reduceToNat, Nat.reduceLeDiff, Int.reduceLE, Int.reduceLT, ↓reduceIte, Int.reduceBEq, Int.reduceBNe, Int.reduceAdd, Int.reduceSub, Int.reduceMul, qFin_ret, qFin_normal]; (try ((refine okTr_and ?_ ?_); (· rfl))))
          refine loop_of (α := Nat) (fun k => [slT l, .any, .any, .sl .none 2 (prs O), .any, slA .i64 D, .any, slA .u8 W, .any, iA (((tsum (l.take i)).toNat + k : Nat) : Int), iA i, iA k, .any, .any, .any, .any, .any, .any, .any, .any, .any, .any, .any, .any, .any, .any, .any, .any, .any, .any, .any, .any, .any, .any, .any, .any, .any, .any, .any, .any, .any, .any, .any, .any, .any, .any, .any, .any, .any, .any, .any, .any, .any, .any, .any, .any, .any, .any, .any, .any, .any, .any, .any, .any, .any, .any, .any, .any, .any, .any, .any, .any, .any, .any, .any, .any, .any, .any, .any, .any, .any, .any, .any, .any, .any, .any, .any, .any, .any, .any, .any, .any, .any, .any, .any, .any, .any, .any, .any, .any, .any, .any, .any, .any, .any, .any, .any, .any, .any, .any, .any, .any, .any, .any, .any, .any, .any, .any, .any, .any, .any, .any, .any, .any, .any, .any, .any, .any, .any, .any, .any, .any, .any, .any, .any, .any, .any, .any, .any, .any, .any, .any, .any, .any, .any, .any, .any, .any, .any, .any, .any, .any, .any, .any, .any, .any, .any, .any, .any, .any, .any, .any, .any, .any, .any, .any, .any, .any, .any, .any, .any, .any, .any, .any, .any, .any, .any, .any, .any, .any, .any, .any, .any, .any, .any, .any, .any, .any, .any, .any, .any, .any, .any, .any, .any, .any, .any, .any, .any, .any, .any, .any, .any, .any]) (fun _ => [fltO (0, 0)]) (fun k => (k : Int) ≤ t.made) (fun k => (t.made - k).toNat) 0 (by omega) (Wk.to (by simp [fltO]) (by simp [leT]; omega)) ?_
          intro k hk
          (simp only [go_sem, Nat.reduceAdd, Nat.reduceMul, Int.reduceToNat, Nat.reduceLeDiff, Int.reduceLE, Int.reduceLT, ↓reduceIte, Int.reduceBEq, Int.reduceBNe, Int.reduceAdd, Int.reduceSub, Int.reduceMul, qFin_ret, qFin_normal, g, tks_length]; (try ((refine okTr_and ?_ ?_); (· rfl))))
          (repeat ((with_reducible refine And.intro ?_ ?_); (· first | with_reducible assumption | omega | with_reducible rfl | (simp only [List.length_append, List.length_cons, List.length_nil, List.length_singleton]; omega) | (simp [ints_length, okEl_eq, AV.parts]; done) | (simp [ints_length, okEl_eq, AV.parts]; omega) | rfl)))
          refine CallK.p (ref11_Len t) ?_
          by_cases hkm : (k : Int) < t.made
          · have q4 : decide ((k : Int) < t.made) = true := by simpa using hkm
            have F := k7 k hkm
            obtain ⟨p, hp⟩ : ∃ p, (tsum (l.take i)).toNat + k = p := ⟨_, rfl⟩
            rw [hp] at F ⊢
            obtain ⟨⟨T, J⟩, hTJ⟩ : ∃ q, O.getD p (0, 0) = q := ⟨_, rfl⟩
            obtain ⟨f1, f2, f3, f4, f5, f6, f7, f8, f9, f10⟩ := F
            rw [hTJ] at f2 f3 f4 f5 f6 f7 f8
            simp only at f2 f3 f4 f5 f6
            have ek := i64_succ k (by omega)
            have ep := i64_succ p (by omega)
            have gO := prs_get O p (by omega)
            rw [hTJ] at gO
            have hTl : T.toNat < l.length := by omega
            have gT : (tks l).getD T.toNat .any = tkA (l.getD T.toNat tk0) := tks_getD l T.toNat hTl
            obtain ⟨u, hu⟩ : ∃ u, l.getD T.toNat tk0 = u := ⟨_, rfl⟩
            rw [hu] at gT f5 f6
            have gJ := u8_get u.lit J f4 (by omega)
            have gW := u8_get W (p : Int) (by omega) (by omega)
            have gD := i64_get D p (by omega)
            rw [Int.toNat_natCast] at gW gD
            have r1 : decide (T < 0) = false := by simp; omega
            have r2 : decide ((i : Int) < T) = false := by simp; omega
            have r3 : decide (J < 0) = false := by simp; omega
            have r4 : decide ((u.lit.length : Int) ≤ J) = false := by simp; omega
            have r5 : (u.lit.getD J.toNat 0 != W.getD p 0) = false := by rw [f6]; simp
            rw [Int.toNat_natCast] at gO
            (simp only [go_sem, Nat.reduceAdd, Nat.reduceMul, Int.reduceToNat, Nat.reduceLeDiff, Int.reduceLE, Int.reduceLT, ↓reduceIte, Int.reduceBEq, Int.reduceBNe, Int.reduceAdd, Int.reduceSub, Int.reduceMul, qFin_ret, qFin_normal, q4, gO, prs_length, Int.toNat_natCast]; (try ((refine okTr_and ?_ ?_); (· rfl))))
            (repeat ((with_reducible refine And.intro ?_ ?_); (· first | with_reducible assumption | omega | with_reducible rfl | (simp only [List.length_append, List.length_cons, List.length_nil, List.length_singleton]; omega) | (simp [ints_length, okEl_eq, AV.parts]; done) | (simp [ints_length, okEl_eq, AV.parts]; omega) | rfl)))
            have g' := g
            rw [Int.toNat_natCast] at g'
            rw [ht] at f7 f8
            (simp only [go_sem, Nat.reduceAdd, Nat.reduceMul, Int.reduceToNat, Nat.reduceLeDiff, Int.reduceLE, Int.reduceLT, ↓reduceIte, Int.reduceBEq, Int.reduceBNe, Int.reduceAdd, Int.reduceSub, Int.reduceMul, qFin_ret, qFin_normal, r1, r2, r3, r4, r5, gT, g', tks_length, ints_length, gJ, gW, Int.toNat_natCast]; (try ((refine okTr_and ?_ ?_); (· rfl))))
            (repeat ((with_reducible refine And.intro ?_ ?_); (· first | with_reducible assumption | omega | with_reducible rfl | (simp only [List.length_append, List.length_cons, List.length_nil, List.length_singleton]; omega) | (simp [ints_length, okEl_eq, AV.parts]; done) | (simp [ints_length, okEl_eq, AV.parts]; omega) | rfl)))
            obtain ⟨m, hm⟩ : ∃ m, p - t.off.toNat = m := ⟨_, rfl⟩
            refine CallK.p (ref11_Run t) ?_
            cases hrn : t.run
            · have hcp : t.copy = true := by
                rcases right_iff.1 hri with h' | h'
                · rw [hrn] at h'; cases h'
                · exact h'
              have c0 := f8 hcp
              have c1 := c0.1
              have c2 := c0.2.1
              have c3 := c0.2.2
              clear c0
              have d1 := (copy_iff.1 hcp).2.1
              have d2 := (copy_iff.1 hcp).2.2.1
              rw [hm] at c2 c3
              have ew : IntKind.i64.wrap ((p : Int) - t.off) = (m : Int) := by rw [IntWalk.i64_in _ (by omega)]; omega
              have gO2 := prs_get O m (by omega)
              rw [← c2, Int.toNat_natCast] at gO2
              have gD2 := i64_get D m (by omega)
              rw [Int.toNat_natCast] at gD2
              have ew2 : IntKind.i64.wrap (D.getD m 0 + 1) = D.getD m 0 + 1 := IntWalk.i64_in _ (by omega)
              have r6 : (D.getD p 0 != D.getD m 0 + 1) = false := by rw [c3]; simp
              (simp only [go_sem, Nat.reduceAdd, Nat.reduceMul, Int.reduceToNat, Nat.reduceLeDiff, Int.reduceLE, Int.reduceLT, ↓reduceIte, Int.reduceBEq, Int.reduceBNe, Int.reduceAdd, Int.reduceSub, Int.reduceMul, qFin_ret, qFin_normal, hrn, g', tks_length, Int.toNat_natCast]; (try ((refine okTr_and ?_ ?_); (· rfl))))
              (repeat ((with_reducible refine And.intro ?_ ?_); (· first | with_reducible assumption | omega | with_reducible rfl | (simp only [List.length_append, List.length_cons, List.length_nil, List.length_singleton]; omega) | (simp [ints_length, okEl_eq, AV.parts]; done) | (simp [ints_length, okEl_eq, AV.parts]; omega) | rfl)))
              refine CallK.p (ref11_Copy t) ?_
              (simp only [go_sem, Nat.reduceAdd, Nat.reduceMul, Int.reduceToNat, Nat.reduceLeDiff, Int.reduceLE, Int.reduceLT, ↓reduceIte, Int.reduceBEq, Int.reduceBNe, Int.reduceAdd, Int.reduceSub, Int.reduceMul, qFin_ret, qFin_normal, hcp, g', tks_length, gO, gO2, prs_length, ints_length, ew, ew2, gD, gD2, r6, ep, ek, Int.toNat_natCast]; (try ((refine okTr_and ?_ ?_); (· rfl))))
              (repeat ((with_reducible refine And.intro ?_ ?_); (· first | with_reducible assumption | omega | with_reducible rfl | (simp only [List.length_append, List.length_cons, List.length_nil, List.length_singleton]; omega) | (simp [ints_length, okEl_eq, AV.parts]; done) | (simp [ints_length, okEl_eq, AV.parts]; omega) | rfl)))
              exact ⟨k + 1, by omega, by omega, Wk.to (by simp) (by simp [leT]; omega)⟩
            · have hcp := run_not_copy hrn
              have c1 := (f7 hrn).1
              have c2 := (f7 hrn).2
              have c1' : J = (k : Int) := congrArg Prod.snd c1
              have c1 : T = (i : Int) := congrArg Prod.fst c1
              have r6 : (T != (i : Int)) = false := by simpa using c1
              have r7 : (J != (k : Int)) = false := by simpa using c1'
              have r8 : (D.getD p 0 != 0) = false := by simpa using c2
              (simp only [go_sem, Nat.reduceAdd, Nat.reduceMul, Int.reduceToNat, Nat.reduceLeDiff, Int.reduceLE, Int.reduceLT, ↓reduceIte, Int.reduceBEq, Int.reduceBNe, Int.reduceAdd, Int.reduceSub, Int.reduceMul, qFin_ret, qFin_normal, hrn, r6, r7, r8, gD, ints_length, Int.toNat_natCast]; (try ((refine okTr_and ?_ ?_); (· rfl))))
              (repeat ((with_reducible refine And.intro ?_ ?_); (· first | with_reducible assumption | omega | with_reducible rfl | (simp only [List.length_append, List.length_cons, List.length_nil, List.length_singleton]; omega) | (simp [ints_length, okEl_eq, AV.parts]; done) | (simp [ints_length, okEl_eq, AV.parts]; omega) | rfl)))
              (simp only [go_sem, Nat.reduceAdd, Nat.reduceMul, Int.reduceToNat, Nat.reduceLeDiff, Int.reduceLE, Int.reduceLT, ↓reduceIte, Int.reduceBEq, Int.reduceBNe, Int.reduceAdd, Int.reduceSub, Int.reduceMul, qFin_ret, qFin_normal, g', tks_length, Int.toNat_natCast]; (try ((refine okTr_and ?_ ?_); (· rfl))))
              (repeat ((with_reducible refine And.intro ?_ ?_); (· first | with_reducible assumption | omega | with_reducible rfl | (simp only [List.length_append, List.length_cons, List.length_nil, List.length_singleton]; omega) | (simp [ints_length, okEl_eq, AV.parts]; done) | (simp [ints_length, okEl_eq, AV.parts]; omega) | rfl)))
              refine CallK.p (ref11_Copy t) ?_
              (simp only [go_sem, Nat.reduceAdd, Nat.reduceMul, Int.reduceToNat, Nat.reduceLeDiff, Int.reduceLE, Int.reduceLT, ↓reduceIte, Int.reduceBEq, Int.reduceBNe, Int.reduceAdd, Int.reduceSub, Int.reduceMul, qFin_ret, qFin_normal, hcp, ep, ek]; (try ((refine okTr_and ?_ ?_); (· rfl))))
              exact ⟨k + 1, by omega, by omega, Wk.to (by simp) (by simp [leT]; omega)⟩
          · have q4 : decide ((k : Int) < t.made) = false := by simpa using hkm
            (simp only [go_sem, Nat.reduceAdd, Nat.reduceMul, Int.reduceToNat, Nat.reduceLeDiff, Int.reduceLE, Int.reduceLT, ↓reduceIte, Int.reduceBEq, Int.reduceBNe, Int.reduceAdd, Int.reduceSub, Int.reduceMul, qFin_ret, qFin_normal, q4, ei]; (try ((refine okTr_and ?_ ?_); (· rfl))))
            exact ⟨i + 1, hlt, by omega, Wk.to (by simp) (by simp [leT]; omega)⟩
        · have ei : i = l.length := by simp at h; omega
          (simp only [go_sem, Nat.reduceAdd, Nat.reduceMul, Int.reduceToNat, Nat.reduceLeDiff, Int.reduceLE, Int.reduceLT, ↓reduceIte, Int.reduceBEq, Int.reduceBNe, Int.reduceAdd, Int.reduceSub, Int.reduceMul, qFin_ret, qFin_normal]; (try ((refine okTr_and ?_ ?_); (· rfl))))
          refine CallK.p (live12) ?_; (simp only [go_sem, Nat.reduceAdd, Nat.reduceMul, Int.reduceToNat, Nat.reduceLeDiff, Int.reduceLE, Int.reduceLT, ↓reduceIte, Int.reduceBEq, Int.reduceBNe, Int.reduceAdd, Int.reduceSub, Int.reduceMul, qFin_ret, qFin_normal]; (try ((refine okTr_and ?_ ?_); (· rfl))))
          ((refine FinK.fin r4 [] ?_ ?_ ?_ ?_ ?_ ?_); (· decide); (· rfl); (· simp); (· rfl); (· first | with_reducible rfl | (simp [ints_nil, ren_lit, ren_ref, ren_any, ren_agg, ren_tup, ren_sl, ren_fn, tren_none, tren_full, tren_row, oren_cells, oren_row, oren_dead, ixs_z, ixs_1, ixs_2, ixs_3, ren_ints, List.map_cons, List.map_nil]; done) | rfl); (· simp [resAL, resA1, loadA, oneOr, ints_nil, ren_lit, ren_ref, ren_any, ren_agg, ren_tup, ren_sl, ren_fn, tren_none, tren_full, tren_row, oren_cells, oren_row, oren_dead, ixs_z, ixs_1, ixs_2, ixs_3, ren_ints, List.map_cons, List.map_nil]))
      · have q1 : ((expT l 5000).2.1 != 0) = true := by simpa using hc
        have hg : ¬ goodFrom l [] = true := fun h => hc (hgo.1 h)
        have ho : orgA l = ([], false) := by unfold orgA; rw [if_neg hg]
        have hd : deepA l = ([], false) := by unfold deepA; rw [if_neg hg]
        (simp only [go_sem, Nat.reduceAdd, Nat.reduceMul, Int.reduceToNat, Nat.reduceLeDiff, Int.reduceLE, Int.reduceLT, ↓reduceIte, Int.reduceBEq, Int.reduceBNe, Int.reduceAdd, Int.reduceSub, Int.reduceMul, qFin_ret, qFin_normal, q, q1, ho, hd, prs_nil, ints_nil]; (try ((refine okTr_and ?_ ?_); (· rfl))))
        refine CallK.p (live12) ?_; (simp only [go_sem, Nat.reduceAdd, Nat.reduceMul, Int.reduceToNat, Nat.reduceLeDiff, Int.reduceLE, Int.reduceLT, ↓reduceIte, Int.reduceBEq, Int.reduceBNe, Int.reduceAdd, Int.reduceSub, Int.reduceMul, qFin_ret, qFin_normal]; (try ((refine okTr_and ?_ ?_); (· rfl))))
        ((refine FinK.fin r4 [] ?_ ?_ ?_ ?_ ?_ ?_); (· decide); (· rfl); (· simp); (· rfl); (· first | with_reducible rfl | (simp [ints_nil, ren_lit, ren_ref, ren_any, ren_agg, ren_tup, ren_sl, ren_fn, tren_none, tren_full, tren_row, oren_cells, oren_row, oren_dead, ixs_z, ixs_1, ixs_2, ixs_3, ren_ints, List.map_cons, List.map_nil]; done) | rfl); (· simp [resAL, resA1, loadA, oneOr, ints_nil, ren_lit, ren_ref, ren_any, ren_agg, ren_tup, ren_sl, ren_fn, tren_none, tren_full, tren_row, oren_cells, oren_row, oren_dead, ixs_z, ixs_1, ixs_2, ixs_3, ren_ints, List.map_cons, List.map_nil]))
  · (simp only [go_sem, Nat.reduceAdd, Nat.reduceMul, Int.reduceToNat, Nat.reduceLeDiff, Int.reduceLE, Int.reduceLT, ↓reduceIte, Int.reduceBEq, Int.reduceBNe, Int.reduceAdd, Int.reduceSub, Int.reduceMul, qFin_ret, qFin_normal, hL]; (try ((refine okTr_and ?_ ?_); (· rfl))))
    refine CallK.p (live12) ?_; (simp only [go_sem, Nat.reduceAdd, Nat.reduceMul, Int.reduceToNat, Nat.reduceLeDiff, Int.reduceLE, Int.reduceLT, ↓reduceIte, Int.reduceBEq, Int.reduceBNe, Int.reduceAdd, Int.reduceSub, Int.reduceMul, qFin_ret, qFin_normal]; (try ((refine okTr_and ?_ ?_); (· rfl))))
    ((refine FinK.fin r4 [] ?_ ?_ ?_ ?_ ?_ ?_); (· decide); (· rfl); (· simp); (· rfl); (· first | with_reducible rfl | (simp [ints_nil, ren_lit, ren_ref, ren_any, ren_agg, ren_tup, ren_sl, ren_fn, tren_none, tren_full, tren_row, oren_cells, oren_row, oren_dead, ixs_z, ixs_1, ixs_2, ixs_3, ren_ints, List.map_cons, List.map_nil]; done) | rfl); (· simp [resAL, resA1, loadA, oneOr, ints_nil, ren_lit, ren_ref, ren_any, ren_agg, ren_tup, ren_sl, ren_fn, tren_none, tren_full, tren_row, oren_cells, oren_row, oren_dead, ixs_z, ixs_1, ixs_2, ixs_3, ren_ints, List.map_cons, List.map_nil]))
end Go.Proofs.Ytpjkmidjjodplaa
