/-
  Contracts of chapter 12: expand.Bytes walked.
-/
import Derived.Test.YtpjkmidjjodplaaK30
set_option linter.all false
set_option linter.unusedSimpArgs false
set_option linter.unusedVariables false
set_option linter.unnecessarySimpa false
namespace Go.Proofs.Ytpjkmidjjodplaa
open Go.RowKit

theorem take_short (s : RS) (n : Int) : (s.take n).2.length ≤ n.toNat := by
  unfold RS.take; split
  · simp only [List.length_take]; omega
  · simp
theorem fail_bad {s : RS} {c : Int} (a : Int) (hc : c ≠ 0) : ¬ (s.fail c a).code = 0 := by
  by_cases h : s.code = 0
  · exact fail_no h hc
  · rw [fail_keep h]; exact h
theorem thead_most {s : RS} (h : ROk s) : 0 ≤ s.thead.2.2 ∧ s.thead.2.2 ≤ 1048576 := by
  by_cases hh : s.thead.1.code = 0
  · obtain ⟨_, _, h3⟩ := thead_is h hh
    rcases h3 with ⟨_, _, a, b⟩ | ⟨_, _, a, b⟩ <;> omega
  · rw [thead_bad hh]; simp
/-- What the walk keeps of what is made: no more than the bound, nor than the bytes read let. -/
def Made (b : List Int) (bound : Int) (s : RS) (out : List Int) : Prop := s.l = b ∧ (out.length : Int) ≤ max bound 0 ∧ (s.code = 0 → (out.length : Int) ≤ 1048576 * s.at_) ∧ out.length ≤ 1048576 * b.length
theorem Made.bad {b : List Int} {bound : Int} {s t : RS} {out : List Int} (h : Made b bound s out) (hl : t.l = s.l) (hc : ¬ t.code = 0) : Made b bound t out := ⟨hl.trans h.1, h.2.1, fun h => absurd h hc, h.2.2.2⟩
theorem Made.more {b : List Int} {bound : Int} {s t : RS} {out o : List Int} (h : Made b bound s out) (hs : s.code = 0) (ht : ROk t) (hl : t.l = s.l) (ha : s.at_ < t.at_) (h1 : (o.length : Int) ≤ max bound 0) (h2 : o.length ≤ out.length + 1048576) : Made b bound t o := by
  obtain ⟨a1, a2, a3, a4⟩ := h
  have := a3 hs
  have h5 := ht.at1
  have h6 : t.l.length = b.length := by rw [hl, a1]
  exact ⟨hl.trans a1, h1, fun _ => by omega, by omega⟩
set_option maxRecDepth 100000 in
theorem expand_Bytes0 (b : List Int) (bound : Int) (b0 : -9223372036854775808 ≤ bound) (b1 : bound < 9223372036854775808) (hb : Bys b) (hn : b.length ≤ 1000000) : Does Try.prog 47 [slA .u8 b, iA bound] [] (expA (expB bound (RS.new b) [])) [] := by
  obtain ⟨E, hE⟩ : ∃ E, expB bound (RS.new b) [] = E := ⟨_, rfl⟩
  rw [hE]
  refine Does.run Try.func47 b47 n47 Try.ntmps47 (by simp only [List.cons_append, List.nil_append, List.length_cons, List.length_nil, Nat.zero_add, Nat.reduceAdd, Nat.reduceSub, List.replicate]; rfl) ?_; simp only [c47, go_sem, Nat.reduceAdd, Nat.reduceMul, Int.reduceToNat, Nat.reduceLeDiff, Int.reduceLE, Int.reduceLT, ↓reduceIte, Int.reduceBEq, Int.reduceBNe, Int.reduceAdd, Int.reduceSub, Int.reduceMul, qFin_ret, qFin_normal]; (try ((refine okTr_and ?_ ?_); (· rfl)))
  refine scope_two (α := RS × List Int) (by rfl) (by rfl) (fun a => [slA .u8 b, iA bound, .any, .any, .any, .ref 0 0, .ref 1 0, ownA 2 a.2.2, .any, .any, .any, .any, .any, .any, .any, .any, .any, .any, .any, .any, .any, .any, .any, .any, .any, .any, .any, .any, .any, .any, .any, .any, .any, .any, .any, .any, .any, .any, .any, .any, .any, .any, .any, .any, .any, .any, .any, .any, .any, .any, .any, .any, .any, .any, .any, .any, .any, .any, .any, .any, .any, .any, .any, .any, .any, .any, .any, .any, .any, .any, .any]) (fun a => [.cells [iA 0, iA 0], rdr a.2.1, .row 1 a.2.2.length]) (fun a => ROk a.2.1 ∧ Made b bound a.2.1 a.2.2 ∧ (cond a.1 (expR bound a.2.1 a.2.2) (expE a.2.1 a.2.2)) = E) (fun a => cond a.1 (1 + if a.2.1.code = 0 then a.2.1.left.toNat + 1 else 0) 0) (fun pass => ?_) ?_
  · (simp only [go_sem, Nat.reduceAdd, Nat.reduceMul, Int.reduceToNat, Nat.reduceLeDiff, Int.reduceLE, Int.reduceLT, ↓reduceIte, Int.reduceBEq, Int.reduceBNe, Int.reduceAdd, Int.reduceSub, Int.reduceMul, qFin_ret, qFin_normal]; (try ((refine okTr_and ?_ ?_); (· rfl))))
    refine CallK.n (cursor_New b) ?_; (simp only [go_sem, Nat.reduceAdd, Nat.reduceMul, Int.reduceToNat, Nat.reduceLeDiff, Int.reduceLE, Int.reduceLT, ↓reduceIte, Int.reduceBEq, Int.reduceBNe, Int.reduceAdd, Int.reduceSub, Int.reduceMul, qFin_ret, qFin_normal]; (try ((refine okTr_and ?_ ?_); (· rfl))))
    exact kLab_go ((Wk.row 7 1 rfl (.inl rfl) (Nat.le_refl _)).trans (Wk.to (by simp) (by simp [leT, ints]))) (pass (true, RS.new b, []) ⟨ROk.new hb (by omega), ⟨rfl, by simp; omega, by simp [RS.new], by simp⟩, by simp only [cond]; rw [← hE]; rfl⟩)
  · rintro ⟨c, R, out⟩ ⟨h1, h2, h3⟩
    simp only at h1 h2 h3
    obtain ⟨g1, g2, g3, g4⟩ := h2
    cases c
    · simp only [cond] at h3 ⊢
      (simp only [go_sem, Nat.reduceAdd, Nat.reduceMul, Int.reduceToNat, Nat.reduceLeDiff, Int.reduceLE, Int.reduceLT, ↓reduceIte, Int.reduceBEq, Int.reduceBNe, Int.reduceAdd, Int.reduceSub, Int.reduceMul, qFin_ret, qFin_normal]; (try ((refine okTr_and ?_ ?_); (· rfl))))
      refine CallK.r1 (Reader_Fault R _) rfl ?_; (simp only [go_sem, Nat.reduceAdd, Nat.reduceMul, Int.reduceToNat, Nat.reduceLeDiff, Int.reduceLE, Int.reduceLT, ↓reduceIte, Int.reduceBEq, Int.reduceBNe, Int.reduceAdd, Int.reduceSub, Int.reduceMul, qFin_ret, qFin_normal]; (try ((refine okTr_and ?_ ?_); (· rfl))))
      by_cases hc : R.code = 0
      · have q : (R.code == 0) = true := by simpa using hc
        have he : E = (out, (0, 0)) := by rw [← h3]; unfold expE; rw [if_pos hc]
        refine CallK.p (fault_Good _ _) ?_; (simp only [go_sem, Nat.reduceAdd, Nat.reduceMul, Int.reduceToNat, Nat.reduceLeDiff, Int.reduceLE, Int.reduceLT, ↓reduceIte, Int.reduceBEq, Int.reduceBNe, Int.reduceAdd, Int.reduceSub, Int.reduceMul, qFin_ret, qFin_normal, q]; (try ((refine okTr_and ?_ ?_); (· rfl))))
        (refine FinK.untag 4 rfl ?_; simp only [untag1_sl, List.set_cons_zero, List.set_cons_succ])
        ((refine FinK.fin r47 [] ?_ ?_ ?_ ?_ ?_ ?_); (· decide); (· rfl); (· simp); (· rfl); (· first | with_reducible rfl | (simp [ints_nil, ren_lit, ren_ref, ren_any, ren_agg, ren_tup, ren_sl, ren_fn, tren_none, tren_full, tren_row, oren_cells, oren_row, oren_dead, ixs_z, ixs_1, ixs_2, ixs_3, ren_ints, List.map_cons, List.map_nil, he]; done) | rfl); (· simp [resAL, resA1, loadA, oneOr, ints_nil, ren_lit, ren_ref, ren_any, ren_agg, ren_tup, ren_sl, ren_fn, tren_none, tren_full, tren_row, oren_cells, oren_row, oren_dead, ixs_z, ixs_1, ixs_2, ixs_3, ren_ints, List.map_cons, List.map_nil, he]))
      · have q : (R.code == 0) = false := by simpa using hc
        have he : E = ([], (R.code, R.fat)) := by rw [← h3]; unfold expE; rw [if_neg hc]
        refine CallK.p (fault_Good _ _) ?_; (simp only [go_sem, Nat.reduceAdd, Nat.reduceMul, Int.reduceToNat, Nat.reduceLeDiff, Int.reduceLE, Int.reduceLT, ↓reduceIte, Int.reduceBEq, Int.reduceBNe, Int.reduceAdd, Int.reduceSub, Int.reduceMul, qFin_ret, qFin_normal, q]; (try ((refine okTr_and ?_ ?_); (· rfl))))
        (refine FinK.untag 4 rfl ?_; simp only [untag1_sl, List.set_cons_zero, List.set_cons_succ])
        ((refine FinK.fin r47 [] ?_ ?_ ?_ ?_ ?_ ?_); (· decide); (· rfl); (· simp); (· rfl); (· first | with_reducible rfl | (simp [ints_nil, ren_lit, ren_ref, ren_any, ren_agg, ren_tup, ren_sl, ren_fn, tren_none, tren_full, tren_row, oren_cells, oren_row, oren_dead, ixs_z, ixs_1, ixs_2, ixs_3, ren_ints, List.map_cons, List.map_nil, he]; done) | rfl); (· simp [resAL, resA1, loadA, oneOr, ints_nil, ren_lit, ren_ref, ren_any, ren_agg, ren_tup, ren_sl, ren_fn, tren_none, tren_full, tren_row, oren_cells, oren_row, oren_dead, ixs_z, ixs_1, ixs_2, ixs_3, ren_ints, List.map_cons, List.map_nil, he]))
    · simp only [cond] at h3 ⊢
      (simp only [go_sem, Nat.reduceAdd, Nat.reduceMul, Int.reduceToNat, Nat.reduceLeDiff, Int.reduceLE, Int.reduceLT, ↓reduceIte, Int.reduceBEq, Int.reduceBNe, Int.reduceAdd, Int.reduceSub, Int.reduceMul, qFin_ret, qFin_normal]; (try ((refine okTr_and ?_ ?_); (· rfl))))
      refine CallK.r1 (Reader_Left R _ h1.ok) rfl ?_; (simp only [go_sem, Nat.reduceAdd, Nat.reduceMul, Int.reduceToNat, Nat.reduceLeDiff, Int.reduceLE, Int.reduceLT, ↓reduceIte, Int.reduceBEq, Int.reduceBNe, Int.reduceAdd, Int.reduceSub, Int.reduceMul, qFin_ret, qFin_normal]; (try ((refine okTr_and ?_ ?_); (· rfl))))
      by_cases hl : R.left = 0
      · have q : (R.left == 0) = true := by simpa using hl
        (simp only [go_sem, Nat.reduceAdd, Nat.reduceMul, Int.reduceToNat, Nat.reduceLeDiff, Int.reduceLE, Int.reduceLT, ↓reduceIte, Int.reduceBEq, Int.reduceBNe, Int.reduceAdd, Int.reduceSub, Int.reduceMul, qFin_ret, qFin_normal, q]; (try ((refine okTr_and ?_ ?_); (· rfl))))
        exact ⟨(false, R, out), rfl, ⟨h1, ⟨g1, g2, g3, g4⟩, (expR_end (s := R) (by omega)).symm.trans h3⟩, by simp only; omega, Wk.to (by simp) (by simp [leT])⟩
      · have q : (R.left == 0) = false := by simpa using hl
        (simp only [go_sem, Nat.reduceAdd, Nat.reduceMul, Int.reduceToNat, Nat.reduceLeDiff, Int.reduceLE, Int.reduceLT, ↓reduceIte, Int.reduceBEq, Int.reduceBNe, Int.reduceAdd, Int.reduceSub, Int.reduceMul, qFin_ret, qFin_normal, q]; (try ((refine okTr_and ?_ ?_); (· rfl))))
        by_cases hc : R.code = 0
        · refine CallK.r1 (Reader_Good R _) rfl ?_; (simp only [go_sem, Nat.reduceAdd, Nat.reduceMul, Int.reduceToNat, Nat.reduceLeDiff, Int.reduceLE, Int.reduceLT, ↓reduceIte, Int.reduceBEq, Int.reduceBNe, Int.reduceAdd, Int.reduceSub, Int.reduceMul, qFin_ret, qFin_normal, good_true hc]; (try ((refine okTr_and ?_ ?_); (· rfl))))
          refine CallK.r1 (Reader_At R _) rfl ?_; (simp only [go_sem, Nat.reduceAdd, Nat.reduceMul, Int.reduceToNat, Nat.reduceLeDiff, Int.reduceLE, Int.reduceLT, ↓reduceIte, Int.reduceBEq, Int.reduceBNe, Int.reduceAdd, Int.reduceSub, Int.reduceMul, qFin_ret, qFin_normal]; (try ((refine okTr_and ?_ ?_); (· rfl))))
          refine CallK.u1 (token_Head R _ h1) rfl ?_; (simp only [go_sem, Nat.reduceAdd, Nat.reduceMul, Int.reduceToNat, Nat.reduceLeDiff, Int.reduceLE, Int.reduceLT, ↓reduceIte, Int.reduceBEq, Int.reduceBNe, Int.reduceAdd, Int.reduceSub, Int.reduceMul, qFin_ret, qFin_normal]; (try ((refine okTr_and ?_ ?_); (· rfl))))
          have hlp : 0 < R.left := by obtain ⟨z1, z2, z3⟩ := h1.ok; unfold RS.left at hl ⊢; omega
          have ew : IntKind.i64.wrap (bound - (out.length : Int)) = bound - out.length := IntWalk.i64_in _ (by omega)
          obtain ⟨k1, k2⟩ := thead_keep h1
          obtain ⟨m1, m2⟩ := thead_most h1
          by_cases ho : bound - (out.length : Int) < R.thead.2.2
          · have q2 : decide (bound - (out.length : Int) < R.thead.2.2) = true := by simpa using ho
            (simp only [go_sem, Nat.reduceAdd, Nat.reduceMul, Int.reduceToNat, Nat.reduceLeDiff, Int.reduceLE, Int.reduceLT, ↓reduceIte, Int.reduceBEq, Int.reduceBNe, Int.reduceAdd, Int.reduceSub, Int.reduceMul, qFin_ret, qFin_normal, ints_length, ew, q2]; (try ((refine okTr_and ?_ ?_); (· rfl))))
            refine CallK.u1 (Reader_Fail R.thead.1 11 R.at_ _) rfl ?_; (simp only [go_sem, Nat.reduceAdd, Nat.reduceMul, Int.reduceToNat, Nat.reduceLeDiff, Int.reduceLE, Int.reduceLT, ↓reduceIte, Int.reduceBEq, Int.reduceBNe, Int.reduceAdd, Int.reduceSub, Int.reduceMul, qFin_ret, qFin_normal]; (try ((refine okTr_and ?_ ?_); (· rfl))))
            exact ⟨(false, R.thead.1.fail 11 R.at_, out), rfl, ⟨k1.fail _ _, Made.bad ⟨g1, g2, g3, g4⟩ (by rw [fail_l]; exact k2) (fail_bad _ (by decide)), (expR_over hc hlp (by omega)).symm.trans h3⟩, by simp only; omega, Wk.to (by simp) (by simp [leT])⟩
          · have q2 : decide (bound - (out.length : Int) < R.thead.2.2) = false := by simpa using ho
            cases hr : R.thead.2.1
            · (simp only [go_sem, Nat.reduceAdd, Nat.reduceMul, Int.reduceToNat, Nat.reduceLeDiff, Int.reduceLE, Int.reduceLT, ↓reduceIte, Int.reduceBEq, Int.reduceBNe, Int.reduceAdd, Int.reduceSub, Int.reduceMul, qFin_ret, qFin_normal, ints_length, ew, q2, hr]; (try ((refine okTr_and ?_ ?_); (· rfl))))
              refine CallK.u1 (Reader_Take R.thead.1 R.thead.2.2 _ k1.ok) rfl ?_; (simp only [go_sem, Nat.reduceAdd, Nat.reduceMul, Int.reduceToNat, Nat.reduceLeDiff, Int.reduceLE, Int.reduceLT, ↓reduceIte, Int.reduceBEq, Int.reduceBNe, Int.reduceAdd, Int.reduceSub, Int.reduceMul, qFin_ret, qFin_normal, ints_append, ints_length, ← List.length_append]; (try ((refine okTr_and ?_ ?_); (· rfl))))
              have hts := take_short R.thead.1 R.thead.2.2
              have hlen : ((out ++ (R.thead.1.take R.thead.2.2).2).length : Int) ≤ max bound 0 := by rw [List.length_append]; omega
              have hmade : Made b bound (R.thead.1.take R.thead.2.2).1 (out ++ (R.thead.1.take R.thead.2.2).2) := by
                have hl2 : (R.thead.1.take R.thead.2.2).1.l = R.l := by rw [(k1.ok.take R.thead.2.2).2]; exact k2
                by_cases hz : (R.thead.1.take R.thead.2.2).1.code = 0
                · have hh : R.thead.1.code = 0 := by
                    by_cases hh : R.thead.1.code = 0
                    · exact hh
                    · unfold RS.take RS.skip at hz; rw [if_neg hh] at hz; exact absurd hz hh
                  have e : R.token.1 = (R.thead.1.take R.thead.2.2).1 := by
                    unfold RS.token; rw [if_pos hh, hr]; simp only [Bool.false_eq_true, if_false]; split <;> rfl
                  have hat := (token_is h1 (by rw [e]; exact hz)).2.2.2.1
                  rw [e] at hat
                  exact Made.more ⟨g1, g2, g3, g4⟩ hc (k1.take _) hl2 hat hlen (by rw [List.length_append]; omega)
                · rw [take_bad hz, List.append_nil]
                  exact Made.bad ⟨g1, g2, g3, g4⟩ hl2 hz
              refine ⟨by rw [List.length_append]; omega, (true, (R.thead.1.take R.thead.2.2).1, out ++ (R.thead.1.take R.thead.2.2).2), rfl, ⟨k1.take _, hmade, (expR_run h1 hc hlp (by omega) hr).symm.trans h3⟩, ?_, Wk.to (by simp) (by simp [leT])⟩
              simp only [cond]
              rw [if_pos hc]
              split
              · rename_i hz
                have hh : R.thead.1.code = 0 := by
                  by_cases hh : R.thead.1.code = 0
                  · exact hh
                  · unfold RS.take RS.skip at hz; rw [if_neg hh] at hz; exact absurd hz hh
                have e : R.token.1 = (R.thead.1.take R.thead.2.2).1 := by
                  unfold RS.token; rw [if_pos hh, hr]; simp only [Bool.false_eq_true, if_false]; split <;> rfl
                have hlt := (token_left h1 (by rw [e]; exact hz)).1
                rw [e] at hlt
                omega
              · omega
            · (simp only [go_sem, Nat.reduceAdd, Nat.reduceMul, Int.reduceToNat, Nat.reduceLeDiff, Int.reduceLE, Int.reduceLT, ↓reduceIte, Int.reduceBEq, Int.reduceBNe, Int.reduceAdd, Int.reduceSub, Int.reduceMul, qFin_ret, qFin_normal, ints_length, ew, q2, hr]; (try ((refine okTr_and ?_ ?_); (· rfl))))
              refine CallK.r1 (Reader_At R.thead.1 _) rfl ?_; (simp only [go_sem, Nat.reduceAdd, Nat.reduceMul, Int.reduceToNat, Nat.reduceLeDiff, Int.reduceLE, Int.reduceLT, ↓reduceIte, Int.reduceBEq, Int.reduceBNe, Int.reduceAdd, Int.reduceSub, Int.reduceMul, qFin_ret, qFin_normal]; (try ((refine okTr_and ?_ ?_); (· rfl))))
              refine CallK.u1 (token_Offset R.thead.1 _ k1) rfl ?_; (simp only [go_sem, Nat.reduceAdd, Nat.reduceMul, Int.reduceToNat, Nat.reduceLeDiff, Int.reduceLE, Int.reduceLT, ↓reduceIte, Int.reduceBEq, Int.reduceBNe, Int.reduceAdd, Int.reduceSub, Int.reduceMul, qFin_ret, qFin_normal]; (try ((refine okTr_and ?_ ?_); (· rfl))))
              obtain ⟨k3, k4⟩ := toff_keep k1
              by_cases hf : (out.length : Int) < R.thead.1.toff.2
              · have q3 : decide ((out.length : Int) < R.thead.1.toff.2) = true := by simpa using hf
                (simp only [go_sem, Nat.reduceAdd, Nat.reduceMul, Int.reduceToNat, Nat.reduceLeDiff, Int.reduceLE, Int.reduceLT, ↓reduceIte, Int.reduceBEq, Int.reduceBNe, Int.reduceAdd, Int.reduceSub, Int.reduceMul, qFin_ret, qFin_normal, ints_length, q3]; (try ((refine okTr_and ?_ ?_); (· rfl))))
                refine CallK.u1 (Reader_Fail R.thead.1.toff.1 10 R.thead.1.at_ _) rfl ?_; (simp only [go_sem, Nat.reduceAdd, Nat.reduceMul, Int.reduceToNat, Nat.reduceLeDiff, Int.reduceLE, Int.reduceLT, ↓reduceIte, Int.reduceBEq, Int.reduceBNe, Int.reduceAdd, Int.reduceSub, Int.reduceMul, qFin_ret, qFin_normal]; (try ((refine okTr_and ?_ ?_); (· rfl))))
                have hbad : ¬ (R.thead.1.toff.1.fail 10 R.thead.1.at_).code = 0 := by
                  by_cases ht : R.thead.1.toff.1.code = 0
                  · exact fail_no ht (by decide)
                  · rw [fail_keep ht]; exact ht
                refine CallK.r1 (Reader_Good (R.thead.1.toff.1.fail 10 R.thead.1.at_) _) rfl ?_; (simp only [go_sem, Nat.reduceAdd, Nat.reduceMul, Int.reduceToNat, Nat.reduceLeDiff, Int.reduceLE, Int.reduceLT, ↓reduceIte, Int.reduceBEq, Int.reduceBNe, Int.reduceAdd, Int.reduceSub, Int.reduceMul, qFin_ret, qFin_normal, good_false hbad]; (try ((refine okTr_and ?_ ?_); (· rfl))))
                exact ⟨(true, R.thead.1.toff.1.fail 10 R.thead.1.at_, out), rfl, ⟨k3.fail _ _, Made.bad ⟨g1, g2, g3, g4⟩ (by rw [fail_l, k4, k2]) hbad, ((expR_far hc hlp (by omega) hr hf (o := out)).trans (expR_bad hbad).symm).symm.trans h3⟩, by simp only [cond]; rw [if_pos hc, if_neg hbad]; omega, Wk.to (by simp) (by simp [leT])⟩
              · have q3 : decide ((out.length : Int) < R.thead.1.toff.2) = false := by simpa using hf
                (simp only [go_sem, Nat.reduceAdd, Nat.reduceMul, Int.reduceToNat, Nat.reduceLeDiff, Int.reduceLE, Int.reduceLT, ↓reduceIte, Int.reduceBEq, Int.reduceBNe, Int.reduceAdd, Int.reduceSub, Int.reduceMul, qFin_ret, qFin_normal, ints_length, q3]; (try ((refine okTr_and ?_ ?_); (· rfl))))
                by_cases ht : R.thead.1.toff.1.code = 0
                · refine CallK.r1 (Reader_Good R.thead.1.toff.1 _) rfl ?_; (simp only [go_sem, Nat.reduceAdd, Nat.reduceMul, Int.reduceToNat, Nat.reduceLeDiff, Int.reduceLE, Int.reduceLT, ↓reduceIte, Int.reduceBEq, Int.reduceBNe, Int.reduceAdd, Int.reduceSub, Int.reduceMul, qFin_ret, qFin_normal, good_true ht]; (try ((refine okTr_and ?_ ?_); (· rfl))))
                  have hh : R.thead.1.code = 0 := by
                    by_cases hh : R.thead.1.code = 0
                    · exact hh
                    · rw [thead_bad hh] at hr; cases hr
                  obtain ⟨j1, j2, j3⟩ := thead_is h1 hh
                  have hn1 : 4 ≤ R.thead.2.2 ∧ R.thead.2.2 ≤ 1048576 := by
                    rcases j3 with ⟨c1, c2, c3, c4⟩ | ⟨c1, c2, c3, c4⟩
                    · exact ⟨c3, c4⟩
                    · rw [hr] at c1; cases c1
                  obtain ⟨t1, t2, t3, t4⟩ := toff_is ht
                  have hvr := vint_range (s := R.thead.1) k1.bys
                  have htk : R.token = (R.thead.1.toff.1, ⟨[], R.thead.1.toff.2, R.thead.2.2⟩) := by
                    unfold RS.token; rw [if_pos hh, if_pos hr, if_pos ht]
                  have hlt := (token_left h1 (by rw [htk]; exact ht)).1
                  rw [htk] at hlt
                  simp only at hlt
                  have hal := again_len R.thead.1.toff.2.toNat R.thead.2.2.toNat out
                  have hat := (token_is h1 (by rw [htk]; exact ht)).2.2.2.1
                  rw [htk] at hat
                  simp only at hat
                  have hmade : Made b bound R.thead.1.toff.1 (again out R.thead.1.toff.2.toNat R.thead.2.2.toNat) := Made.more ⟨g1, g2, g3, g4⟩ hc k3 (k4.trans k2) hat (by omega) (by omega)
                  refine CallK.o1 (expand_again out R.thead.1.toff.2 R.thead.2.2 _ hn1.2 (fun _ => ⟨by omega, by omega⟩) (by omega)) rfl ?_; (simp only [go_sem, Nat.reduceAdd, Nat.reduceMul, Int.reduceToNat, Nat.reduceLeDiff, Int.reduceLE, Int.reduceLT, ↓reduceIte, Int.reduceBEq, Int.reduceBNe, Int.reduceAdd, Int.reduceSub, Int.reduceMul, qFin_ret, qFin_normal]; (try ((refine okTr_and ?_ ?_); (· rfl))))
                  exact ⟨(true, R.thead.1.toff.1, again out R.thead.1.toff.2.toNat R.thead.2.2.toNat), rfl, ⟨k3, hmade, (expR_copy h1 hc hlp (by omega) hr hf ht).symm.trans h3⟩, by simp only [cond]; rw [if_pos hc, if_pos ht]; omega, Wk.to (by simp) (by simp [leT])⟩
                · refine CallK.r1 (Reader_Good R.thead.1.toff.1 _) rfl ?_; (simp only [go_sem, Nat.reduceAdd, Nat.reduceMul, Int.reduceToNat, Nat.reduceLeDiff, Int.reduceLE, Int.reduceLT, ↓reduceIte, Int.reduceBEq, Int.reduceBNe, Int.reduceAdd, Int.reduceSub, Int.reduceMul, qFin_ret, qFin_normal, good_false ht]; (try ((refine okTr_and ?_ ?_); (· rfl))))
                  exact ⟨(true, R.thead.1.toff.1, out), rfl, ⟨k3, Made.bad ⟨g1, g2, g3, g4⟩ (k4.trans k2) ht, ((expR_short hc hlp (by omega) hr ht out).trans (expR_bad ht).symm).symm.trans h3⟩, by simp only [cond]; rw [if_pos hc, if_neg ht]; omega, Wk.to (by simp) (by simp [leT])⟩
        · refine CallK.r1 (Reader_Good R _) rfl ?_; (simp only [go_sem, Nat.reduceAdd, Nat.reduceMul, Int.reduceToNat, Nat.reduceLeDiff, Int.reduceLE, Int.reduceLT, ↓reduceIte, Int.reduceBEq, Int.reduceBNe, Int.reduceAdd, Int.reduceSub, Int.reduceMul, qFin_ret, qFin_normal, good_false hc]; (try ((refine okTr_and ?_ ?_); (· rfl))))
          exact ⟨(false, R, out), rfl, ⟨h1, ⟨g1, g2, g3, g4⟩, (expR_bad hc).symm.trans h3⟩, by simp only; omega, Wk.to (by simp) (by simp [leT])⟩
theorem expand_Bytes (b : List Int) (bound : Int) (b0 : -9223372036854775808 ≤ bound) (b1 : bound < 9223372036854775808) (hb : Bys b) (hn : b.length ≤ 1000000) : Ct Try.prog 47 [slA .u8 b, iA bound] [] (fun _ => expA (expB bound (RS.new b) [])) [] (fun _ => []) := (expand_Bytes0 b bound b0 b1 hb hn).toCt (by intros; simp [ints_nil, ren_lit, ren_ref, ren_any, ren_agg, ren_tup, ren_sl, ren_fn, tren_none, tren_full, tren_row, oren_cells, oren_row, oren_dead, ixs_z, ixs_1, ixs_2, ixs_3, ren_ints, List.map_cons, List.map_nil, ixs, List.range'_succ, ren_ints]) (by intros; simp [ints_nil, ren_lit, ren_ref, ren_any, ren_agg, ren_tup, ren_sl, ren_fn, tren_none, tren_full, tren_row, oren_cells, oren_row, oren_dead, ixs_z, ixs_1, ixs_2, ixs_3, ren_ints, List.map_cons, List.map_nil, ixs, List.range'_succ, ren_ints])
end Go.Proofs.Ytpjkmidjjodplaa
