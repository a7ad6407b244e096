/-
  Chapter 33: FooterWrites.
-/
import Derived.Test.YtkhnfleejgfhgaaK51
import Derived.Test.YtkhnfleejgfhgaaK53
set_option linter.all false
set_option linter.unusedSimpArgs false
set_option linter.unusedVariables false
set_option linter.unnecessarySimpa false
namespace Go.Proofs.Ytkhnfleejgfhgaa
open Go.RowKit

theorem wbys_app {a b : List Int} (ha : Bys a) (hb : Bys b) : Bys (a ++ b) := fun x hx => by rcases List.mem_append.1 hx with hx | hx; exact ha x hx; exact hb x hx
set_option maxHeartbeats 2000000 in
set_option maxRecDepth 100000 in
theorem law_FooterWrites (f : Ft) (p : List Int) (n : Int) (hf : f.ok) (hp : Bys p) : Does Try.prog 18 [ftA f, slA .u8 p, iA n] [] (bA true) [] := by
  refine Does.run Try.func18 b18 n18 Try.ntmps18 (by simp only [List.cons_append, List.nil_append, List.length_cons, List.length_nil, Nat.zero_add, Nat.reduceAdd, Nat.reduceSub, List.replicate]; rfl) ?_; simp only [c18, go_sem, Nat.reduceAdd, Nat.reduceMul, Int.reduceToNat, Nat.reduceLeDiff, Int.reduceLE, Int.reduceLT, ↓reduceIte, Int.reduceBEq, Int.reduceBNe, Int.reduceAdd, Int.reduceSub, Int.reduceMul, qFin_ret, qFin_normal, ints_length]; (try ((refine okTr_and ?_ ?_); (· rfl)))
  by_cases hl : 300 < (p.length : Int)
  · have q1 : decide (300 < (p.length : Int)) = true := decide_eq_true hl
    (simp only [go_sem, Nat.reduceAdd, Nat.reduceMul, Int.reduceToNat, Nat.reduceLeDiff, Int.reduceLE, Int.reduceLT, ↓reduceIte, Int.reduceBEq, Int.reduceBNe, Int.reduceAdd, Int.reduceSub, Int.reduceMul, qFin_ret, qFin_normal, q1]; (try ((refine okTr_and ?_ ?_); (· rfl))))
    refine CallK.p (live33) ?_; (simp only [go_sem, Nat.reduceAdd, Nat.reduceMul, Int.reduceToNat, Nat.reduceLeDiff, Int.reduceLE, Int.reduceLT, ↓reduceIte, Int.reduceBEq, Int.reduceBNe, Int.reduceAdd, Int.reduceSub, Int.reduceMul, qFin_ret, qFin_normal]; (try ((refine okTr_and ?_ ?_); (· rfl))))
    ((refine FinK.fin r18 [] ?_ ?_ ?_ ?_ ?_ ?_); (· decide); (· rfl); (· simp); (· rfl); (· first | with_reducible rfl | (simp [ints_nil, ren_lit, ren_ref, ren_any, ren_agg, ren_tup, ren_sl, ren_fn, tren_none, tren_full, tren_row, oren_cells, oren_row, oren_dead, ixs_z, ixs_1, ixs_2, ixs_3, ren_ints, List.map_cons, List.map_nil]; done) | rfl); (· simp [resAL, resA1, loadA, oneOr, ints_nil, ren_lit, ren_ref, ren_any, ren_agg, ren_tup, ren_sl, ren_fn, tren_none, tren_full, tren_row, oren_cells, oren_row, oren_dead, ixs_z, ixs_1, ixs_2, ixs_3, ren_ints, List.map_cons, List.map_nil]))
  · have q1 : decide (300 < (p.length : Int)) = false := decide_eq_false hl
    have hw := u64w n
    obtain ⟨x, hx⟩ : ∃ x, IntKind.u64.wrap n = x := ⟨_, rfl⟩
    rw [hx] at hw
    have htb := trailB_bys x
    (simp only [go_sem, Nat.reduceAdd, Nat.reduceMul, Int.reduceToNat, Nat.reduceLeDiff, Int.reduceLE, Int.reduceLT, ↓reduceIte, Int.reduceBEq, Int.reduceBNe, Int.reduceAdd, Int.reduceSub, Int.reduceMul, qFin_ret, qFin_normal, q1]; (try ((refine okTr_and ?_ ?_); (· rfl))))
    refine CallK.p (footer_Bytes f hf) ?_; (simp only [go_sem, Nat.reduceAdd, Nat.reduceMul, Int.reduceToNat, Nat.reduceLeDiff, Int.reduceLE, Int.reduceLT, ↓reduceIte, Int.reduceBEq, Int.reduceBNe, Int.reduceAdd, Int.reduceSub, Int.reduceMul, qFin_ret, qFin_normal]; (try ((refine okTr_and ?_ ?_); (· rfl))))
    refine CallK.p (footer_Payload f hf) ?_; (simp only [go_sem, Nat.reduceAdd, Nat.reduceMul, Int.reduceToNat, Nat.reduceLeDiff, Int.reduceLE, Int.reduceLT, ↓reduceIte, Int.reduceBEq, Int.reduceBNe, Int.reduceAdd, Int.reduceSub, Int.reduceMul, qFin_ret, qFin_normal]; (try ((refine okTr_and ?_ ?_); (· rfl))))
    refine CallK.p (footer_Right f hf.fst.1 hf.fst.2 hf.fin.1 hf.fin.2) ?_; (simp only [go_sem, Nat.reduceAdd, Nat.reduceMul, Int.reduceToNat, Nat.reduceLeDiff, Int.reduceLE, Int.reduceLT, ↓reduceIte, Int.reduceBEq, Int.reduceBNe, Int.reduceAdd, Int.reduceSub, Int.reduceMul, qFin_ret, qFin_normal]; (try ((refine okTr_and ?_ ?_); (· rfl))))
    refine CallK.p (law33_as f) ?_; (simp only [go_sem, Nat.reduceAdd, Nat.reduceMul, Int.reduceToNat, Nat.reduceLeDiff, Int.reduceLE, Int.reduceLT, ↓reduceIte, Int.reduceBEq, Int.reduceBNe, Int.reduceAdd, Int.reduceSub, Int.reduceMul, qFin_ret, qFin_normal]; (try ((refine okTr_and ?_ ?_); (· rfl))))
    refine CallK.p (ref33_Right f hf.fst.1 hf.fst.2 hf.fin.1 hf.fin.2) ?_; (simp only [go_sem, Nat.reduceAdd, Nat.reduceMul, Int.reduceToNat, Nat.reduceLeDiff, Int.reduceLE, Int.reduceLT, ↓reduceIte, Int.reduceBEq, Int.reduceBNe, Int.reduceAdd, Int.reduceSub, Int.reduceMul, qFin_ret, qFin_normal, beq_self_eq_true, bne_self_eq_false, Bool.not_true]; (try ((refine okTr_and ?_ ?_); (· rfl))))
    refine CallK.p (footer_Trailer n x hx hw.1 hw.2) ?_; (simp only [go_sem, Nat.reduceAdd, Nat.reduceMul, Int.reduceToNat, Nat.reduceLeDiff, Int.reduceLE, Int.reduceLT, ↓reduceIte, Int.reduceBEq, Int.reduceBNe, Int.reduceAdd, Int.reduceSub, Int.reduceMul, qFin_ret, qFin_normal]; (try ((refine okTr_and ?_ ?_); (· rfl))))
    refine CallK.n (ref33_Trailer n x hx hw.1 hw.2) ?_; (simp only [go_sem, Nat.reduceAdd, Nat.reduceMul, Int.reduceToNat, Nat.reduceLeDiff, Int.reduceLE, Int.reduceLT, ↓reduceIte, Int.reduceBEq, Int.reduceBNe, Int.reduceAdd, Int.reduceSub, Int.reduceMul, qFin_ret, qFin_normal]; (try ((refine okTr_and ?_ ?_); (· rfl))))
    refine CallK.p (ref02_Same (trailB x) (trailB x) htb htb) ?_; (simp only [go_sem, Nat.reduceAdd, Nat.reduceMul, Int.reduceToNat, Nat.reduceLeDiff, Int.reduceLE, Int.reduceLT, ↓reduceIte, Int.reduceBEq, Int.reduceBNe, Int.reduceAdd, Int.reduceSub, Int.reduceMul, qFin_ret, qFin_normal, same_self, Bool.not_true]; (try ((refine okTr_and ?_ ?_); (· rfl))))
    refine CallK.p (law33_as f) ?_; (simp only [go_sem, Nat.reduceAdd, Nat.reduceMul, Int.reduceToNat, Nat.reduceLeDiff, Int.reduceLE, Int.reduceLT, ↓reduceIte, Int.reduceBEq, Int.reduceBNe, Int.reduceAdd, Int.reduceSub, Int.reduceMul, qFin_ret, qFin_normal]; (try ((refine okTr_and ?_ ?_); (· rfl))))
    refine CallK.p (ref33_Right f hf.fst.1 hf.fst.2 hf.fin.1 hf.fin.2) ?_
    by_cases hr : rightF f = true
    · have e1 : payF f = payB f := by unfold payF; rw [if_pos hr]
      have e2 : errF f = 0 := by unfold errF; rw [if_pos hr]
      have e3 : bytesF f = footB f := by unfold bytesF; rw [if_pos hr]
      have hpb := payB_bys hf hr
      have hpl := payB_len f
      have hfb := footB_bys hf hr
      have hfl := frameB_le' (payB f)
      have htl := trailB_len ((frameB (payB f)).length : Int)
      have efl : (footB f).length = (frameB (payB f)).length + 12 := by unfold footB; rw [List.length_append, htl]
      have hall := wbys_app hp hfb
      have lall : (p ++ footB f).length ≤ 100000000 := by rw [List.length_append]; omega
      have o1 := find_own (pre := p) hf hr
      have o2 := readFt_own hf hr
      (simp only [go_sem, Nat.reduceAdd, Nat.reduceMul, Int.reduceToNat, Nat.reduceLeDiff, Int.reduceLE, Int.reduceLT, ↓reduceIte, Int.reduceBEq, Int.reduceBNe, Int.reduceAdd, Int.reduceSub, Int.reduceMul, qFin_ret, qFin_normal, hr, e1, e2, e3, ints_append, ints_length, List.nil_append]; (try ((refine okTr_and ?_ ?_); (· rfl))))
      (repeat ((with_reducible refine And.intro ?_ ?_); (· first | with_reducible assumption | omega | with_reducible rfl | (simp only [List.length_append, List.length_cons, List.length_nil, List.length_singleton]; omega) | (simp [ints_length, okEl_eq, AV.parts]; done) | (simp [ints_length, okEl_eq, AV.parts]; omega) | rfl)))
      refine CallK.p (footer_Find (p ++ footB f) hall lall) ?_; (simp only [go_sem, Nat.reduceAdd, Nat.reduceMul, Int.reduceToNat, Nat.reduceLeDiff, Int.reduceLE, Int.reduceLT, ↓reduceIte, Int.reduceBEq, Int.reduceBNe, Int.reduceAdd, Int.reduceSub, Int.reduceMul, qFin_ret, qFin_normal, o1]; (try ((refine okTr_and ?_ ?_); (· rfl))))
      refine CallK.p (footer_ReadPayload (payB f) hpb (by omega)) ?_; (simp only [go_sem, Nat.reduceAdd, Nat.reduceMul, Int.reduceToNat, Nat.reduceLeDiff, Int.reduceLE, Int.reduceLT, ↓reduceIte, Int.reduceBEq, Int.reduceBNe, Int.reduceAdd, Int.reduceSub, Int.reduceMul, qFin_ret, qFin_normal, o2]; (try ((refine okTr_and ?_ ?_); (· rfl))))
      refine CallK.p (law33_as f) ?_; (simp only [go_sem, Nat.reduceAdd, Nat.reduceMul, Int.reduceToNat, Nat.reduceLeDiff, Int.reduceLE, Int.reduceLT, ↓reduceIte, Int.reduceBEq, Int.reduceBNe, Int.reduceAdd, Int.reduceSub, Int.reduceMul, qFin_ret, qFin_normal]; (try ((refine okTr_and ?_ ?_); (· rfl))))
      refine CallK.n (ref33_Payload f hf hr) ?_; (simp only [go_sem, Nat.reduceAdd, Nat.reduceMul, Int.reduceToNat, Nat.reduceLeDiff, Int.reduceLE, Int.reduceLT, ↓reduceIte, Int.reduceBEq, Int.reduceBNe, Int.reduceAdd, Int.reduceSub, Int.reduceMul, qFin_ret, qFin_normal]; (try ((refine okTr_and ?_ ?_); (· rfl))))
      refine CallK.p (ref02_Same (payB f) (payB f) hpb hpb) ?_; (simp only [go_sem, Nat.reduceAdd, Nat.reduceMul, Int.reduceToNat, Nat.reduceLeDiff, Int.reduceLE, Int.reduceLT, ↓reduceIte, Int.reduceBEq, Int.reduceBNe, Int.reduceAdd, Int.reduceSub, Int.reduceMul, qFin_ret, qFin_normal, same_self]; (try ((refine okTr_and ?_ ?_); (· rfl))))
      refine CallK.p (law33_as f) ?_; (simp only [go_sem, Nat.reduceAdd, Nat.reduceMul, Int.reduceToNat, Nat.reduceLeDiff, Int.reduceLE, Int.reduceLT, ↓reduceIte, Int.reduceBEq, Int.reduceBNe, Int.reduceAdd, Int.reduceSub, Int.reduceMul, qFin_ret, qFin_normal]; (try ((refine okTr_and ?_ ?_); (· rfl))))
      refine CallK.n (ref33_Bytes f hf hr) ?_; (simp only [go_sem, Nat.reduceAdd, Nat.reduceMul, Int.reduceToNat, Nat.reduceLeDiff, Int.reduceLE, Int.reduceLT, ↓reduceIte, Int.reduceBEq, Int.reduceBNe, Int.reduceAdd, Int.reduceSub, Int.reduceMul, qFin_ret, qFin_normal]; (try ((refine okTr_and ?_ ?_); (· rfl))))
      refine CallK.p (ref02_Same (footB f) (footB f) hfb hfb) ?_; (simp only [go_sem, Nat.reduceAdd, Nat.reduceMul, Int.reduceToNat, Nat.reduceLeDiff, Int.reduceLE, Int.reduceLT, ↓reduceIte, Int.reduceBEq, Int.reduceBNe, Int.reduceAdd, Int.reduceSub, Int.reduceMul, qFin_ret, qFin_normal, same_self, beq_self_eq_true, Bool.true_and, ints_length]; (try ((refine okTr_and ?_ ?_); (· rfl))))
      refine CallK.p (live33) ?_; (simp only [go_sem, Nat.reduceAdd, Nat.reduceMul, Int.reduceToNat, Nat.reduceLeDiff, Int.reduceLE, Int.reduceLT, ↓reduceIte, Int.reduceBEq, Int.reduceBNe, Int.reduceAdd, Int.reduceSub, Int.reduceMul, qFin_ret, qFin_normal]; (try ((refine okTr_and ?_ ?_); (· rfl))))
      ((refine FinK.fin r18 [] ?_ ?_ ?_ ?_ ?_ ?_); (· decide); (· rfl); (· simp); (· rfl); (· first | with_reducible rfl | (simp [ints_nil, ren_lit, ren_ref, ren_any, ren_agg, ren_tup, ren_sl, ren_fn, tren_none, tren_full, tren_row, oren_cells, oren_row, oren_dead, ixs_z, ixs_1, ixs_2, ixs_3, ren_ints, List.map_cons, List.map_nil]; done) | rfl); (· simp [resAL, resA1, loadA, oneOr, ints_nil, ren_lit, ren_ref, ren_any, ren_agg, ren_tup, ren_sl, ren_fn, tren_none, tren_full, tren_row, oren_cells, oren_row, oren_dead, ixs_z, ixs_1, ixs_2, ixs_3, ren_ints, List.map_cons, List.map_nil]))
    · have hr' : rightF f = false := by simpa using hr
      have e1 : payF f = [] := by unfold payF; rw [if_neg hr]
      have e2 : errF f = 3 := by unfold errF; rw [if_neg hr]
      have e3 : bytesF f = [] := by unfold bytesF; rw [if_neg hr]
      have w0 : IntKind.i64.wrap 0 = 0 := by decide
      (simp only [go_sem, Nat.reduceAdd, Nat.reduceMul, Int.reduceToNat, Nat.reduceLeDiff, Int.reduceLE, Int.reduceLT, ↓reduceIte, Int.reduceBEq, Int.reduceBNe, Int.reduceAdd, Int.reduceSub, Int.reduceMul, qFin_ret, qFin_normal, hr', e1, e2, e3, ints_nil, w0]; (try ((refine okTr_and ?_ ?_); (· rfl))))
      refine CallK.p (live33) ?_; (simp only [go_sem, Nat.reduceAdd, Nat.reduceMul, Int.reduceToNat, Nat.reduceLeDiff, Int.reduceLE, Int.reduceLT, ↓reduceIte, Int.reduceBEq, Int.reduceBNe, Int.reduceAdd, Int.reduceSub, Int.reduceMul, qFin_ret, qFin_normal]; (try ((refine okTr_and ?_ ?_); (· rfl))))
      ((refine FinK.fin r18 [] ?_ ?_ ?_ ?_ ?_ ?_); (· decide); (· rfl); (· simp); (· rfl); (· first | with_reducible rfl | (simp [ints_nil, ren_lit, ren_ref, ren_any, ren_agg, ren_tup, ren_sl, ren_fn, tren_none, tren_full, tren_row, oren_cells, oren_row, oren_dead, ixs_z, ixs_1, ixs_2, ixs_3, ren_ints, List.map_cons, List.map_nil]; done) | rfl); (· simp [resAL, resA1, loadA, oneOr, ints_nil, ren_lit, ren_ref, ren_any, ren_agg, ren_tup, ren_sl, ren_fn, tren_none, tren_full, tren_row, oren_cells, oren_row, oren_dead, ixs_z, ixs_1, ixs_2, ixs_3, ren_ints, List.map_cons, List.map_nil]))
end Go.Proofs.Ytkhnfleejgfhgaa
