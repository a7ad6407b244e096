/-
  Chapter 12: ExpandTokens.
-/
import Derived.Test.YtpjkmidjjodplaaK25
import Derived.Test.YtpjkmidjjodplaaTop
set_option linter.all false
set_option linter.unusedSimpArgs false
set_option linter.unusedVariables false
set_option linter.unnecessarySimpa false
namespace Go.Proofs.Ytpjkmidjjodplaa
open Go.RowKit

def fltO (f : Int × Int) : AObj := .cells [iA f.1, iA f.2]
theorem tsum_take (l : List Tk) (k : Nat) (h : k < l.length) : tsum (l.take (k + 1)) = tsum (l.take k) + (l.getD k tk0).made := by
  rw [tk_take l k h, tsum_snoc]
theorem Tks.lit {l : List Tk} (h : Tks l) : ∀ t ∈ l, Bys t.lit := fun t ht => (h t ht).lit
theorem expT_bys {l : List Tk} (h : Tks l) (b : Int) : Bys (expT l b).1 := expFrom_bys l 0 [] h.lit (by intro x hx; simp at hx)
set_option maxHeartbeats 1000000 in
set_option maxRecDepth 100000 in
theorem law_ExpandTokens (l : List Tk) (bound : Int) (hl : Tks l) (b0 : -9223372036854775808 ≤ bound) (b1 : bound < 9223372036854775808) : Does Try.prog 3 [slT l, iA bound] [] (bA true) [] := by
  have e1 := mn bound 5000
  refine Does.run Try.func3 b3 n3 Try.ntmps3 (by simp only [List.cons_append, List.nil_append, List.length_cons, List.length_nil, Nat.zero_add, Nat.reduceAdd, Nat.reduceSub, List.replicate]; rfl) ?_; simp only [c3, go_sem, Nat.reduceAdd, Nat.reduceMul, Int.reduceToNat, Nat.reduceLeDiff, Int.reduceLE, Int.reduceLT, ↓reduceIte, Int.reduceBEq, Int.reduceBNe, Int.reduceAdd, Int.reduceSub, Int.reduceMul, qFin_ret, qFin_normal]; (try ((refine okTr_and ?_ ?_); (· rfl)))
  refine CallK.p (law11_Long l) ?_
  cases hL : longT l
  · obtain ⟨n1, n2⟩ := longT_no hL
    obtain ⟨B, hB⟩ : ∃ B, min bound 5000 = B := ⟨_, rfl⟩
    rw [hB] at e1
    have e2 := mx0 B
    have hle := expFrom_le (bound := B) l 0 [] (by simp; omega)
    have hle' : ((expT l B).1.length : Int) ≤ max B 0 := hle
    have hby := expT_bys hl B
    have hbad := expFrom_bad (bound := B) l 0 []
    have hbad' : ¬ (expT l B).2.1 = 0 → (expT l B).1 = [] := hbad
    have hok := expFrom_ok (bound := B) l 0 []
    have hok' : (expT l B).2.1 = 0 → ((expT l B).1.length : Int) = ([] : List Int).length + tsum l ∧ ∀ t ∈ l, t.right = true := hok
    (simp only [go_sem, Nat.reduceAdd, Nat.reduceMul, Int.reduceToNat, Nat.reduceLeDiff, Int.reduceLE, Int.reduceLT, ↓reduceIte, Int.reduceBEq, Int.reduceBNe, Int.reduceAdd, Int.reduceSub, Int.reduceMul, qFin_ret, qFin_normal, hL, e1]; (try ((refine okTr_and ?_ ?_); (· rfl))))
    refine CallK.p (expand_Tokens l B (by omega) (by omega) (by omega)) ?_; (simp only [go_sem, Nat.reduceAdd, Nat.reduceMul, Int.reduceToNat, Nat.reduceLeDiff, Int.reduceLE, Int.reduceLT, ↓reduceIte, Int.reduceBEq, Int.reduceBNe, Int.reduceAdd, Int.reduceSub, Int.reduceMul, qFin_ret, qFin_normal]; (try ((refine okTr_and ?_ ?_); (· rfl))))
    refine CallK.p (ref12_Tokens l B (by omega) (by omega) (by omega)) ?_; (simp only [go_sem, Nat.reduceAdd, Nat.reduceMul, Int.reduceToNat, Nat.reduceLeDiff, Int.reduceLE, Int.reduceLT, ↓reduceIte, Int.reduceBEq, Int.reduceBNe, Int.reduceAdd, Int.reduceSub, Int.reduceMul, qFin_ret, qFin_normal]; (try ((refine okTr_and ?_ ?_); (· rfl))))
    generalize expT l B = E at *
    have q : decide (max B 0 < (E.1.length : Int)) = false := by simp only [decide_eq_false_iff_not]; omega
    refine CallK.p (ref02_Same E.1 E.1 hby hby) ?_; (simp only [go_sem, Nat.reduceAdd, Nat.reduceMul, Int.reduceToNat, Nat.reduceLeDiff, Int.reduceLE, Int.reduceLT, ↓reduceIte, Int.reduceBEq, Int.reduceBNe, Int.reduceAdd, Int.reduceSub, Int.reduceMul, qFin_ret, qFin_normal, same_self, ints_length, e2, q]; (try ((refine okTr_and ?_ ?_); (· rfl))))
    by_cases hc : E.2.1 = 0
    · have q1 : (E.2.1 != 0) = false := by simpa using hc
      obtain ⟨h1, h2⟩ := hok' hc
      (simp only [go_sem, Nat.reduceAdd, Nat.reduceMul, Int.reduceToNat, Nat.reduceLeDiff, Int.reduceLE, Int.reduceLT, ↓reduceIte, Int.reduceBEq, Int.reduceBNe, Int.reduceAdd, Int.reduceSub, Int.reduceMul, qFin_ret, qFin_normal, q1]; (try ((refine okTr_and ?_ ?_); (· rfl))))
      refine loop_of (α := Nat) (fun k => [slT l, .any, .any, .any, .any, slA .u8 E.1, .any, .any, .any, iA (tsum (l.take k)), iA k, .any, .any, .any, .any, .any, .any, .any, .any, .any, .any, .any, .any, .any, .any, .any, .any, .any, .any, .any, .any, .any, .any, .any, .any, .any, .any, .any, .any, .any, .any, .any, .any, .any, .any, .any, .any, .any, .any, .any, .any, .any, .any, .any, .any, .any, .any, .any, .any, .any, .any, .any, .any, .any, .any, .any, .any, .any, .any, .any, .any, .any, .any]) (fun _ => [fltO E.2, fltO E.2]) (fun k => k ≤ l.length) (fun k => l.length - k) 0 (by simp) (Wk.to (by simp [fltO]) (by simp [leT, tsum])) ?_
      intro k hk
      (simp only [go_sem, Nat.reduceAdd, Nat.reduceMul, Int.reduceToNat, Nat.reduceLeDiff, Int.reduceLE, Int.reduceLT, ↓reduceIte, Int.reduceBEq, Int.reduceBNe, Int.reduceAdd, Int.reduceSub, Int.reduceMul, qFin_ret, qFin_normal, tks_length]; (try ((refine okTr_and ?_ ?_); (· rfl))))
      refine cdK_split (fun h => ?_) (fun h => ?_)
      · have hlt : k < l.length := by simpa using h
        have g := tks_get l k hlt
        have ei := i64_succ k (by omega)
        have hm := made_pos (h2 _ (tk_mem l k hlt))
        have ht := tsum_le (l := l.take k) fun t ht => h2 t (List.mem_of_mem_take ht)
        have hg := tsum_ge (l.take k)
        have hkl : (l.take k).length ≤ 100 := by simp; omega
        have es : IntKind.i64.wrap (tsum (l.take k) + (l.getD k tk0).made) = tsum (l.take (k + 1)) := by rw [IntWalk.i64_in _ (by omega), tsum_take l k hlt]
        (simp only [go_sem, Nat.reduceAdd, Nat.reduceMul, Int.reduceToNat, Nat.reduceLeDiff, Int.reduceLE, Int.reduceLT, ↓reduceIte, Int.reduceBEq, Int.reduceBNe, Int.reduceAdd, Int.reduceSub, Int.reduceMul, qFin_ret, qFin_normal, g, tks_length]; (try ((refine okTr_and ?_ ?_); (· rfl))))
        (repeat ((with_reducible refine And.intro ?_ ?_); (· first | with_reducible assumption | omega | with_reducible rfl | (simp only [List.length_append, List.length_cons, List.length_nil, List.length_singleton]; omega) | (simp [ints_length, okEl_eq, AV.parts]; done) | (simp [ints_length, okEl_eq, AV.parts]; omega) | rfl)))
        refine CallK.p (ref11_Len (l.getD k tk0)) ?_; (simp only [go_sem, Nat.reduceAdd, Nat.reduceMul, Int.reduceToNat, Nat.reduceLeDiff, Int.reduceLE, Int.reduceLT, ↓reduceIte, Int.reduceBEq, Int.reduceBNe, Int.reduceAdd, Int.reduceSub, Int.reduceMul, qFin_ret, qFin_normal, es, ei]; (try ((refine okTr_and ?_ ?_); (· rfl))))
        exact ⟨k + 1, hlt, by omega, Wk.to (by simp) (by simp [leT])⟩
      · have ek : k = l.length := by simp at h; omega
        have q2 : ((E.1.length : Int) == tsum (l.take k)) = true := by rw [ek, List.take_length]; simp only [beq_iff_eq]; rw [h1]; simp
        (simp only [go_sem, Nat.reduceAdd, Nat.reduceMul, Int.reduceToNat, Nat.reduceLeDiff, Int.reduceLE, Int.reduceLT, ↓reduceIte, Int.reduceBEq, Int.reduceBNe, Int.reduceAdd, Int.reduceSub, Int.reduceMul, qFin_ret, qFin_normal, ints_length, q2]; (try ((refine okTr_and ?_ ?_); (· rfl))))
        refine CallK.p (live12) ?_; (simp only [go_sem, Nat.reduceAdd, Nat.reduceMul, Int.reduceToNat, Nat.reduceLeDiff, Int.reduceLE, Int.reduceLT, ↓reduceIte, Int.reduceBEq, Int.reduceBNe, Int.reduceAdd, Int.reduceSub, Int.reduceMul, qFin_ret, qFin_normal]; (try ((refine okTr_and ?_ ?_); (· rfl))))
        ((refine FinK.fin r3 [] ?_ ?_ ?_ ?_ ?_ ?_); (· decide); (· rfl); (· simp); (· rfl); (· first | with_reducible rfl | (simp [ints_nil, ren_lit, ren_ref, ren_any, ren_agg, ren_tup, ren_sl, ren_fn, tren_none, tren_full, tren_row, oren_cells, oren_row, oren_dead, ixs_z, ixs_1, ixs_2, ixs_3, ren_ints, List.map_cons, List.map_nil]; done) | rfl); (· simp [resAL, resA1, loadA, oneOr, ints_nil, ren_lit, ren_ref, ren_any, ren_agg, ren_tup, ren_sl, ren_fn, tren_none, tren_full, tren_row, oren_cells, oren_row, oren_dead, ixs_z, ixs_1, ixs_2, ixs_3, ren_ints, List.map_cons, List.map_nil]))
    · have q1 : (E.2.1 != 0) = true := by simpa using hc
      (simp only [go_sem, Nat.reduceAdd, Nat.reduceMul, Int.reduceToNat, Nat.reduceLeDiff, Int.reduceLE, Int.reduceLT, ↓reduceIte, Int.reduceBEq, Int.reduceBNe, Int.reduceAdd, Int.reduceSub, Int.reduceMul, qFin_ret, qFin_normal, q1, hbad' hc, ints_nil]; (try ((refine okTr_and ?_ ?_); (· rfl))))
      refine CallK.p (live12) ?_; (simp only [go_sem, Nat.reduceAdd, Nat.reduceMul, Int.reduceToNat, Nat.reduceLeDiff, Int.reduceLE, Int.reduceLT, ↓reduceIte, Int.reduceBEq, Int.reduceBNe, Int.reduceAdd, Int.reduceSub, Int.reduceMul, qFin_ret, qFin_normal]; (try ((refine okTr_and ?_ ?_); (· rfl))))
      ((refine FinK.fin r3 [] ?_ ?_ ?_ ?_ ?_ ?_); (· decide); (· rfl); (· simp); (· rfl); (· first | with_reducible rfl | (simp [ints_nil, ren_lit, ren_ref, ren_any, ren_agg, ren_tup, ren_sl, ren_fn, tren_none, tren_full, tren_row, oren_cells, oren_row, oren_dead, ixs_z, ixs_1, ixs_2, ixs_3, ren_ints, List.map_cons, List.map_nil]; done) | rfl); (· simp [resAL, resA1, loadA, oneOr, ints_nil, ren_lit, ren_ref, ren_any, ren_agg, ren_tup, ren_sl, ren_fn, tren_none, tren_full, tren_row, oren_cells, oren_row, oren_dead, ixs_z, ixs_1, ixs_2, ixs_3, ren_ints, List.map_cons, List.map_nil]))
  · (simp only [go_sem, Nat.reduceAdd, Nat.reduceMul, Int.reduceToNat, Nat.reduceLeDiff, Int.reduceLE, Int.reduceLT, ↓reduceIte, Int.reduceBEq, Int.reduceBNe, Int.reduceAdd, Int.reduceSub, Int.reduceMul, qFin_ret, qFin_normal, hL]; (try ((refine okTr_and ?_ ?_); (· rfl))))
    refine CallK.p (live12) ?_; (simp only [go_sem, Nat.reduceAdd, Nat.reduceMul, Int.reduceToNat, Nat.reduceLeDiff, Int.reduceLE, Int.reduceLT, ↓reduceIte, Int.reduceBEq, Int.reduceBNe, Int.reduceAdd, Int.reduceSub, Int.reduceMul, qFin_ret, qFin_normal]; (try ((refine okTr_and ?_ ?_); (· rfl))))
    ((refine FinK.fin r3 [] ?_ ?_ ?_ ?_ ?_ ?_); (· decide); (· rfl); (· simp); (· rfl); (· first | with_reducible rfl | (simp [ints_nil, ren_lit, ren_ref, ren_any, ren_agg, ren_tup, ren_sl, ren_fn, tren_none, tren_full, tren_row, oren_cells, oren_row, oren_dead, ixs_z, ixs_1, ixs_2, ixs_3, ren_ints, List.map_cons, List.map_nil]; done) | rfl); (· simp [resAL, resA1, loadA, oneOr, ints_nil, ren_lit, ren_ref, ren_any, ren_agg, ren_tup, ren_sl, ren_fn, tren_none, tren_full, tren_row, oren_cells, oren_row, oren_dead, ixs_z, ixs_1, ixs_2, ixs_3, ren_ints, List.map_cons, List.map_nil]))
end Go.Proofs.Ytpjkmidjjodplaa
