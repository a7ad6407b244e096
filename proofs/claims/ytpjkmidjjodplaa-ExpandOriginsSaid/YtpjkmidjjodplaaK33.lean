/-
  Contracts of chapter 12: from where each byte came.
-/
import Derived.Test.YtpjkmidjjodplaaK25
import Derived.Test.YtpjkmidjjodplaaP11
set_option linter.all false
set_option linter.unusedSimpArgs false
set_option linter.unusedVariables false
set_option linter.unnecessarySimpa false
namespace Go.Proofs.Ytpjkmidjjodplaa
open Go.RowKit

theorem good_step {l : List Tk} {k : Nat} {out : List Int} (h : k < l.length) : goodFrom (l.drop k) out = if wrongT (l.getD k tk0) out.length 1048576 = 0 then goodFrom (l.drop (k + 1)) (expW out (l.getD k tk0)) else false := by
  have e : l.drop k = l.getD k tk0 :: l.drop (k + 1) := by rw [List.drop_eq_getElem_cons h]; simp [h]
  rw [e]; rfl
theorem org_step {l : List Tk} {k : Nat} {o : List (Int × Int)} (h : k < l.length) : orgFrom (l.drop k) k o = orgFrom (l.drop (k + 1)) (k + 1) (orgW k o (l.getD k tk0)) := by
  have e : l.drop k = l.getD k tk0 :: l.drop (k + 1) := by rw [List.drop_eq_getElem_cons h]; simp [h]
  rw [e]; rfl
theorem deep_step {l : List Tk} {k : Nat} {d : List Int} (h : k < l.length) : deepFrom (l.drop k) d = deepFrom (l.drop (k + 1)) (deepW d (l.getD k tk0)) := by
  have e : l.drop k = l.getD k tk0 :: l.drop (k + 1) := by rw [List.drop_eq_getElem_cons h]; simp [h]
  rw [e]; rfl
theorem right_parts {t : Tk} (h : t.right = true) : t.lit.length ≤ 1048576 ∧ (t.lit.length : Int) ≤ t.made ∧ (0 < t.len → t.lit.length + t.len ≤ t.made) ∧ (0 < t.len → 1 ≤ t.off) ∧ t.len ≤ 1048576 := by
  have hm := made_pos h
  rcases right_iff.1 h with h' | h'
  · have e : t.made = t.lit.length := by unfold Tk.made; rw [if_pos h']
    have := run_iff.1 h'
    omega
  · have hn : t.run = false := by
      cases q : t.run with
      | false => rfl
      | true => rw [run_not_copy q] at h'; cases h'
    have e : t.made = t.len := by unfold Tk.made; rw [if_neg (by simp [hn]), if_pos h']
    have := copy_iff.1 h'
    have e2 : t.lit.length = 0 := by rw [this.1]; rfl
    omega
set_option maxRecDepth 100000 in
theorem expand_good0 (l : List Tk) (hl : l.length ≤ 1000000) : Does Try.prog 75 [slT l] [] (bA (goodFrom l [])) [] := by
  refine Does.run Try.func75 b75 n75 Try.ntmps75 (by simp only [List.cons_append, List.nil_append, List.length_cons, List.length_nil, Nat.zero_add, Nat.reduceAdd, Nat.reduceSub, List.replicate]; rfl) ?_; simp only [c75, go_sem, Nat.reduceAdd, Nat.reduceMul, Int.reduceToNat, Nat.reduceLeDiff, Int.reduceLE, Int.reduceLT, ↓reduceIte, Int.reduceBEq, Int.reduceBNe, Int.reduceAdd, Int.reduceSub, Int.reduceMul, qFin_ret, qFin_normal, tks_length]; (try ((refine okTr_and ?_ ?_); (· rfl)))
  refine loop_of (α := Nat × List Int) (fun a => [.any, .any, .any, iA a.2.length, .any, .any, slT l, iA l.length, iA a.1, .any, .any, .any, .any, .any, .any, .any, .any, .any, .any, .any, .any]) (fun _ => []) (fun a => a.1 ≤ l.length ∧ (a.2.length : Int) ≤ 1048576 ∧ goodFrom (l.drop a.1) a.2 = goodFrom l []) (fun a => l.length - a.1) (0, []) ⟨by simp, by simp, by simp⟩ (Wk.to (by simp) (by simp [leT])) ?_
  rintro ⟨k, out⟩ ⟨hk, ho, he⟩
  simp only at hk ho he
  (simp only [go_sem, Nat.reduceAdd, Nat.reduceMul, Int.reduceToNat, Nat.reduceLeDiff, Int.reduceLE, Int.reduceLT, ↓reduceIte, Int.reduceBEq, Int.reduceBNe, Int.reduceAdd, Int.reduceSub, Int.reduceMul, qFin_ret, qFin_normal]; (try ((refine okTr_and ?_ ?_); (· rfl))))
  refine cdK_split (fun h => ?_) (fun h => ?_)
  · have hlt : k < l.length := by simpa using h
    have g := tks_get l k hlt
    have ei := i64_succ k (by omega)
    have st := good_step (l := l) (k := k) (out := out) hlt
    obtain ⟨t, ht⟩ : ∃ t, l.getD k tk0 = t := ⟨_, rfl⟩
    rw [ht] at g st
    (simp only [go_sem, Nat.reduceAdd, Nat.reduceMul, Int.reduceToNat, Nat.reduceLeDiff, Int.reduceLE, Int.reduceLT, ↓reduceIte, Int.reduceBEq, Int.reduceBNe, Int.reduceAdd, Int.reduceSub, Int.reduceMul, qFin_ret, qFin_normal, g, tks_length]; (try ((refine okTr_and ?_ ?_); (· rfl))))
    (repeat ((with_reducible refine And.intro ?_ ?_); (· first | with_reducible assumption | omega | with_reducible rfl | (simp only [List.length_append, List.length_cons, List.length_nil, List.length_singleton]; omega) | (simp [ints_length, okEl_eq, AV.parts]; done) | (simp [ints_length, okEl_eq, AV.parts]; omega) | rfl)))
    refine CallK.p (expand_wrong t out.length 1048576 (by omega) (by omega) (by decide) (by decide)) ?_
    by_cases hw : wrongT t out.length 1048576 = 0
    · obtain ⟨w1, w2, w3⟩ := wrongT_zero hw
      rw [if_pos hw] at st
      have hle := expW_len out w1
      have q : (wrongT t out.length 1048576 != 0) = false := by rw [hw]; rfl
      have es : IntKind.i64.wrap ((out.length : Int) + t.made) = (expW out t).length := by rw [IntWalk.i64_in _ (by omega), hle]
      (simp only [go_sem, Nat.reduceAdd, Nat.reduceMul, Int.reduceToNat, Nat.reduceLeDiff, Int.reduceLE, Int.reduceLT, ↓reduceIte, Int.reduceBEq, Int.reduceBNe, Int.reduceAdd, Int.reduceSub, Int.reduceMul, qFin_ret, qFin_normal, q]; (try ((refine okTr_and ?_ ?_); (· rfl))))
      refine CallK.p (token_Len t) ?_; (simp only [go_sem, Nat.reduceAdd, Nat.reduceMul, Int.reduceToNat, Nat.reduceLeDiff, Int.reduceLE, Int.reduceLT, ↓reduceIte, Int.reduceBEq, Int.reduceBNe, Int.reduceAdd, Int.reduceSub, Int.reduceMul, qFin_ret, qFin_normal, es, ei]; (try ((refine okTr_and ?_ ?_); (· rfl))))
      exact ⟨(k + 1, expW out t), ⟨hlt, by simp only; omega, st.symm.trans he⟩, by simp only; omega, Wk.sel [] (by simp) rfl (by simp) rfl (by simp) (by simp [selT, ints_nil, ren_lit, ren_ref, ren_any, ren_agg, ren_tup, ren_sl, ren_fn, tren_none, tren_full, tren_row, oren_cells, oren_row, oren_dead, ixs_z, ixs_1, ixs_2, ixs_3, ren_ints, List.map_cons, List.map_nil])⟩
    · rw [if_neg hw] at st
      have q : (wrongT t out.length 1048576 != 0) = true := by simpa using hw
      have hg : goodFrom l [] = false := by rw [← he, st]
      (simp only [go_sem, Nat.reduceAdd, Nat.reduceMul, Int.reduceToNat, Nat.reduceLeDiff, Int.reduceLE, Int.reduceLT, ↓reduceIte, Int.reduceBEq, Int.reduceBNe, Int.reduceAdd, Int.reduceSub, Int.reduceMul, qFin_ret, qFin_normal, q]; (try ((refine okTr_and ?_ ?_); (· rfl))))
      ((refine FinK.fin r75 [] ?_ ?_ ?_ ?_ ?_ ?_); (· decide); (· rfl); (· simp); (· rfl); (· first | with_reducible rfl | (simp [ints_nil, ren_lit, ren_ref, ren_any, ren_agg, ren_tup, ren_sl, ren_fn, tren_none, tren_full, tren_row, oren_cells, oren_row, oren_dead, ixs_z, ixs_1, ixs_2, ixs_3, ren_ints, List.map_cons, List.map_nil, hg]; done) | rfl); (· simp [resAL, resA1, loadA, oneOr, ints_nil, ren_lit, ren_ref, ren_any, ren_agg, ren_tup, ren_sl, ren_fn, tren_none, tren_full, tren_row, oren_cells, oren_row, oren_dead, ixs_z, ixs_1, ixs_2, ixs_3, ren_ints, List.map_cons, List.map_nil, hg]))
  · have ek : k = l.length := by simp at h; omega
    rw [ek, List.drop_length] at he
    have hg : goodFrom l [] = true := he.symm
    (simp only [go_sem, Nat.reduceAdd, Nat.reduceMul, Int.reduceToNat, Nat.reduceLeDiff, Int.reduceLE, Int.reduceLT, ↓reduceIte, Int.reduceBEq, Int.reduceBNe, Int.reduceAdd, Int.reduceSub, Int.reduceMul, qFin_ret, qFin_normal]; (try ((refine okTr_and ?_ ?_); (· rfl))))
    ((refine FinK.fin r75 [] ?_ ?_ ?_ ?_ ?_ ?_); (· decide); (· rfl); (· simp); (· rfl); (· first | with_reducible rfl | (simp [ints_nil, ren_lit, ren_ref, ren_any, ren_agg, ren_tup, ren_sl, ren_fn, tren_none, tren_full, tren_row, oren_cells, oren_row, oren_dead, ixs_z, ixs_1, ixs_2, ixs_3, ren_ints, List.map_cons, List.map_nil, hg]; done) | rfl); (· simp [resAL, resA1, loadA, oneOr, ints_nil, ren_lit, ren_ref, ren_any, ren_agg, ren_tup, ren_sl, ren_fn, tren_none, tren_full, tren_row, oren_cells, oren_row, oren_dead, ixs_z, ixs_1, ixs_2, ixs_3, ren_ints, List.map_cons, List.map_nil, hg]))
theorem expand_good (l : List Tk) (hl : l.length ≤ 1000000) : Ct Try.prog 75 [slT l] [] (fun _ => bA (goodFrom l [])) [] (fun _ => []) := (expand_good0 l hl).toCt (by intros; simp [ints_nil, ren_lit, ren_ref, ren_any, ren_agg, ren_tup, ren_sl, ren_fn, tren_none, tren_full, tren_row, oren_cells, oren_row, oren_dead, ixs_z, ixs_1, ixs_2, ixs_3, ren_ints, List.map_cons, List.map_nil, ixs, List.range'_succ, ren_ints]) (by intros; simp [ints_nil, ren_lit, ren_ref, ren_any, ren_agg, ren_tup, ren_sl, ren_fn, tren_none, tren_full, tren_row, oren_cells, oren_row, oren_dead, ixs_z, ixs_1, ixs_2, ixs_3, ren_ints, List.map_cons, List.map_nil, ixs, List.range'_succ, ren_ints])

abbrev prA (p : Int × Int) : AV := .agg [iA p.1, iA p.2]
/-- Pairs of numbers. -/
def prs (l : List (Int × Int)) : List AV := l.map prA
@[simp] theorem ren_prs (ρ : Nat → Nat) (l : List (Int × Int)) : (prs l).map (fun x => x.ren ρ) = prs l := by simp [prs, ints_nil, ren_lit, ren_ref, ren_any, ren_agg, ren_tup, ren_sl, ren_fn, tren_none, tren_full, tren_row, oren_cells, oren_row, oren_dead, ixs_z, ixs_1, ixs_2, ixs_3, ren_ints, List.map_cons, List.map_nil]
theorem prs_length (l : List (Int × Int)) : (prs l).length = l.length := by simp [prs]
theorem prs_nil : prs [] = [] := (rfl)
theorem prs_snoc (l : List (Int × Int)) (a b : Int) : prs l ++ [.agg [iA a, iA b]] = prs (l ++ [(a, b)]) := by simp [prs]
theorem prs_get (l : List (Int × Int)) (k : Nat) (h : k < l.length) : (prs l).getD (k : Int).toNat .any = prA (l.getD k (0, 0)) := by
  rw [Int.toNat_natCast]; simp [prs, h]
def orgA (l : List Tk) : List (Int × Int) × Bool := if goodFrom l [] = true then (orgFrom l 0 [], true) else ([], false)
theorem orgT_take (i : Nat) (t : Tk) (j : Nat) (h : j < t.lit.length) : (orgT i t).take (j + 1) = (orgT i t).take j ++ [((i : Int), (j : Int))] := by
  rw [List.take_succ_eq_append_getElem (by rw [orgT_len]; exact h)]
  simp [orgT]
set_option maxRecDepth 100000 in
theorem expand_Origins0 (l : List Tk) (hl : l.length ≤ 1000000) : Does Try.prog 23 [slT l] [] (.tup [.sl .none 2 (prs (orgA l).1), bA (orgA l).2]) [] := by
  refine Does.run Try.func23 b23 n23 Try.ntmps23 (by simp only [List.cons_append, List.nil_append, List.length_cons, List.length_nil, Nat.zero_add, Nat.reduceAdd, Nat.reduceSub, List.replicate]; rfl) ?_; simp only [c23, go_sem, Nat.reduceAdd, Nat.reduceMul, Int.reduceToNat, Nat.reduceLeDiff, Int.reduceLE, Int.reduceLT, ↓reduceIte, Int.reduceBEq, Int.reduceBNe, Int.reduceAdd, Int.reduceSub, Int.reduceMul, qFin_ret, qFin_normal]; (try ((refine okTr_and ?_ ?_); (· rfl)))
  refine CallK.p (expand_good l hl) ?_
  cases hg : goodFrom l []
  · have ha : orgA l = ([], false) := by unfold orgA; rw [if_neg (by simp [hg])]
    (simp only [go_sem, Nat.reduceAdd, Nat.reduceMul, Int.reduceToNat, Nat.reduceLeDiff, Int.reduceLE, Int.reduceLT, ↓reduceIte, Int.reduceBEq, Int.reduceBNe, Int.reduceAdd, Int.reduceSub, Int.reduceMul, qFin_ret, qFin_normal, hg]; (try ((refine okTr_and ?_ ?_); (· rfl))))
    (refine FinK.nilk 2 2 rfl ?_; simp only [List.set_cons_zero, List.set_cons_succ])
    ((refine FinK.fin r23 [] ?_ ?_ ?_ ?_ ?_ ?_); (· decide); (· rfl); (· simp); (· rfl); (· first | with_reducible rfl | (simp [ints_nil, ren_lit, ren_ref, ren_any, ren_agg, ren_tup, ren_sl, ren_fn, tren_none, tren_full, tren_row, oren_cells, oren_row, oren_dead, ixs_z, ixs_1, ixs_2, ixs_3, ren_ints, List.map_cons, List.map_nil, ha, prs_nil]; done) | rfl); (· simp [resAL, resA1, loadA, oneOr, ints_nil, ren_lit, ren_ref, ren_any, ren_agg, ren_tup, ren_sl, ren_fn, tren_none, tren_full, tren_row, oren_cells, oren_row, oren_dead, ixs_z, ixs_1, ixs_2, ixs_3, ren_ints, List.map_cons, List.map_nil, ha, prs_nil]))
  · have ha : orgA l = (orgFrom l 0 [], true) := by unfold orgA; rw [if_pos hg]
    (simp only [go_sem, Nat.reduceAdd, Nat.reduceMul, Int.reduceToNat, Nat.reduceLeDiff, Int.reduceLE, Int.reduceLT, ↓reduceIte, Int.reduceBEq, Int.reduceBNe, Int.reduceAdd, Int.reduceSub, Int.reduceMul, qFin_ret, qFin_normal, hg, tks_length]; (try ((refine okTr_and ?_ ?_); (· rfl))))
    refine loop_of (α := Nat × List Int × List (Int × Int)) (fun a => [.any, .any, .any, .any, .sl (.row 0) 2 (prs a.2.2), .any, .any, .any, .any, .any, .any, slT l, iA l.length, iA a.1, .any, .any, .any, .any, .any, .any, .any, .any, .any, .any, .any, .any, .any, .any, .any, .any, .any, .any, .any, .any, .any, .any, .any, .any, .any, .any, .any, .any, .any, .any, .any, .any, .any, .any, .any]) (fun a => [.row 2 a.2.2.length]) (fun a => a.1 ≤ l.length ∧ (a.2.1.length : Int) ≤ 1048576 ∧ a.2.2.length = a.2.1.length ∧ goodFrom (l.drop a.1) a.2.1 = true ∧ orgFrom (l.drop a.1) a.1 a.2.2 = orgFrom l 0 []) (fun a => l.length - a.1) (0, [], []) ⟨by simp, by simp, by simp, by simpa using hg, by simp⟩ ((Wk.row 4 2 rfl (.inr rfl) (by decide)).trans (Wk.to (by simp) (by simp [leT, prs]))) ?_
    rintro ⟨k, out, o⟩ ⟨hk, ho, hlo, he, hor⟩
    simp only at hk ho hlo he hor
    (simp only [go_sem, Nat.reduceAdd, Nat.reduceMul, Int.reduceToNat, Nat.reduceLeDiff, Int.reduceLE, Int.reduceLT, ↓reduceIte, Int.reduceBEq, Int.reduceBNe, Int.reduceAdd, Int.reduceSub, Int.reduceMul, qFin_ret, qFin_normal]; (try ((refine okTr_and ?_ ?_); (· rfl))))
    refine cdK_split (fun h => ?_) (fun h => ?_)
    · have hlt : k < l.length := by simpa using h
      have g := tks_get l k hlt
      have ei := i64_succ k (by omega)
      have st := good_step (l := l) (k := k) (out := out) hlt
      have so := org_step (l := l) (k := k) (o := o) hlt
      obtain ⟨t, ht⟩ : ∃ t, l.getD k tk0 = t := ⟨_, rfl⟩
      rw [ht] at g st so
      have hw : wrongT t out.length 1048576 = 0 := by
        by_cases hw : wrongT t out.length 1048576 = 0
        · exact hw
        · rw [if_neg hw, he] at st; cases st
      rw [if_pos hw] at st
      obtain ⟨w1, w2, w3⟩ := wrongT_zero hw
      have hle := expW_len out w1
      obtain ⟨p1, p5, p2, p3, p4⟩ := right_parts w1
      have hlen2 : (orgW k o t).length = (expW out t).length := by
        unfold orgW expW; rw [agn_len, again_len, List.length_append, List.length_append, orgT_len, hlo]
      (simp only [go_sem, Nat.reduceAdd, Nat.reduceMul, Int.reduceToNat, Nat.reduceLeDiff, Int.reduceLE, Int.reduceLT, ↓reduceIte, Int.reduceBEq, Int.reduceBNe, Int.reduceAdd, Int.reduceSub, Int.reduceMul, qFin_ret, qFin_normal, g, tks_length, ints_length]; (try ((refine okTr_and ?_ ?_); (· rfl))))
      (repeat ((with_reducible refine And.intro ?_ ?_); (· first | with_reducible assumption | omega | with_reducible rfl | (simp only [List.length_append, List.length_cons, List.length_nil, List.length_singleton]; omega) | (simp [ints_length, okEl_eq, AV.parts]; done) | (simp [ints_length, okEl_eq, AV.parts]; omega) | rfl)))
      refine loop_of (α := Nat) (fun j => [.any, .any, .any, .any, .sl (.row 0) 2 (prs (o ++ (orgT k t).take j)), iA k, .ref 1 0, .any, .any, .any, .any, slT l, iA l.length, iA k, .any, .any, .any, .any, .any, .any, iA t.lit.length, iA j, .any, .any, .any, .any, .any, .any, .any, .any, .any, .any, .any, .any, .any, .any, .any, .any, .any, .any, .any, .any, .any, .any, .any, .any, .any, .any, .any]) (fun j => [.row 2 (o ++ (orgT k t).take j).length, .cells [slA .u8 t.lit, iA t.off, iA t.len]]) (fun j => j ≤ t.lit.length) (fun j => t.lit.length - j) 0 (by simp) (Wk.to (by simp) (by simp [leT])) ?_
      intro j hj
      have lj : (o ++ (orgT k t).take j).length = o.length + j := by simp [orgT_len]; omega
      (simp only [go_sem, Nat.reduceAdd, Nat.reduceMul, Int.reduceToNat, Nat.reduceLeDiff, Int.reduceLE, Int.reduceLT, ↓reduceIte, Int.reduceBEq, Int.reduceBNe, Int.reduceAdd, Int.reduceSub, Int.reduceMul, qFin_ret, qFin_normal]; (try ((refine okTr_and ?_ ?_); (· rfl))))
      refine cdK_split (fun h => ?_) (fun h => ?_)
      · have hjl : j < t.lit.length := by simpa using h
        have ej := i64_succ j (by omega)
        have tj := orgT_take k t j hjl
        (simp only [go_sem, Nat.reduceAdd, Nat.reduceMul, Int.reduceToNat, Nat.reduceLeDiff, Int.reduceLE, Int.reduceLT, ↓reduceIte, Int.reduceBEq, Int.reduceBNe, Int.reduceAdd, Int.reduceSub, Int.reduceMul, qFin_ret, qFin_normal, prs_snoc, prs_length, ej]; (try ((refine okTr_and ?_ ?_); (· rfl))))
        (repeat ((with_reducible refine And.intro ?_ ?_); (· first | with_reducible assumption | omega | with_reducible rfl | (simp only [List.length_append, List.length_cons, List.length_nil, List.length_singleton]; omega) | (simp [ints_length, okEl_eq, AV.parts]; done) | (simp [ints_length, okEl_eq, AV.parts]; omega) | rfl)))
        refine ⟨j + 1, hjl, by omega, Wk.to ?_ ?_⟩
        · simp [tj, ← List.append_assoc]
        · simp [leT, tj]
      · have ej : j = t.lit.length := by simp at h; omega
        have etk : (orgT k t).take j = orgT k t := List.take_of_length_le (by rw [orgT_len]; omega)
        rw [etk] at lj ⊢
        (simp only [go_sem, Nat.reduceAdd, Nat.reduceMul, Int.reduceToNat, Nat.reduceLeDiff, Int.reduceLE, Int.reduceLT, ↓reduceIte, Int.reduceBEq, Int.reduceBNe, Int.reduceAdd, Int.reduceSub, Int.reduceMul, qFin_ret, qFin_normal]; (try ((refine okTr_and ?_ ?_); (· rfl))))
        refine loop_of (α := Nat) (fun j => [.any, .any, .any, .any, .sl (.row 0) 2 (prs (agn (0, 0) id (o ++ orgT k t) t.off.toNat j)), .any, .ref 1 0, .any, .any, .any, .any, slT l, iA l.length, iA k, .any, .any, .any, .any, .any, .any, .any, .any, .any, .any, .any, .any, .any, .any, .any, .any, .any, .any, iA t.len, iA j, .any, .any, .any, .any, .any, .any, .any, .any, .any, .any, .any, .any, .any, .any, .any]) (fun j => [.row 2 (agn (0, 0) id (o ++ orgT k t) t.off.toNat j).length, .cells [slA .u8 t.lit, iA t.off, iA t.len]]) (fun j => j ≤ t.len.toNat) (fun j => t.len.toNat - j) 0 (by simp) (Wk.to (by simp [agn]) (by simp [leT, agn])) ?_
        intro i hi
        have hal := agn_len (d := ((0 : Int), (0 : Int))) (cp := id) t.off.toNat i (o ++ orgT k t)
        rw [List.length_append, orgT_len] at hal
        (simp only [go_sem, Nat.reduceAdd, Nat.reduceMul, Int.reduceToNat, Nat.reduceLeDiff, Int.reduceLE, Int.reduceLT, ↓reduceIte, Int.reduceBEq, Int.reduceBNe, Int.reduceAdd, Int.reduceSub, Int.reduceMul, qFin_ret, qFin_normal]; (try ((refine okTr_and ?_ ?_); (· rfl))))
        by_cases hil : (i : Int) < t.len
        · have q : decide ((i : Int) < t.len) = true := by simpa using hil
          have p7 := p2 (by omega)
          have p6 := p3 (by omega)
          have e3 := i64_succ i (by omega)
          have hs := agn_snoc (d := ((0 : Int), (0 : Int))) (cp := id) t.off.toNat i (o ++ orgT k t)
          obtain ⟨m, hm⟩ : ∃ m : Nat, (agn ((0 : Int), (0 : Int)) id (o ++ orgT k t) t.off.toNat i).length - t.off.toNat = m := ⟨_, rfl⟩
          rw [hm] at hs
          have e1 : IntKind.i64.wrap (((agn ((0 : Int), (0 : Int)) id (o ++ orgT k t) t.off.toNat i).length : Int) - t.off) = (m : Int) := by rw [IntWalk.i64_in _ (by omega)]; omega
          have g2 := prs_get (agn ((0 : Int), (0 : Int)) id (o ++ orgT k t) t.off.toNat i) m (by omega)
          (simp only [go_sem, Nat.reduceAdd, Nat.reduceMul, Int.reduceToNat, Nat.reduceLeDiff, Int.reduceLE, Int.reduceLT, ↓reduceIte, Int.reduceBEq, Int.reduceBNe, Int.reduceAdd, Int.reduceSub, Int.reduceMul, qFin_ret, qFin_normal, q, prs_length, e1, g2, prs_snoc, e3]; (try ((refine okTr_and ?_ ?_); (· rfl))))
          (repeat ((with_reducible refine And.intro ?_ ?_); (· first | with_reducible assumption | omega | with_reducible rfl | (simp only [List.length_append, List.length_cons, List.length_nil, List.length_singleton]; omega) | (simp [ints_length, okEl_eq, AV.parts]; done) | (simp [ints_length, okEl_eq, AV.parts]; omega) | rfl)))
          refine ⟨i + 1, by omega, by omega, Wk.to ?_ ?_⟩
          · simp [hs]
          · simp [leT, hs]
        · have q : decide ((i : Int) < t.len) = false := by simpa using hil
          have ek : i = t.len.toNat := by omega
          subst ek
          (simp only [go_sem, Nat.reduceAdd, Nat.reduceMul, Int.reduceToNat, Nat.reduceLeDiff, Int.reduceLE, Int.reduceLT, ↓reduceIte, Int.reduceBEq, Int.reduceBNe, Int.reduceAdd, Int.reduceSub, Int.reduceMul, qFin_ret, qFin_normal, q, ei]; (try ((refine okTr_and ?_ ?_); (· rfl))))
          exact ⟨(k + 1, expW out t, orgW k o t), ⟨hlt, by simp only; omega, hlen2, st.symm.trans he, so.symm.trans hor⟩, by simp only; omega, Wk.sel [0] (by simp) rfl (by simp) rfl (by simp [orgW, ints_nil, ren_lit, ren_ref, ren_any, ren_agg, ren_tup, ren_sl, ren_fn, tren_none, tren_full, tren_row, oren_cells, oren_row, oren_dead, ixs_z, ixs_1, ixs_2, ixs_3, ren_ints, List.map_cons, List.map_nil]) (by simp [selT, ints_nil, ren_lit, ren_ref, ren_any, ren_agg, ren_tup, ren_sl, ren_fn, tren_none, tren_full, tren_row, oren_cells, oren_row, oren_dead, ixs_z, ixs_1, ixs_2, ixs_3, ren_ints, List.map_cons, List.map_nil, orgW])⟩
    · have ek : k = l.length := by simp at h; omega
      rw [ek, List.drop_length] at hor
      have hor' : orgFrom l 0 [] = o := hor.symm
      (simp only [go_sem, Nat.reduceAdd, Nat.reduceMul, Int.reduceToNat, Nat.reduceLeDiff, Int.reduceLE, Int.reduceLT, ↓reduceIte, Int.reduceBEq, Int.reduceBNe, Int.reduceAdd, Int.reduceSub, Int.reduceMul, qFin_ret, qFin_normal]; (try ((refine okTr_and ?_ ?_); (· rfl))))
      (refine FinK.untag 2 rfl ?_; simp only [untag1_sl, List.set_cons_zero, List.set_cons_succ])
      ((refine FinK.fin r23 [] ?_ ?_ ?_ ?_ ?_ ?_); (· decide); (· rfl); (· simp); (· rfl); (· first | with_reducible rfl | (simp [ints_nil, ren_lit, ren_ref, ren_any, ren_agg, ren_tup, ren_sl, ren_fn, tren_none, tren_full, tren_row, oren_cells, oren_row, oren_dead, ixs_z, ixs_1, ixs_2, ixs_3, ren_ints, List.map_cons, List.map_nil, ha, hor']; done) | rfl); (· simp [resAL, resA1, loadA, oneOr, ints_nil, ren_lit, ren_ref, ren_any, ren_agg, ren_tup, ren_sl, ren_fn, tren_none, tren_full, tren_row, oren_cells, oren_row, oren_dead, ixs_z, ixs_1, ixs_2, ixs_3, ren_ints, List.map_cons, List.map_nil, ha, hor']))
theorem expand_Origins (l : List Tk) (hl : l.length ≤ 1000000) : Ct Try.prog 23 [slT l] [] (fun _ => .tup [.sl .none 2 (prs (orgA l).1), bA (orgA l).2]) [] (fun _ => []) := (expand_Origins0 l hl).toCt (by intros; simp [ints_nil, ren_lit, ren_ref, ren_any, ren_agg, ren_tup, ren_sl, ren_fn, tren_none, tren_full, tren_row, oren_cells, oren_row, oren_dead, ixs_z, ixs_1, ixs_2, ixs_3, ren_ints, List.map_cons, List.map_nil, ixs, List.range'_succ, ren_ints]) (by intros; simp [ints_nil, ren_lit, ren_ref, ren_any, ren_agg, ren_tup, ren_sl, ren_fn, tren_none, tren_full, tren_row, oren_cells, oren_row, oren_dead, ixs_z, ixs_1, ixs_2, ixs_3, ren_ints, List.map_cons, List.map_nil, ixs, List.range'_succ, ren_ints])

/-- Numbers that are no greater than they are many. -/
def Dok (d : List Int) : Prop := ∀ x ∈ d, 0 ≤ x ∧ x ≤ d.length
theorem Dok.zero {d : List Int} (h : Dok d) : Dok (d ++ [0]) := by
  intro x hx
  rw [List.length_append, List.length_singleton]
  rcases List.mem_append.1 hx with hx | hx
  · have := h x hx; omega
  · simp at hx; subst hx; omega
theorem Dok.get {d : List Int} (h : Dok d) (i : Nat) : 0 ≤ d.getD i 0 ∧ d.getD i 0 ≤ d.length := by
  rcases Nat.lt_or_ge i d.length with hi | hi
  · exact h _ (getD_mem d i hi)
  · rw [List.getD_eq_getElem?_getD, List.getElem?_eq_none hi]; simp
theorem Dok.next {d : List Int} (h : Dok d) (i : Nat) : Dok (d ++ [d.getD i 0 + 1]) := by
  intro x hx
  rw [List.length_append, List.length_singleton]
  rcases List.mem_append.1 hx with hx | hx
  · have := h x hx; omega
  · rw [List.mem_singleton] at hx; have := h.get i; omega
theorem Dok.agn (off : Nat) : ∀ (n : Nat) {d : List Int}, Dok d → Dok (agn 0 (· + 1) d off n) := by
  intro n
  induction n with
  | zero => intro d h; exact h
  | succ n ih => intro d h; exact ih (h.next _)
theorem Dok.zeros (n : Nat) : ∀ {d : List Int}, Dok d → Dok (d ++ List.replicate n 0) := by
  induction n with
  | zero => intro d h; simpa using h
  | succ n ih => intro d h; have := ih h.zero; rw [List.append_assoc] at this; exact this
def deepA (l : List Tk) : List Int × Bool := if goodFrom l [] = true then (deepFrom l [], true) else ([], false)
theorem i64_get (l : List Int) (k : Nat) (h : k < l.length) : (ints .i64 l).getD (k : Int).toNat .any = iA (l.getD k 0) := by
  rw [Int.toNat_natCast]; exact ints_getD .i64 l k h
theorem zeros_snoc (d : List Int) (j : Nat) : d ++ List.replicate j 0 ++ [0] = d ++ List.replicate (j + 1) 0 := by
  rw [List.append_assoc, List.replicate_succ']
set_option maxRecDepth 100000 in
theorem expand_Deep0 (l : List Tk) (hl : l.length ≤ 1000000) : Does Try.prog 24 [slT l] [] (.tup [slA .i64 (deepA l).1, bA (deepA l).2]) [] := by
  refine Does.run Try.func24 b24 n24 Try.ntmps24 (by simp only [List.cons_append, List.nil_append, List.length_cons, List.length_nil, Nat.zero_add, Nat.reduceAdd, Nat.reduceSub, List.replicate]; rfl) ?_; simp only [c24, go_sem, Nat.reduceAdd, Nat.reduceMul, Int.reduceToNat, Nat.reduceLeDiff, Int.reduceLE, Int.reduceLT, ↓reduceIte, Int.reduceBEq, Int.reduceBNe, Int.reduceAdd, Int.reduceSub, Int.reduceMul, qFin_ret, qFin_normal]; (try ((refine okTr_and ?_ ?_); (· rfl)))
  refine CallK.p (expand_good l hl) ?_
  cases hg : goodFrom l []
  · have ha : deepA l = ([], false) := by unfold deepA; rw [if_neg (by simp [hg])]
    (simp only [go_sem, Nat.reduceAdd, Nat.reduceMul, Int.reduceToNat, Nat.reduceLeDiff, Int.reduceLE, Int.reduceLT, ↓reduceIte, Int.reduceBEq, Int.reduceBNe, Int.reduceAdd, Int.reduceSub, Int.reduceMul, qFin_ret, qFin_normal, hg]; (try ((refine okTr_and ?_ ?_); (· rfl))))
    (refine FinK.untag 2 rfl ?_; simp only [untag1_sl, List.set_cons_zero, List.set_cons_succ])
    ((refine FinK.fin r24 [] ?_ ?_ ?_ ?_ ?_ ?_); (· decide); (· rfl); (· simp); (· rfl); (· first | with_reducible rfl | (simp [ints_nil, ren_lit, ren_ref, ren_any, ren_agg, ren_tup, ren_sl, ren_fn, tren_none, tren_full, tren_row, oren_cells, oren_row, oren_dead, ixs_z, ixs_1, ixs_2, ixs_3, ren_ints, List.map_cons, List.map_nil, ha]; done) | rfl); (· simp [resAL, resA1, loadA, oneOr, ints_nil, ren_lit, ren_ref, ren_any, ren_agg, ren_tup, ren_sl, ren_fn, tren_none, tren_full, tren_row, oren_cells, oren_row, oren_dead, ixs_z, ixs_1, ixs_2, ixs_3, ren_ints, List.map_cons, List.map_nil, ha]))
  · have ha : deepA l = (deepFrom l [], true) := by unfold deepA; rw [if_pos hg]
    (simp only [go_sem, Nat.reduceAdd, Nat.reduceMul, Int.reduceToNat, Nat.reduceLeDiff, Int.reduceLE, Int.reduceLT, ↓reduceIte, Int.reduceBEq, Int.reduceBNe, Int.reduceAdd, Int.reduceSub, Int.reduceMul, qFin_ret, qFin_normal, hg, tks_length]; (try ((refine okTr_and ?_ ?_); (· rfl))))
    refine loop_of (α := Nat × List Int × List Int) (fun a => [.any, .any, .any, .any, .sl (.row 0) 1 (ints .i64 a.2.2), .any, .any, .any, .any, .any, slT l, iA l.length, iA a.1, .any, .any, .any, .any, .any, .any, .any, .any, .any, .any, .any, .any, .any, .any, .any, .any, .any, .any, .any, .any, .any, .any, .any, .any, .any, .any, .any, .any, .any, .any, .any]) (fun a => [.row 1 a.2.2.length]) (fun a => a.1 ≤ l.length ∧ (a.2.1.length : Int) ≤ 1048576 ∧ a.2.2.length = a.2.1.length ∧ Dok a.2.2 ∧ goodFrom (l.drop a.1) a.2.1 = true ∧ deepFrom (l.drop a.1) a.2.2 = deepFrom l []) (fun a => l.length - a.1) (0, [], []) ⟨by simp, by simp, by simp, by intro x hx; simp at hx, by simpa using hg, by simp⟩ ((Wk.row 4 1 rfl (.inl rfl) (by decide)).trans (Wk.to (by simp) (by simp [leT, ints]))) ?_
    rintro ⟨k, out, d⟩ ⟨hk, ho, hlo, hd, he, hor⟩
    simp only at hk ho hlo hd he hor
    (simp only [go_sem, Nat.reduceAdd, Nat.reduceMul, Int.reduceToNat, Nat.reduceLeDiff, Int.reduceLE, Int.reduceLT, ↓reduceIte, Int.reduceBEq, Int.reduceBNe, Int.reduceAdd, Int.reduceSub, Int.reduceMul, qFin_ret, qFin_normal]; (try ((refine okTr_and ?_ ?_); (· rfl))))
    refine cdK_split (fun h => ?_) (fun h => ?_)
    · have hlt : k < l.length := by simpa using h
      have g := tks_get l k hlt
      have ei := i64_succ k (by omega)
      have st := good_step (l := l) (k := k) (out := out) hlt
      have so := deep_step (l := l) (k := k) (d := d) hlt
      obtain ⟨t, ht⟩ : ∃ t, l.getD k tk0 = t := ⟨_, rfl⟩
      rw [ht] at g st so
      have hw : wrongT t out.length 1048576 = 0 := by
        by_cases hw : wrongT t out.length 1048576 = 0
        · exact hw
        · rw [if_neg hw, he] at st; cases st
      rw [if_pos hw] at st
      obtain ⟨w1, w2, w3⟩ := wrongT_zero hw
      have hle := expW_len out w1
      obtain ⟨p1, p5, p2, p3, p4⟩ := right_parts w1
      have hlen2 : (deepW d t).length = (expW out t).length := by
        unfold deepW expW; rw [agn_len, again_len, List.length_append, List.length_append, List.length_replicate, hlo]
      have hdw : Dok (deepW d t) := (hd.zeros _).agn _ _
      (simp only [go_sem, Nat.reduceAdd, Nat.reduceMul, Int.reduceToNat, Nat.reduceLeDiff, Int.reduceLE, Int.reduceLT, ↓reduceIte, Int.reduceBEq, Int.reduceBNe, Int.reduceAdd, Int.reduceSub, Int.reduceMul, qFin_ret, qFin_normal, g, tks_length, ints_length]; (try ((refine okTr_and ?_ ?_); (· rfl))))
      (repeat ((with_reducible refine And.intro ?_ ?_); (· first | with_reducible assumption | omega | with_reducible rfl | (simp only [List.length_append, List.length_cons, List.length_nil, List.length_singleton]; omega) | (simp [ints_length, okEl_eq, AV.parts]; done) | (simp [ints_length, okEl_eq, AV.parts]; omega) | rfl)))
      refine loop_of (α := Nat) (fun j => [.any, .any, .any, .any, .sl (.row 0) 1 (ints .i64 (d ++ List.replicate j 0)), .any, .ref 1 0, .any, .any, .any, slT l, iA l.length, iA k, .any, .any, .any, .any, .any, iA t.lit.length, iA j, .any, .any, .any, .any, .any, .any, .any, .any, .any, .any, .any, .any, .any, .any, .any, .any, .any, .any, .any, .any, .any, .any, .any, .any]) (fun j => [.row 1 (d ++ List.replicate j 0).length, .cells [slA .u8 t.lit, iA t.off, iA t.len]]) (fun j => j ≤ t.lit.length) (fun j => t.lit.length - j) 0 (by simp) (Wk.to (by simp) (by simp [leT])) ?_
      intro j hj
      have lj : (d ++ List.replicate j (0 : Int)).length = d.length + j := by simp
      (simp only [go_sem, Nat.reduceAdd, Nat.reduceMul, Int.reduceToNat, Nat.reduceLeDiff, Int.reduceLE, Int.reduceLT, ↓reduceIte, Int.reduceBEq, Int.reduceBNe, Int.reduceAdd, Int.reduceSub, Int.reduceMul, qFin_ret, qFin_normal]; (try ((refine okTr_and ?_ ?_); (· rfl))))
      refine cdK_split (fun h => ?_) (fun h => ?_)
      · have hjl : j < t.lit.length := by simpa using h
        have ej := i64_succ j (by omega)
        (simp only [go_sem, Nat.reduceAdd, Nat.reduceMul, Int.reduceToNat, Nat.reduceLeDiff, Int.reduceLE, Int.reduceLT, ↓reduceIte, Int.reduceBEq, Int.reduceBNe, Int.reduceAdd, Int.reduceSub, Int.reduceMul, qFin_ret, qFin_normal, ints_snoc, zeros_snoc, ints_length, ej]; (try ((refine okTr_and ?_ ?_); (· rfl))))
        (repeat ((with_reducible refine And.intro ?_ ?_); (· first | with_reducible assumption | omega | with_reducible rfl | (simp only [List.length_append, List.length_cons, List.length_nil, List.length_singleton]; omega) | (simp [ints_length, okEl_eq, AV.parts]; done) | (simp [ints_length, okEl_eq, AV.parts]; omega) | rfl)))
        exact ⟨j + 1, hjl, by omega, Wk.to (by simp; omega) (by simp [leT, List.replicate_succ])⟩
      · have ej : j = t.lit.length := by simp at h; omega
        subst ej
        (simp only [go_sem, Nat.reduceAdd, Nat.reduceMul, Int.reduceToNat, Nat.reduceLeDiff, Int.reduceLE, Int.reduceLT, ↓reduceIte, Int.reduceBEq, Int.reduceBNe, Int.reduceAdd, Int.reduceSub, Int.reduceMul, qFin_ret, qFin_normal]; (try ((refine okTr_and ?_ ?_); (· rfl))))
        refine loop_of (α := Nat) (fun j => [.any, .any, .any, .any, .sl (.row 0) 1 (ints .i64 (agn 0 (· + 1) (d ++ List.replicate t.lit.length 0) t.off.toNat j)), .any, .ref 1 0, .any, .any, .any, slT l, iA l.length, iA k, .any, .any, .any, .any, .any, .any, .any, .any, .any, .any, .any, .any, .any, iA t.len, iA j, .any, .any, .any, .any, .any, .any, .any, .any, .any, .any, .any, .any, .any, .any, .any, .any]) (fun j => [.row 1 (agn 0 (· + 1) (d ++ List.replicate t.lit.length 0) t.off.toNat j).length, .cells [slA .u8 t.lit, iA t.off, iA t.len]]) (fun j => j ≤ t.len.toNat) (fun j => t.len.toNat - j) 0 (by simp) (Wk.to (by simp [agn]) (by simp [leT, agn])) ?_
        intro i hi
        have hal := agn_len (d := (0 : Int)) (cp := (· + 1)) t.off.toNat i (d ++ List.replicate t.lit.length 0)
        rw [List.length_append, List.length_replicate] at hal
        (simp only [go_sem, Nat.reduceAdd, Nat.reduceMul, Int.reduceToNat, Nat.reduceLeDiff, Int.reduceLE, Int.reduceLT, ↓reduceIte, Int.reduceBEq, Int.reduceBNe, Int.reduceAdd, Int.reduceSub, Int.reduceMul, qFin_ret, qFin_normal]; (try ((refine okTr_and ?_ ?_); (· rfl))))
        by_cases hil : (i : Int) < t.len
        · have q : decide ((i : Int) < t.len) = true := by simpa using hil
          have p7 := p2 (by omega)
          have p6 := p3 (by omega)
          have e3 := i64_succ i (by omega)
          have hs := agn_snoc (d := (0 : Int)) (cp := (· + 1)) t.off.toNat i (d ++ List.replicate t.lit.length 0)
          have hdi : Dok (agn 0 (· + 1) (d ++ List.replicate t.lit.length 0) t.off.toNat i) := (hd.zeros _).agn _ _
          obtain ⟨m, hm⟩ : ∃ m : Nat, (agn (0 : Int) (· + 1) (d ++ List.replicate t.lit.length 0) t.off.toNat i).length - t.off.toNat = m := ⟨_, rfl⟩
          rw [hm] at hs
          generalize agn (0 : Int) (· + 1) (d ++ List.replicate t.lit.length 0) t.off.toNat i = D at *
          have hx := hdi.get m
          have e1 : IntKind.i64.wrap ((D.length : Int) - t.off) = (m : Int) := by rw [IntWalk.i64_in _ (by omega)]; omega
          have e4 : IntKind.i64.wrap (D.getD m 0 + 1) = D.getD m 0 + 1 := IntWalk.i64_in _ (by omega)
          have g2 := i64_get D m (by omega)
          (simp only [go_sem, Nat.reduceAdd, Nat.reduceMul, Int.reduceToNat, Nat.reduceLeDiff, Int.reduceLE, Int.reduceLT, ↓reduceIte, Int.reduceBEq, Int.reduceBNe, Int.reduceAdd, Int.reduceSub, Int.reduceMul, qFin_ret, qFin_normal, q, ints_length, e1, g2, e4, ints_snoc, e3]; (try ((refine okTr_and ?_ ?_); (· rfl))))
          (repeat ((with_reducible refine And.intro ?_ ?_); (· first | with_reducible assumption | omega | with_reducible rfl | (simp only [List.length_append, List.length_cons, List.length_nil, List.length_singleton]; omega) | (simp [ints_length, okEl_eq, AV.parts]; done) | (simp [ints_length, okEl_eq, AV.parts]; omega) | rfl)))
          refine ⟨i + 1, by omega, by omega, Wk.to ?_ ?_⟩
          · simp [hs]
          · simp [leT, hs]
        · have q : decide ((i : Int) < t.len) = false := by simpa using hil
          have ek : i = t.len.toNat := by omega
          subst ek
          (simp only [go_sem, Nat.reduceAdd, Nat.reduceMul, Int.reduceToNat, Nat.reduceLeDiff, Int.reduceLE, Int.reduceLT, ↓reduceIte, Int.reduceBEq, Int.reduceBNe, Int.reduceAdd, Int.reduceSub, Int.reduceMul, qFin_ret, qFin_normal, q, ei]; (try ((refine okTr_and ?_ ?_); (· rfl))))
          exact ⟨(k + 1, expW out t, deepW d t), ⟨hlt, by simp only; omega, hlen2, hdw, st.symm.trans he, so.symm.trans hor⟩, by simp only; omega, Wk.sel [0] (by simp) rfl (by simp) rfl (by simp [deepW, ints_nil, ren_lit, ren_ref, ren_any, ren_agg, ren_tup, ren_sl, ren_fn, tren_none, tren_full, tren_row, oren_cells, oren_row, oren_dead, ixs_z, ixs_1, ixs_2, ixs_3, ren_ints, List.map_cons, List.map_nil]) (by simp [selT, ints_nil, ren_lit, ren_ref, ren_any, ren_agg, ren_tup, ren_sl, ren_fn, tren_none, tren_full, tren_row, oren_cells, oren_row, oren_dead, ixs_z, ixs_1, ixs_2, ixs_3, ren_ints, List.map_cons, List.map_nil, deepW])⟩
    · have ek : k = l.length := by simp at h; omega
      rw [ek, List.drop_length] at hor
      have hor' : deepFrom l [] = d := hor.symm
      (simp only [go_sem, Nat.reduceAdd, Nat.reduceMul, Int.reduceToNat, Nat.reduceLeDiff, Int.reduceLE, Int.reduceLT, ↓reduceIte, Int.reduceBEq, Int.reduceBNe, Int.reduceAdd, Int.reduceSub, Int.reduceMul, qFin_ret, qFin_normal]; (try ((refine okTr_and ?_ ?_); (· rfl))))
      (refine FinK.untag 2 rfl ?_; simp only [untag1_sl, List.set_cons_zero, List.set_cons_succ])
      ((refine FinK.fin r24 [] ?_ ?_ ?_ ?_ ?_ ?_); (· decide); (· rfl); (· simp); (· rfl); (· first | with_reducible rfl | (simp [ints_nil, ren_lit, ren_ref, ren_any, ren_agg, ren_tup, ren_sl, ren_fn, tren_none, tren_full, tren_row, oren_cells, oren_row, oren_dead, ixs_z, ixs_1, ixs_2, ixs_3, ren_ints, List.map_cons, List.map_nil, ha, hor']; done) | rfl); (· simp [resAL, resA1, loadA, oneOr, ints_nil, ren_lit, ren_ref, ren_any, ren_agg, ren_tup, ren_sl, ren_fn, tren_none, tren_full, tren_row, oren_cells, oren_row, oren_dead, ixs_z, ixs_1, ixs_2, ixs_3, ren_ints, List.map_cons, List.map_nil, ha, hor']))
theorem expand_Deep (l : List Tk) (hl : l.length ≤ 1000000) : Ct Try.prog 24 [slT l] [] (fun _ => .tup [slA .i64 (deepA l).1, bA (deepA l).2]) [] (fun _ => []) := (expand_Deep0 l hl).toCt (by intros; simp [ints_nil, ren_lit, ren_ref, ren_any, ren_agg, ren_tup, ren_sl, ren_fn, tren_none, tren_full, tren_row, oren_cells, oren_row, oren_dead, ixs_z, ixs_1, ixs_2, ixs_3, ren_ints, List.map_cons, List.map_nil, ixs, List.range'_succ, ren_ints]) (by intros; simp [ints_nil, ren_lit, ren_ref, ren_any, ren_agg, ren_tup, ren_sl, ren_fn, tren_none, tren_full, tren_row, oren_cells, oren_row, oren_dead, ixs_z, ixs_1, ixs_2, ixs_3, ren_ints, List.map_cons, List.map_nil, ixs, List.range'_succ, ren_ints])
end Go.Proofs.Ytpjkmidjjodplaa
