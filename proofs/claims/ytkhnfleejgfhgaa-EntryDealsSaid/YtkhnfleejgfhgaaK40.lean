/-
  Contracts of chapter 23: which links are well-formed, how they are written.
-/
import Derived.Test.YtkhnfleejgfhgaaQ5
import Derived.Test.YtkhnfleejgfhgaaP16
set_option linter.all false
set_option linter.unusedSimpArgs false
set_option linter.unusedVariables false
set_option linter.unnecessarySimpa false
namespace Go.Proofs.Ytkhnfleejgfhgaa
open Go.RowKit

/-- A link, links. -/
abbrev lkA (x : Lk) : AV := .agg [uA x.st, slU x.bk]
def lks (l : List Lk) : List AV := l.map lkA
abbrev slL (l : List Lk) : AV := .sl .none 2 (lks l)
@[simp] theorem ren_lks (ρ : Nat → Nat) (l : List Lk) : (lks l).map (fun x => x.ren ρ) = lks l := by
  have h : ∀ (k : IntKind) (m : List Int), (ints k m).map (fun x => x.ren ρ) = ints k m := ren_ints ρ
  simp [lks, ints_nil, ren_lit, ren_ref, ren_any, ren_agg, ren_tup, ren_sl, ren_fn, tren_none, tren_full, tren_row, oren_cells, oren_row, oren_dead, ixs_z, ixs_1, ixs_2, ixs_3, ren_ints, List.map_cons, List.map_nil]
@[simp] theorem ren_ints_l (ρ : Nat → Nat) (k : IntKind) (l : List Int) : (ints k l).map (fun x => x.ren ρ) = ints k l := ren_ints ρ k l
theorem lks_length (l : List Lk) : (lks l).length = l.length := by simp [lks]
theorem lks_nil : lks [] = [] := (rfl)
theorem lks_snoc (l : List Lk) (x : Lk) : lks l ++ [lkA x] = lks (l ++ [x]) := by simp [lks]
theorem lks_get (l : List Lk) (k : Nat) (h : k < l.length) : (lks l).getD k .any = lkA (l.getD k lk0) := by simp [lks, h]
theorem lk_take (l : List Lk) (k : Nat) (h : k < l.length) : l.take (k + 1) = l.take k ++ [l.getD k lk0] := by
  rw [List.take_succ_eq_append_getElem h]; simp [h]
theorem Lks.take {l : List Lk} (h : Lks l) (k : Nat) : Lks (l.take k) := fun x hx => h x (List.mem_of_mem_take hx)
theorem i64_pred (k : Nat) (h0 : 0 < k) (h : k < 140737488355328) : IntKind.i64.wrap ((k : Int) - 1) = ((k - 1 : Nat) : Int) := by rw [IntWalk.i64_in _ (by omega)]; omega
theorem link_stream0 (x : Lk) : Does Try.prog 114 [lkA x] [] (uA x.st) [] := by
  refine Does.run Try.func114 b114 n114 Try.ntmps114 (by simp only [List.cons_append, List.nil_append, List.length_cons, List.length_nil, Nat.zero_add, Nat.reduceAdd, Nat.reduceSub, List.replicate]; rfl) ?_; simp only [c114, go_sem, Nat.reduceAdd, Nat.reduceMul, Int.reduceToNat, Nat.reduceLeDiff, Int.reduceLE, Int.reduceLT, ↓reduceIte, Int.reduceBEq, Int.reduceBNe, Int.reduceAdd, Int.reduceSub, Int.reduceMul, qFin_ret, qFin_normal]; (try ((refine okTr_and ?_ ?_); (· rfl)))
  ((refine FinK.fin r114 [] ?_ ?_ ?_ ?_ ?_ ?_); (· decide); (· rfl); (· simp); (· rfl); (· first | with_reducible rfl | (simp [ints_nil, ren_lit, ren_ref, ren_any, ren_agg, ren_tup, ren_sl, ren_fn, tren_none, tren_full, tren_row, oren_cells, oren_row, oren_dead, ixs_z, ixs_1, ixs_2, ixs_3, ren_ints, List.map_cons, List.map_nil]; done) | rfl); (· simp [resAL, resA1, loadA, oneOr, ints_nil, ren_lit, ren_ref, ren_any, ren_agg, ren_tup, ren_sl, ren_fn, tren_none, tren_full, tren_row, oren_cells, oren_row, oren_dead, ixs_z, ixs_1, ixs_2, ixs_3, ren_ints, List.map_cons, List.map_nil]))
theorem link_stream (x : Lk) : Ct Try.prog 114 [lkA x] [] (fun _ => uA x.st) [] (fun _ => []) := (link_stream0 x).toCt (by intros; simp [ints_nil, ren_lit, ren_ref, ren_any, ren_agg, ren_tup, ren_sl, ren_fn, tren_none, tren_full, tren_row, oren_cells, oren_row, oren_dead, ixs_z, ixs_1, ixs_2, ixs_3, ren_ints, List.map_cons, List.map_nil, ixs, List.range'_succ, ren_ints]) (by intros; simp [ints_nil, ren_lit, ren_ref, ren_any, ren_agg, ren_tup, ren_sl, ren_fn, tren_none, tren_full, tren_row, oren_cells, oren_row, oren_dead, ixs_z, ixs_1, ixs_2, ixs_3, ren_ints, List.map_cons, List.map_nil, ixs, List.range'_succ, ren_ints])
set_option maxRecDepth 100000 in
theorem link_rises0 (l : List Lk) (hn : l.length ≤ 1000000) : Does Try.prog 113 [slL l, .fn 114 [] []] [] (bA (risesL l)) [] := by
  refine Does.run Try.func113 b113 n113 Try.ntmps113 (by simp only [List.cons_append, List.nil_append, List.length_cons, List.length_nil, Nat.zero_add, Nat.reduceAdd, Nat.reduceSub, List.replicate]; rfl) ?_; simp only [c113, go_sem, Nat.reduceAdd, Nat.reduceMul, Int.reduceToNat, Nat.reduceLeDiff, Int.reduceLE, Int.reduceLT, ↓reduceIte, Int.reduceBEq, Int.reduceBNe, Int.reduceAdd, Int.reduceSub, Int.reduceMul, qFin_ret, qFin_normal, lks_length]; (try ((refine okTr_and ?_ ?_); (· rfl)))
  refine loop_of (α := Nat) (fun k => [slL l, .fn 114 [] [], .any, .any, .any, .any, .any, iA l.length, iA k, .any, .any, .any, .any, .any, .any, .any, .any, .any, .any, .any, .any, .any, .any, .any, .any, .any, .any, .any, .any, .any]) (fun _ => []) (fun k => k ≤ l.length ∧ ∀ i, i < k → 0 < i → (l.getD (i - 1) lk0).st < (l.getD i lk0).st) (fun k => l.length - k) 0 ⟨by simp, fun i hi => by omega⟩ (Wk.to (by simp) (by simp [leT])) ?_
  rintro k ⟨hk, hall⟩
  (simp only [go_sem, Nat.reduceAdd, Nat.reduceMul, Int.reduceToNat, Nat.reduceLeDiff, Int.reduceLE, Int.reduceLT, ↓reduceIte, Int.reduceBEq, Int.reduceBNe, Int.reduceAdd, Int.reduceSub, Int.reduceMul, qFin_ret, qFin_normal]; (try ((refine okTr_and ?_ ?_); (· rfl))))
  by_cases hlt : k < l.length
  · have q1 : decide ((k : Int) < (l.length : Int)) = true := by simp; omega
    have ek := i64_succ k (by omega)
    have g := lks_get l k hlt
    by_cases h0 : 0 < k
    · have q2 : decide ((0 : Int) < (k : Int)) = true := by simp; omega
      have ep := i64_pred k h0 (by omega)
      have g2 := lks_get l (k - 1) (by omega)
      (simp only [go_sem, Nat.reduceAdd, Nat.reduceMul, Int.reduceToNat, Nat.reduceLeDiff, Int.reduceLE, Int.reduceLT, ↓reduceIte, Int.reduceBEq, Int.reduceBNe, Int.reduceAdd, Int.reduceSub, Int.reduceMul, qFin_ret, qFin_normal, q1, q2, g, lks_length, Int.toNat_natCast]; (try ((refine okTr_and ?_ ?_); (· rfl))))
      (repeat ((with_reducible refine And.intro ?_ ?_); (· first | with_reducible assumption | omega | with_reducible rfl | (simp only [List.length_append, List.length_cons, List.length_nil, List.length_singleton]; omega) | (simp [ints_length, okEl_eq, AV.parts]; done) | (simp [ints_length, okEl_eq, AV.parts]; omega) | rfl)))
      refine CallK.p (link_stream (l.getD k lk0)) ?_; (simp only [go_sem, Nat.reduceAdd, Nat.reduceMul, Int.reduceToNat, Nat.reduceLeDiff, Int.reduceLE, Int.reduceLT, ↓reduceIte, Int.reduceBEq, Int.reduceBNe, Int.reduceAdd, Int.reduceSub, Int.reduceMul, qFin_ret, qFin_normal, ep, g2, lks_length, Int.toNat_natCast]; (try ((refine okTr_and ?_ ?_); (· rfl))))
      (repeat ((with_reducible refine And.intro ?_ ?_); (· first | with_reducible assumption | omega | with_reducible rfl | (simp only [List.length_append, List.length_cons, List.length_nil, List.length_singleton]; omega) | (simp [ints_length, okEl_eq, AV.parts]; done) | (simp [ints_length, okEl_eq, AV.parts]; omega) | rfl)))
      refine CallK.p (link_stream (l.getD (k - 1) lk0)) ?_
      by_cases hs : (l.getD k lk0).st ≤ (l.getD (k - 1) lk0).st
      · have q3 : decide ((l.getD k lk0).st ≤ (l.getD (k - 1) lk0).st) = true := by simpa using hs
        have e : risesL l = false := by
          cases hr : risesL l with
          | false => rfl
          | true => have := risesL_iff.1 hr k hlt h0; omega
        (simp only [go_sem, Nat.reduceAdd, Nat.reduceMul, Int.reduceToNat, Nat.reduceLeDiff, Int.reduceLE, Int.reduceLT, ↓reduceIte, Int.reduceBEq, Int.reduceBNe, Int.reduceAdd, Int.reduceSub, Int.reduceMul, qFin_ret, qFin_normal, q3]; (try ((refine okTr_and ?_ ?_); (· rfl))))
        ((refine FinK.fin r113 [] ?_ ?_ ?_ ?_ ?_ ?_); (· decide); (· rfl); (· simp); (· rfl); (· first | with_reducible rfl | (simp [ints_nil, ren_lit, ren_ref, ren_any, ren_agg, ren_tup, ren_sl, ren_fn, tren_none, tren_full, tren_row, oren_cells, oren_row, oren_dead, ixs_z, ixs_1, ixs_2, ixs_3, ren_ints, List.map_cons, List.map_nil, e]; done) | rfl); (· simp [resAL, resA1, loadA, oneOr, ints_nil, ren_lit, ren_ref, ren_any, ren_agg, ren_tup, ren_sl, ren_fn, tren_none, tren_full, tren_row, oren_cells, oren_row, oren_dead, ixs_z, ixs_1, ixs_2, ixs_3, ren_ints, List.map_cons, List.map_nil, e]))
      · have q3 : decide ((l.getD k lk0).st ≤ (l.getD (k - 1) lk0).st) = false := by simpa using hs
        (simp only [go_sem, Nat.reduceAdd, Nat.reduceMul, Int.reduceToNat, Nat.reduceLeDiff, Int.reduceLE, Int.reduceLT, ↓reduceIte, Int.reduceBEq, Int.reduceBNe, Int.reduceAdd, Int.reduceSub, Int.reduceMul, qFin_ret, qFin_normal, q3, ek]; (try ((refine okTr_and ?_ ?_); (· rfl))))
        exact ⟨k + 1, ⟨hlt, fun i hi h1 => by
          rcases Nat.lt_or_ge i k with h | h
          · exact hall i h h1
          · obtain rfl : i = k := by omega
            omega⟩, by omega, Wk.to (by simp) (by simp [leT])⟩
    · have q2 : decide ((0 : Int) < (k : Int)) = false := by simp; omega
      (simp only [go_sem, Nat.reduceAdd, Nat.reduceMul, Int.reduceToNat, Nat.reduceLeDiff, Int.reduceLE, Int.reduceLT, ↓reduceIte, Int.reduceBEq, Int.reduceBNe, Int.reduceAdd, Int.reduceSub, Int.reduceMul, qFin_ret, qFin_normal, q1, q2, ek]; (try ((refine okTr_and ?_ ?_); (· rfl))))
      exact ⟨k + 1, ⟨hlt, fun i hi h1 => by omega⟩, by omega, Wk.to (by simp) (by simp [leT])⟩
  · have q1 : decide ((k : Int) < (l.length : Int)) = false := by simp; omega
    have e : risesL l = true := risesL_iff.2 fun i hi h0 => hall i (by omega) h0
    (simp only [go_sem, Nat.reduceAdd, Nat.reduceMul, Int.reduceToNat, Nat.reduceLeDiff, Int.reduceLE, Int.reduceLT, ↓reduceIte, Int.reduceBEq, Int.reduceBNe, Int.reduceAdd, Int.reduceSub, Int.reduceMul, qFin_ret, qFin_normal, q1]; (try ((refine okTr_and ?_ ?_); (· rfl))))
    ((refine FinK.fin r113 [] ?_ ?_ ?_ ?_ ?_ ?_); (· decide); (· rfl); (· simp); (· rfl); (· first | with_reducible rfl | (simp [ints_nil, ren_lit, ren_ref, ren_any, ren_agg, ren_tup, ren_sl, ren_fn, tren_none, tren_full, tren_row, oren_cells, oren_row, oren_dead, ixs_z, ixs_1, ixs_2, ixs_3, ren_ints, List.map_cons, List.map_nil, e]; done) | rfl); (· simp [resAL, resA1, loadA, oneOr, ints_nil, ren_lit, ren_ref, ren_any, ren_agg, ren_tup, ren_sl, ren_fn, tren_none, tren_full, tren_row, oren_cells, oren_row, oren_dead, ixs_z, ixs_1, ixs_2, ixs_3, ren_ints, List.map_cons, List.map_nil, e]))
theorem link_rises (l : List Lk) (hn : l.length ≤ 1000000) : Ct Try.prog 113 [slL l, .fn 114 [] []] [] (fun _ => bA (risesL l)) [] (fun _ => []) := (link_rises0 l hn).toCt (by intros; simp [ints_nil, ren_lit, ren_ref, ren_any, ren_agg, ren_tup, ren_sl, ren_fn, tren_none, tren_full, tren_row, oren_cells, oren_row, oren_dead, ixs_z, ixs_1, ixs_2, ixs_3, ren_ints, List.map_cons, List.map_nil, ixs, List.range'_succ, ren_ints]) (by intros; simp [ints_nil, ren_lit, ren_ref, ren_any, ren_agg, ren_tup, ren_sl, ren_fn, tren_none, tren_full, tren_row, oren_cells, oren_row, oren_dead, ixs_z, ixs_1, ixs_2, ixs_3, ren_ints, List.map_cons, List.map_nil, ixs, List.range'_succ, ren_ints])
theorem fidx_no {α : Type} {p : α → Bool} {l : List α} (h : ∀ x ∈ l, p x = false) : l.findIdx p = l.length := List.findIdx_eq_length.2 h
/-- The first of some links that a function with one thing in mind takes. -/
theorem link_place0 (f : FuncId) (o : AObj) (ok : Lk → Bool) (ho : ∀ ρ, o.ren ρ = o) (hd : o ≠ .dead) (l : List Lk) (hf : ∀ x ∈ l, ∀ i, Ct Try.prog f [lkA x, .ref i 0] [(i, o)] (fun _ => bA (ok x)) [] (fun _ => [])) (hn : l.length ≤ 1000000) :
    Does Try.prog 117 [slL l, .fn f [] [.ref 0 0]] [o] (iA (l.findIdx ok)) [o] := by
  refine Does.run Try.func117 b117 n117 Try.ntmps117 (by simp only [List.cons_append, List.nil_append, List.length_cons, List.length_nil, Nat.zero_add, Nat.reduceAdd, Nat.reduceSub, List.replicate]; rfl) ?_; simp only [c117, go_sem, Nat.reduceAdd, Nat.reduceMul, Int.reduceToNat, Nat.reduceLeDiff, Int.reduceLE, Int.reduceLT, ↓reduceIte, Int.reduceBEq, Int.reduceBNe, Int.reduceAdd, Int.reduceSub, Int.reduceMul, qFin_ret, qFin_normal, lks_length]; (try ((refine okTr_and ?_ ?_); (· rfl)))
  refine loop_of (α := Nat) (fun k => [slL l, .fn f [] [.ref 0 0], .any, .any, .any, .any, .any, slL l, iA l.length, iA k, .any, .any, .any, .any, .any, .any, .any, .any, .any, .any, .any]) (fun _ => [o]) (fun k => k ≤ l.length ∧ ∀ i (h : i < l.length), i < k → ok l[i] = false) (fun k => l.length - k) 0 ⟨by simp, fun i _ hi => by omega⟩ (Wk.to (by simp) (by simp [leT])) ?_
  rintro k ⟨hk, hall⟩
  (simp only [go_sem, Nat.reduceAdd, Nat.reduceMul, Int.reduceToNat, Nat.reduceLeDiff, Int.reduceLE, Int.reduceLT, ↓reduceIte, Int.reduceBEq, Int.reduceBNe, Int.reduceAdd, Int.reduceSub, Int.reduceMul, qFin_ret, qFin_normal]; (try ((refine okTr_and ?_ ?_); (· rfl))))
  by_cases hlt : k < l.length
  · have q1 : decide ((k : Int) < (l.length : Int)) = true := by simp; omega
    have ek := i64_succ k (by omega)
    have g := lks_get l k hlt
    have eg : l.getD k lk0 = l[k] := by simp [hlt]
    have hm := lk_mem l k hlt
    have hfx := hf _ hm 0
    rw [eg] at g hfx
    (simp only [go_sem, Nat.reduceAdd, Nat.reduceMul, Int.reduceToNat, Nat.reduceLeDiff, Int.reduceLE, Int.reduceLT, ↓reduceIte, Int.reduceBEq, Int.reduceBNe, Int.reduceAdd, Int.reduceSub, Int.reduceMul, qFin_ret, qFin_normal, q1, g, lks_length, Int.toNat_natCast]; (try ((refine okTr_and ?_ ?_); (· rfl))))
    (repeat ((with_reducible refine And.intro ?_ ?_); (· first | with_reducible assumption | omega | with_reducible rfl | (simp only [List.length_append, List.length_cons, List.length_nil, List.length_singleton]; omega) | (simp [ints_length, okEl_eq, AV.parts]; done) | (simp [ints_length, okEl_eq, AV.parts]; omega) | rfl)))
    refine CallK.r1 (hfx) rfl ?_
    by_cases hs : ok l[k] = true
    · have e : l.findIdx ok = k := by
        rw [List.findIdx_eq hlt]
        exact ⟨hs, fun j hj => hall j (by omega) hj⟩
      (simp only [go_sem, Nat.reduceAdd, Nat.reduceMul, Int.reduceToNat, Nat.reduceLeDiff, Int.reduceLE, Int.reduceLT, ↓reduceIte, Int.reduceBEq, Int.reduceBNe, Int.reduceAdd, Int.reduceSub, Int.reduceMul, qFin_ret, qFin_normal, hs]; (try ((refine okTr_and ?_ ?_); (· rfl))))
      ((refine FinK.fin r117 [0] ?_ ?_ ?_ ?_ ?_ ?_); (· decide); (· rfl); (· simp); (· rfl); (· first | with_reducible rfl | (simp [ints_nil, ren_lit, ren_ref, ren_any, ren_agg, ren_tup, ren_sl, ren_fn, tren_none, tren_full, tren_row, oren_cells, oren_row, oren_dead, ixs_z, ixs_1, ixs_2, ixs_3, ren_ints, List.map_cons, List.map_nil, e, ho]; done) | rfl); (· simp [resAL, resA1, loadA, oneOr, ints_nil, ren_lit, ren_ref, ren_any, ren_agg, ren_tup, ren_sl, ren_fn, tren_none, tren_full, tren_row, oren_cells, oren_row, oren_dead, ixs_z, ixs_1, ixs_2, ixs_3, ren_ints, List.map_cons, List.map_nil, e, ho]))
    · have hs' : ok l[k] = false := by simpa using hs
      (simp only [go_sem, Nat.reduceAdd, Nat.reduceMul, Int.reduceToNat, Nat.reduceLeDiff, Int.reduceLE, Int.reduceLT, ↓reduceIte, Int.reduceBEq, Int.reduceBNe, Int.reduceAdd, Int.reduceSub, Int.reduceMul, qFin_ret, qFin_normal, hs', ek]; (try ((refine okTr_and ?_ ?_); (· rfl))))
      exact ⟨k + 1, ⟨hlt, fun i h hi => by
        rcases Nat.lt_or_ge i k with h1 | h1
        · exact hall i h h1
        · obtain rfl : i = k := by omega
          exact hs'⟩, by omega, Wk.sel [0] (by simp) rfl (by simp) rfl (by simp [ho]) (by simp [selT, ints_nil, ren_lit, ren_ref, ren_any, ren_agg, ren_tup, ren_sl, ren_fn, tren_none, tren_full, tren_row, oren_cells, oren_row, oren_dead, ixs_z, ixs_1, ixs_2, ixs_3, ren_ints, List.map_cons, List.map_nil])⟩
  · have q1 : decide ((k : Int) < (l.length : Int)) = false := by simp; omega
    have e : l.findIdx ok = l.length := fidx_no fun x hx => by
      obtain ⟨i, hi, rfl⟩ := List.getElem_of_mem hx
      exact hall i hi (by omega)
    (simp only [go_sem, Nat.reduceAdd, Nat.reduceMul, Int.reduceToNat, Nat.reduceLeDiff, Int.reduceLE, Int.reduceLT, ↓reduceIte, Int.reduceBEq, Int.reduceBNe, Int.reduceAdd, Int.reduceSub, Int.reduceMul, qFin_ret, qFin_normal, q1, lks_length]; (try ((refine okTr_and ?_ ?_); (· rfl))))
    ((refine FinK.fin r117 [0] ?_ ?_ ?_ ?_ ?_ ?_); (· decide); (· rfl); (· simp); (· rfl); (· first | with_reducible rfl | (simp [ints_nil, ren_lit, ren_ref, ren_any, ren_agg, ren_tup, ren_sl, ren_fn, tren_none, tren_full, tren_row, oren_cells, oren_row, oren_dead, ixs_z, ixs_1, ixs_2, ixs_3, ren_ints, List.map_cons, List.map_nil, e, ho]; done) | rfl); (· simp [resAL, resA1, loadA, oneOr, ints_nil, ren_lit, ren_ref, ren_any, ren_agg, ren_tup, ren_sl, ren_fn, tren_none, tren_full, tren_row, oren_cells, oren_row, oren_dead, ixs_z, ixs_1, ixs_2, ixs_3, ren_ints, List.map_cons, List.map_nil, e, ho]))
theorem link_place (f : FuncId) (o : AObj) (ok : Lk → Bool) (ho : ∀ ρ, o.ren ρ = o) (hd : o ≠ .dead) (l : List Lk) (hf : ∀ x ∈ l, ∀ i, Ct Try.prog f [lkA x, .ref i 0] [(i, o)] (fun _ => bA (ok x)) [] (fun _ => [])) (hn : l.length ≤ 1000000) (i : Nat) :
    Ct Try.prog 117 [slL l, .fn f [] [.ref i 0]] [(i, o)] (fun _ => iA (l.findIdx ok)) [] (fun _ => []) := Ct.r1 (link_place0 f o ok ho hd l hf hn) i (by intros; simp [ints_nil, ren_lit, ren_ref, ren_any, ren_agg, ren_tup, ren_sl, ren_fn, tren_none, tren_full, tren_row, oren_cells, oren_row, oren_dead, ixs_z, ixs_1, ixs_2, ixs_3, ren_ints, List.map_cons, List.map_nil, ixs, List.range'_succ, ren_ints]) ho hd (by intros; simp [ints_nil, ren_lit, ren_ref, ren_any, ren_agg, ren_tup, ren_sl, ren_fn, tren_none, tren_full, tren_row, oren_cells, oren_row, oren_dead, ixs_z, ixs_1, ixs_2, ixs_3, ren_ints, List.map_cons, List.map_nil, flt])
abbrev oneO (x : Int) : AObj := .cells [uA x]
theorem link_Right10 (pos : Int) (x : Lk) (hx : x.ok) (p0 : 0 ≤ pos) (p1 : pos < 18446744073709551616) (hn : x.bk.length ≤ 1000000) : Does Try.prog 115 [lkA x, .ref 0 0] [oneO pos] (bA (!goodL pos x)) [oneO pos] := by
  refine Does.run Try.func115 b115 n115 Try.ntmps115 (by simp only [List.cons_append, List.nil_append, List.length_cons, List.length_nil, Nat.zero_add, Nat.reduceAdd, Nat.reduceSub, List.replicate]; rfl) ?_; simp only [c115, go_sem, Nat.reduceAdd, Nat.reduceMul, Int.reduceToNat, Nat.reduceLeDiff, Int.reduceLE, Int.reduceLT, ↓reduceIte, Int.reduceBEq, Int.reduceBNe, Int.reduceAdd, Int.reduceSub, Int.reduceMul, qFin_ret, qFin_normal, ints_length]; (try ((refine okTr_and ?_ ?_); (· rfl)))
  by_cases h4 : x.bk.length ≤ 4
  · have q1 : decide (4 < (x.bk.length : Int)) = false := by simp; omega
    have e : goodL pos x = falls pos x.bk := by unfold goodL; rw [decide_eq_true h4]; simp
    (simp only [go_sem, Nat.reduceAdd, Nat.reduceMul, Int.reduceToNat, Nat.reduceLeDiff, Int.reduceLE, Int.reduceLT, ↓reduceIte, Int.reduceBEq, Int.reduceBNe, Int.reduceAdd, Int.reduceSub, Int.reduceMul, qFin_ret, qFin_normal, q1]; (try ((refine okTr_and ?_ ?_); (· rfl))))
    refine CallK.p (delta_Falls pos x.bk p0 p1 hx.b (by omega)) ?_; (simp only [go_sem, Nat.reduceAdd, Nat.reduceMul, Int.reduceToNat, Nat.reduceLeDiff, Int.reduceLE, Int.reduceLT, ↓reduceIte, Int.reduceBEq, Int.reduceBNe, Int.reduceAdd, Int.reduceSub, Int.reduceMul, qFin_ret, qFin_normal]; (try ((refine okTr_and ?_ ?_); (· rfl))))
    ((refine FinK.fin r115 [0] ?_ ?_ ?_ ?_ ?_ ?_); (· decide); (· rfl); (· simp); (· rfl); (· first | with_reducible rfl | (simp [ints_nil, ren_lit, ren_ref, ren_any, ren_agg, ren_tup, ren_sl, ren_fn, tren_none, tren_full, tren_row, oren_cells, oren_row, oren_dead, ixs_z, ixs_1, ixs_2, ixs_3, ren_ints, List.map_cons, List.map_nil, e]; done) | rfl); (· simp [resAL, resA1, loadA, oneOr, ints_nil, ren_lit, ren_ref, ren_any, ren_agg, ren_tup, ren_sl, ren_fn, tren_none, tren_full, tren_row, oren_cells, oren_row, oren_dead, ixs_z, ixs_1, ixs_2, ixs_3, ren_ints, List.map_cons, List.map_nil, e]))
  · have q1 : decide (4 < (x.bk.length : Int)) = true := by simp; omega
    have e : goodL pos x = false := by unfold goodL; rw [decide_eq_false h4]; simp
    (simp only [go_sem, Nat.reduceAdd, Nat.reduceMul, Int.reduceToNat, Nat.reduceLeDiff, Int.reduceLE, Int.reduceLT, ↓reduceIte, Int.reduceBEq, Int.reduceBNe, Int.reduceAdd, Int.reduceSub, Int.reduceMul, qFin_ret, qFin_normal, q1]; (try ((refine okTr_and ?_ ?_); (· rfl))))
    ((refine FinK.fin r115 [0] ?_ ?_ ?_ ?_ ?_ ?_); (· decide); (· rfl); (· simp); (· rfl); (· first | with_reducible rfl | (simp [ints_nil, ren_lit, ren_ref, ren_any, ren_agg, ren_tup, ren_sl, ren_fn, tren_none, tren_full, tren_row, oren_cells, oren_row, oren_dead, ixs_z, ixs_1, ixs_2, ixs_3, ren_ints, List.map_cons, List.map_nil, e]; done) | rfl); (· simp [resAL, resA1, loadA, oneOr, ints_nil, ren_lit, ren_ref, ren_any, ren_agg, ren_tup, ren_sl, ren_fn, tren_none, tren_full, tren_row, oren_cells, oren_row, oren_dead, ixs_z, ixs_1, ixs_2, ixs_3, ren_ints, List.map_cons, List.map_nil, e]))
theorem link_Right1 (pos : Int) (x : Lk) (hx : x.ok) (p0 : 0 ≤ pos) (p1 : pos < 18446744073709551616) (hn : x.bk.length ≤ 1000000) (i : Nat) : Ct Try.prog 115 [lkA x, .ref i 0] [(i, oneO pos)] (fun _ => bA (!goodL pos x)) [] (fun _ => []) :=
  Ct.r1 (link_Right10 pos x hx p0 p1 hn) i (by intros; simp [ints_nil, ren_lit, ren_ref, ren_any, ren_agg, ren_tup, ren_sl, ren_fn, tren_none, tren_full, tren_row, oren_cells, oren_row, oren_dead, ixs_z, ixs_1, ixs_2, ixs_3, ren_ints, List.map_cons, List.map_nil, ixs, List.range'_succ, ren_ints]) (fun ρ => by simp [ints_nil, ren_lit, ren_ref, ren_any, ren_agg, ren_tup, ren_sl, ren_fn, tren_none, tren_full, tren_row, oren_cells, oren_row, oren_dead, ixs_z, ixs_1, ixs_2, ixs_3, ren_ints, List.map_cons, List.map_nil]) (by simp) (by intros; simp [ints_nil, ren_lit, ren_ref, ren_any, ren_agg, ren_tup, ren_sl, ren_fn, tren_none, tren_full, tren_row, oren_cells, oren_row, oren_dead, ixs_z, ixs_1, ixs_2, ixs_3, ren_ints, List.map_cons, List.map_nil, flt])
def Smalls (l : List Lk) : Prop := l.length ≤ 1000000 ∧ ∀ x ∈ l, x.bk.length ≤ 1000000
theorem link_Right0 (pos : Int) (l : List Lk) (hl : Lks l) (hm : Smalls l) (p0 : 0 ≤ pos) (p1 : pos < 18446744073709551616) : Does Try.prog 41 [uA pos, slL l] [] (bA (rightL pos l)) [] := by
  obtain ⟨hn, hb⟩ := hm
  refine Does.run Try.func41 b41 n41 Try.ntmps41 (by simp only [List.cons_append, List.nil_append, List.length_cons, List.length_nil, Nat.zero_add, Nat.reduceAdd, Nat.reduceSub, List.replicate]; rfl) ?_; simp only [c41, go_sem, Nat.reduceAdd, Nat.reduceMul, Int.reduceToNat, Nat.reduceLeDiff, Int.reduceLE, Int.reduceLT, ↓reduceIte, Int.reduceBEq, Int.reduceBNe, Int.reduceAdd, Int.reduceSub, Int.reduceMul, qFin_ret, qFin_normal, lks_length]; (try ((refine okTr_and ?_ ?_); (· rfl)))
  by_cases h16 : l.length ≤ 16
  · have q1 : decide (16 < (l.length : Int)) = false := by simp; omega
    (simp only [go_sem, Nat.reduceAdd, Nat.reduceMul, Int.reduceToNat, Nat.reduceLeDiff, Int.reduceLE, Int.reduceLT, ↓reduceIte, Int.reduceBEq, Int.reduceBNe, Int.reduceAdd, Int.reduceSub, Int.reduceMul, qFin_ret, qFin_normal, q1]; (try ((refine okTr_and ?_ ?_); (· rfl))))
    refine CallK.p (link_rises l hn) ?_
    by_cases hr : risesL l = true
    · have he : rightL pos l = ((l.findIdx fun x => !goodL pos x : Nat) == l.length) := by
        rw [Bool.eq_iff_iff, rightL_iff, beq_iff_eq, List.findIdx_eq_length]
        simp [h16, hr]
      have he2 : (((l.findIdx fun x => !goodL pos x : Nat) : Int) == (l.length : Int)) = rightL pos l := by
        rw [he, Bool.eq_iff_iff, beq_iff_eq, beq_iff_eq]; omega
      (simp only [go_sem, Nat.reduceAdd, Nat.reduceMul, Int.reduceToNat, Nat.reduceLeDiff, Int.reduceLE, Int.reduceLT, ↓reduceIte, Int.reduceBEq, Int.reduceBNe, Int.reduceAdd, Int.reduceSub, Int.reduceMul, qFin_ret, qFin_normal, hr]; (try ((refine okTr_and ?_ ?_); (· rfl))))
      refine CallK.r1 (link_place 115 (oneO pos) (fun x => !goodL pos x) (fun ρ => by simp [ints_nil, ren_lit, ren_ref, ren_any, ren_agg, ren_tup, ren_sl, ren_fn, tren_none, tren_full, tren_row, oren_cells, oren_row, oren_dead, ixs_z, ixs_1, ixs_2, ixs_3, ren_ints, List.map_cons, List.map_nil]) (by simp) l (fun x hx i => link_Right1 pos x (hl x hx) p0 p1 (hb x hx) i) hn _) rfl ?_; (simp only [go_sem, Nat.reduceAdd, Nat.reduceMul, Int.reduceToNat, Nat.reduceLeDiff, Int.reduceLE, Int.reduceLT, ↓reduceIte, Int.reduceBEq, Int.reduceBNe, Int.reduceAdd, Int.reduceSub, Int.reduceMul, qFin_ret, qFin_normal, lks_length, he2]; (try ((refine okTr_and ?_ ?_); (· rfl))))
      ((refine FinK.fin r41 [] ?_ ?_ ?_ ?_ ?_ ?_); (· decide); (· rfl); (· simp); (· rfl); (· first | with_reducible rfl | (simp [ints_nil, ren_lit, ren_ref, ren_any, ren_agg, ren_tup, ren_sl, ren_fn, tren_none, tren_full, tren_row, oren_cells, oren_row, oren_dead, ixs_z, ixs_1, ixs_2, ixs_3, ren_ints, List.map_cons, List.map_nil]; done) | rfl); (· simp [resAL, resA1, loadA, oneOr, ints_nil, ren_lit, ren_ref, ren_any, ren_agg, ren_tup, ren_sl, ren_fn, tren_none, tren_full, tren_row, oren_cells, oren_row, oren_dead, ixs_z, ixs_1, ixs_2, ixs_3, ren_ints, List.map_cons, List.map_nil]))
    · have hr' : risesL l = false := by simpa using hr
      have he : rightL pos l = false := by simp [rightL, hr']
      (simp only [go_sem, Nat.reduceAdd, Nat.reduceMul, Int.reduceToNat, Nat.reduceLeDiff, Int.reduceLE, Int.reduceLT, ↓reduceIte, Int.reduceBEq, Int.reduceBNe, Int.reduceAdd, Int.reduceSub, Int.reduceMul, qFin_ret, qFin_normal, hr']; (try ((refine okTr_and ?_ ?_); (· rfl))))
      ((refine FinK.fin r41 [] ?_ ?_ ?_ ?_ ?_ ?_); (· decide); (· rfl); (· simp); (· rfl); (· first | with_reducible rfl | (simp [ints_nil, ren_lit, ren_ref, ren_any, ren_agg, ren_tup, ren_sl, ren_fn, tren_none, tren_full, tren_row, oren_cells, oren_row, oren_dead, ixs_z, ixs_1, ixs_2, ixs_3, ren_ints, List.map_cons, List.map_nil, he]; done) | rfl); (· simp [resAL, resA1, loadA, oneOr, ints_nil, ren_lit, ren_ref, ren_any, ren_agg, ren_tup, ren_sl, ren_fn, tren_none, tren_full, tren_row, oren_cells, oren_row, oren_dead, ixs_z, ixs_1, ixs_2, ixs_3, ren_ints, List.map_cons, List.map_nil, he]))
  · have q1 : decide (16 < (l.length : Int)) = true := by simp; omega
    have he : rightL pos l = false := by simp [rightL, h16]
    (simp only [go_sem, Nat.reduceAdd, Nat.reduceMul, Int.reduceToNat, Nat.reduceLeDiff, Int.reduceLE, Int.reduceLT, ↓reduceIte, Int.reduceBEq, Int.reduceBNe, Int.reduceAdd, Int.reduceSub, Int.reduceMul, qFin_ret, qFin_normal, q1]; (try ((refine okTr_and ?_ ?_); (· rfl))))
    ((refine FinK.fin r41 [] ?_ ?_ ?_ ?_ ?_ ?_); (· decide); (· rfl); (· simp); (· rfl); (· first | with_reducible rfl | (simp [ints_nil, ren_lit, ren_ref, ren_any, ren_agg, ren_tup, ren_sl, ren_fn, tren_none, tren_full, tren_row, oren_cells, oren_row, oren_dead, ixs_z, ixs_1, ixs_2, ixs_3, ren_ints, List.map_cons, List.map_nil, he]; done) | rfl); (· simp [resAL, resA1, loadA, oneOr, ints_nil, ren_lit, ren_ref, ren_any, ren_agg, ren_tup, ren_sl, ren_fn, tren_none, tren_full, tren_row, oren_cells, oren_row, oren_dead, ixs_z, ixs_1, ixs_2, ixs_3, ren_ints, List.map_cons, List.map_nil, he]))
theorem link_Right (pos : Int) (l : List Lk) (hl : Lks l) (hm : Smalls l) (p0 : 0 ≤ pos) (p1 : pos < 18446744073709551616) : Ct Try.prog 41 [uA pos, slL l] [] (fun _ => bA (rightL pos l)) [] (fun _ => []) := (link_Right0 pos l hl hm p0 p1).toCt (by intros; simp [ints_nil, ren_lit, ren_ref, ren_any, ren_agg, ren_tup, ren_sl, ren_fn, tren_none, tren_full, tren_row, oren_cells, oren_row, oren_dead, ixs_z, ixs_1, ixs_2, ixs_3, ren_ints, List.map_cons, List.map_nil, ixs, List.range'_succ, ren_ints]) (by intros; simp [ints_nil, ren_lit, ren_ref, ren_any, ren_agg, ren_tup, ren_sl, ren_fn, tren_none, tren_full, tren_row, oren_cells, oren_row, oren_dead, ixs_z, ixs_1, ixs_2, ixs_3, ren_ints, List.map_cons, List.map_nil, ixs, List.range'_succ, ren_ints])
/-- By how much a stream is above the one ahead. -/
def stpL (l : List Lk) (i : Nat) : Int := (l.getD i lk0).st - lst (l.take i) - 1
def stpsL (l : List Lk) (k : Nat) : List Int := (List.range k).map (stpL l)
theorem stpsL_succ (l : List Lk) (k : Nat) : stpsL l (k + 1) = stpsL l k ++ [stpL l k] := by simp [stpsL, List.range_succ]
theorem stpsL_len (l : List Lk) (k : Nat) : (stpsL l k).length = k := by simp [stpsL]
theorem stpsL_get (l : List Lk) (n k : Nat) (h : k < n) : (stpsL l n).getD k 0 = stpL l k := by simp [stpsL, h]
theorem stpL_range {l : List Lk} (hl : Lks l) (hr : risesL l = true) {i : Nat} (hi : i < l.length) : 0 ≤ stpL l i ∧ stpL l i < 18446744073709551616 := by
  have ho := hl _ (lk_mem l i hi)
  have h0 := ho.s0
  have h1 := ho.s1
  unfold stpL
  rw [lst_take l i (by omega)]
  split
  · omega
  · rename_i hz
    have := risesL_iff.1 hr i hi (by omega)
    have hp := (hl _ (lk_mem l (i - 1) (by omega))).s0
    omega
set_option maxRecDepth 100000 in
theorem link_steps0 (l : List Lk) (hl : Lks l) (hr : risesL l = true) (hn : l.length ≤ 1000000) : Does Try.prog 128 [slL l] [] (slU (stpsL l l.length)) [] := by
  refine Does.run Try.func128 b128 n128 Try.ntmps128 (by simp only [List.cons_append, List.nil_append, List.length_cons, List.length_nil, Nat.zero_add, Nat.reduceAdd, Nat.reduceSub, List.replicate]; rfl) ?_; simp only [c128, go_sem, Nat.reduceAdd, Nat.reduceMul, Int.reduceToNat, Nat.reduceLeDiff, Int.reduceLE, Int.reduceLT, ↓reduceIte, Int.reduceBEq, Int.reduceBNe, Int.reduceAdd, Int.reduceSub, Int.reduceMul, qFin_ret, qFin_normal, lks_length]; (try ((refine okTr_and ?_ ?_); (· rfl)))
  refine loop_of (α := Nat) (fun k => [slL l, .any, .any, .sl (.row 0) 1 (ints .u64 (stpsL l k)), .any, .any, .any, slL l, iA l.length, iA k, .any, .any, .any, .any, .any, .any, .any, .any, .any, .any, .any, .any, .any, .any, .any, .any, .any, .any, .any, .any, .any, .any, .any]) (fun k => [.row 1 k]) (fun k => k ≤ l.length) (fun k => l.length - k) 0 (by simp) ((Wk.row 3 1 rfl (.inl rfl) (by decide)).trans (Wk.to (by simp) (by simp [leT, ints, stpsL]))) ?_
  intro k hk
  have hkl := stpsL_len l k
  (simp only [go_sem, Nat.reduceAdd, Nat.reduceMul, Int.reduceToNat, Nat.reduceLeDiff, Int.reduceLE, Int.reduceLT, ↓reduceIte, Int.reduceBEq, Int.reduceBNe, Int.reduceAdd, Int.reduceSub, Int.reduceMul, qFin_ret, qFin_normal]; (try ((refine okTr_and ?_ ?_); (· rfl))))
  by_cases hlt : k < l.length
  · have q1 : decide ((k : Int) < (l.length : Int)) = true := by simp; omega
    have ek := i64_succ k (by omega)
    have g := lks_get l k hlt
    have ho := hl _ (lk_mem l k hlt)
    have hs := stpL_range hl hr hlt
    have hss := stpsL_succ l k
    have est : stpL l k = if k = 0 then (l.getD k lk0).st else (l.getD k lk0).st - (l.getD (k - 1) lk0).st - 1 := by
      unfold stpL
      rw [lst_take l k (by omega)]
      split
      · omega
      · rfl
    by_cases h0 : 0 < k
    · have q2 : decide ((0 : Int) < (k : Int)) = true := by simp; omega
      rw [if_neg (by omega)] at est
      have ep := i64_pred k h0 (by omega)
      have g2 := lks_get l (k - 1) (by omega)
      have hp := hl _ (lk_mem l (k - 1) (by omega))
      have hp0 := hp.s0
      have ho1 := ho.s1
      have w1 : IntKind.u64.wrap ((l.getD (k - 1) lk0).st + 1) = (l.getD (k - 1) lk0).st + 1 := IntWalk.u64_in _ (by omega)
      have w2 : IntKind.u64.wrap ((l.getD k lk0).st - ((l.getD (k - 1) lk0).st + 1)) = stpL l k := by rw [IntWalk.u64_in _ (by omega)]; omega
      (simp only [go_sem, Nat.reduceAdd, Nat.reduceMul, Int.reduceToNat, Nat.reduceLeDiff, Int.reduceLE, Int.reduceLT, ↓reduceIte, Int.reduceBEq, Int.reduceBNe, Int.reduceAdd, Int.reduceSub, Int.reduceMul, qFin_ret, qFin_normal, q1, q2, g, g2, ep, w1, w2, lks_length, Int.toNat_natCast]; (try ((refine okTr_and ?_ ?_); (· rfl))))
      (repeat ((with_reducible refine And.intro ?_ ?_); (· first | with_reducible assumption | omega | with_reducible rfl | (simp only [List.length_append, List.length_cons, List.length_nil, List.length_singleton]; omega) | (simp [ints_length, okEl_eq, AV.parts]; done) | (simp [ints_length, okEl_eq, AV.parts]; omega) | rfl)))
      (simp only [go_sem, Nat.reduceAdd, Nat.reduceMul, Int.reduceToNat, Nat.reduceLeDiff, Int.reduceLE, Int.reduceLT, ↓reduceIte, Int.reduceBEq, Int.reduceBNe, Int.reduceAdd, Int.reduceSub, Int.reduceMul, qFin_ret, qFin_normal, ints_snoc, ← hss, ints_length, hkl, ek]; (try ((refine okTr_and ?_ ?_); (· rfl))))
      (repeat ((with_reducible refine And.intro ?_ ?_); (· first | with_reducible assumption | omega | with_reducible rfl | (simp only [List.length_append, List.length_cons, List.length_nil, List.length_singleton]; omega) | (simp [ints_length, okEl_eq, AV.parts]; done) | (simp [ints_length, okEl_eq, AV.parts]; omega) | rfl)))
      exact ⟨k + 1, by omega, by omega, Wk.sel [0] (by simp) rfl (by simp) rfl (by simp [ints_nil, ren_lit, ren_ref, ren_any, ren_agg, ren_tup, ren_sl, ren_fn, tren_none, tren_full, tren_row, oren_cells, oren_row, oren_dead, ixs_z, ixs_1, ixs_2, ixs_3, ren_ints, List.map_cons, List.map_nil]) (by simp [selT, ints_nil, ren_lit, ren_ref, ren_any, ren_agg, ren_tup, ren_sl, ren_fn, tren_none, tren_full, tren_row, oren_cells, oren_row, oren_dead, ixs_z, ixs_1, ixs_2, ixs_3, ren_ints, List.map_cons, List.map_nil])⟩
    · have q2 : decide ((0 : Int) < (k : Int)) = false := by simp; omega
      rw [if_pos (by omega)] at est
      (simp only [go_sem, Nat.reduceAdd, Nat.reduceMul, Int.reduceToNat, Nat.reduceLeDiff, Int.reduceLE, Int.reduceLT, ↓reduceIte, Int.reduceBEq, Int.reduceBNe, Int.reduceAdd, Int.reduceSub, Int.reduceMul, qFin_ret, qFin_normal, q1, q2, g, ← est, ints_snoc, ← hss, ints_length, hkl, ek, lks_length, Int.toNat_natCast]; (try ((refine okTr_and ?_ ?_); (· rfl))))
      (repeat ((with_reducible refine And.intro ?_ ?_); (· first | with_reducible assumption | omega | with_reducible rfl | (simp only [List.length_append, List.length_cons, List.length_nil, List.length_singleton]; omega) | (simp [ints_length, okEl_eq, AV.parts]; done) | (simp [ints_length, okEl_eq, AV.parts]; omega) | rfl)))
      exact ⟨k + 1, by omega, by omega, Wk.sel [0] (by simp) rfl (by simp) rfl (by simp [ints_nil, ren_lit, ren_ref, ren_any, ren_agg, ren_tup, ren_sl, ren_fn, tren_none, tren_full, tren_row, oren_cells, oren_row, oren_dead, ixs_z, ixs_1, ixs_2, ixs_3, ren_ints, List.map_cons, List.map_nil]) (by simp [selT, ints_nil, ren_lit, ren_ref, ren_any, ren_agg, ren_tup, ren_sl, ren_fn, tren_none, tren_full, tren_row, oren_cells, oren_row, oren_dead, ixs_z, ixs_1, ixs_2, ixs_3, ren_ints, List.map_cons, List.map_nil])⟩
  · have q1 : decide ((k : Int) < (l.length : Int)) = false := by simp; omega
    have ek : k = l.length := by omega
    (simp only [go_sem, Nat.reduceAdd, Nat.reduceMul, Int.reduceToNat, Nat.reduceLeDiff, Int.reduceLE, Int.reduceLT, ↓reduceIte, Int.reduceBEq, Int.reduceBNe, Int.reduceAdd, Int.reduceSub, Int.reduceMul, qFin_ret, qFin_normal, q1]; (try ((refine okTr_and ?_ ?_); (· rfl))))
    (refine FinK.untag 2 rfl ?_; simp only [untag1_sl, List.set_cons_zero, List.set_cons_succ])
    ((refine FinK.fin r128 [] ?_ ?_ ?_ ?_ ?_ ?_); (· decide); (· rfl); (· simp); (· rfl); (· first | with_reducible rfl | (simp [ints_nil, ren_lit, ren_ref, ren_any, ren_agg, ren_tup, ren_sl, ren_fn, tren_none, tren_full, tren_row, oren_cells, oren_row, oren_dead, ixs_z, ixs_1, ixs_2, ixs_3, ren_ints, List.map_cons, List.map_nil, ek]; done) | rfl); (· simp [resAL, resA1, loadA, oneOr, ints_nil, ren_lit, ren_ref, ren_any, ren_agg, ren_tup, ren_sl, ren_fn, tren_none, tren_full, tren_row, oren_cells, oren_row, oren_dead, ixs_z, ixs_1, ixs_2, ixs_3, ren_ints, List.map_cons, List.map_nil, ek]))
theorem link_steps (l : List Lk) (hl : Lks l) (hr : risesL l = true) (hn : l.length ≤ 1000000) : Ct Try.prog 128 [slL l] [] (fun _ => slU (stpsL l l.length)) [] (fun _ => []) := (link_steps0 l hl hr hn).toCt (by intros; simp [ints_nil, ren_lit, ren_ref, ren_any, ren_agg, ren_tup, ren_sl, ren_fn, tren_none, tren_full, tren_row, oren_cells, oren_row, oren_dead, ixs_z, ixs_1, ixs_2, ixs_3, ren_ints, List.map_cons, List.map_nil, ixs, List.range'_succ, ren_ints]) (by intros; simp [ints_nil, ren_lit, ren_ref, ren_any, ren_agg, ren_tup, ren_sl, ren_fn, tren_none, tren_full, tren_row, oren_cells, oren_row, oren_dead, ixs_z, ixs_1, ixs_2, ixs_3, ren_ints, List.map_cons, List.map_nil, ixs, List.range'_succ, ren_ints])
/-- A writer behind the first k links. -/
def WS.lkN (s : WS) (pos : Int) (l : List Lk) : Nat → WS
  | 0 => s.put (vb l.length)
  | k + 1 => ((s.lkN pos l k).put (vb (stpL l k))).fall pos (l.getD k lk0).bk
def WS.links (s : WS) (pos : Int) (l : List Lk) : WS := if rightL pos l = true then s.lkN pos l l.length else s.fail 3
theorem WS.fine.fall {s : WS} (h : s.fine) (b : Int) (l : List Int) : (s.fall b l).fine := by
  unfold WS.fall
  split
  · exact (h.put _).puts _
  · exact h.fail 3
theorem WS.fine.lkN {s : WS} (h : s.fine) (pos : Int) (l : List Lk) : ∀ k, (s.lkN pos l k).fine := by
  intro k
  induction k with
  | zero => exact h.put _
  | succ k ih => exact (ih.put _).fall _ _
theorem WS.fine.links {s : WS} (h : s.fine) (pos : Int) (l : List Lk) : (s.links pos l).fine := by
  unfold WS.links; split
  · exact h.lkN pos l _
  · exact h.fail 3
theorem put_fit {s : WS} {m : List Int} (h : s.code = 0) (hm : (s.l.length : Int) + m.length ≤ s.most) : s.put m = ⟨s.most, s.l ++ m, 0⟩ := by
  rw [WS.put_ok h hm]; cases s; simp at h; simp [h]
theorem fall_fit {s : WS} {b : Int} {l : List Int} (h : s.code = 0) (hf : falls b l = true) (hm : (s.l.length : Int) + (fallB b l).length ≤ s.most) : s.fall b l = ⟨s.most, s.l ++ fallB b l, 0⟩ := by
  unfold fallB at hm
  rw [List.length_append] at hm
  unfold WS.fall
  rw [if_pos hf, put_fit h (by omega), puts_fit rfl _ (by simp only [List.length_append]; omega)]
  simp [fallB]
theorem encs_take {pos : Int} {l : List Lk} {k : Nat} (h : k < l.length) : encs (linkF pos).enc [] (l.take (k + 1)) = encs (linkF pos).enc [] (l.take k) ++ (vb (stpL l k) ++ fallB pos (l.getD k lk0).bk) := by
  rw [lk_take l k h, encs_snoc]
  rfl
theorem encs_le {pos : Int} {l : List Lk} : ∀ k, k ≤ l.length → (encs (linkF pos).enc [] (l.take k)).length ≤ (encs (linkF pos).enc [] l).length := by
  intro k hk
  have gen : ∀ n, k + n = l.length → (encs (linkF pos).enc [] (l.take k)).length ≤ (encs (linkF pos).enc [] l).length := by
    intro n
    induction n generalizing k with
    | zero => intro h; rw [List.take_of_length_le (by omega)]; exact Nat.le_refl _
    | succ n ih =>
      intro h
      have h1 := ih (k + 1) (by omega) (by omega)
      rw [encs_take (by omega), List.length_append] at h1
      omega
  exact gen (l.length - k) (by omega)
/-- Well-formed links, room enough. -/
theorem lkN_fit {s : WS} {pos : Int} {l : List Lk} (hr : rightL pos l = true) (h : s.code = 0) (hm : (s.l.length : Int) + (linksB pos l).length ≤ s.most) : ∀ k, k ≤ l.length → s.lkN pos l k = ⟨s.most, s.l ++ (vb l.length ++ encs (linkF pos).enc [] (l.take k)), 0⟩ := by
  obtain ⟨r1, r2, r3⟩ := rightL_iff.1 hr
  unfold linksB at hm
  rw [List.length_append] at hm
  intro k
  induction k with
  | zero => intro _; unfold WS.lkN; rw [put_fit h (by omega)]; simp [encs]
  | succ k ih =>
    intro hk
    have hle := encs_le (pos := pos) (l := l) (k + 1) hk
    have he := encs_take (pos := pos) (l := l) (k := k) (by omega)
    have hel := congrArg List.length he
    simp only [List.length_append] at hel
    unfold WS.lkN
    rw [ih (by omega), put_fit rfl (by simp only [List.length_append]; omega), fall_fit rfl (goodL_iff.1 (r3 _ (lk_mem l k (by omega)))).2 (by simp only [List.length_append]; omega), he]
    simp only [List.append_assoc]
theorem links_fit {s : WS} {pos : Int} {l : List Lk} (hr : rightL pos l = true) (h : s.code = 0) (hm : (s.l.length : Int) + (linksB pos l).length ≤ s.most) : s.links pos l = ⟨s.most, s.l ++ linksB pos l, 0⟩ := by
  unfold WS.links
  rw [if_pos hr, lkN_fit hr h hm _ (Nat.le_refl _), List.take_length]; rfl
theorem fallB_len {b : Int} {l : List Int} (h : l.length ≤ 4) : (fallB b l).length ≤ 50 := by
  unfold fallB
  rw [List.length_append]
  have h1 := (vb_len (l.length : Int)).2
  have h2 := vbs_len (dsts b l l.length)
  rw [dsts_len] at h2
  omega
theorem linksB_len {pos : Int} {l : List Lk} (hr : rightL pos l = true) : (linksB pos l).length ≤ 970 := by
  obtain ⟨r1, r2, r3⟩ := rightL_iff.1 hr
  have hv := (vb_len (l.length : Int)).2
  have key : ∀ k, k ≤ l.length → (encs (linkF pos).enc [] (l.take k)).length ≤ 60 * k := by
    intro k
    induction k with
    | zero => intro _; simp [encs]
    | succ k ih =>
      intro hk
      have h1 := ih (by omega)
      rw [encs_take (by omega), List.length_append, List.length_append]
      have h2 := (vb_len (stpL l k)).2
      have h3 := fallB_len (b := pos) (goodL_iff.1 (r3 _ (lk_mem l k (by omega)))).1
      omega
  have := key l.length (Nat.le_refl _)
  rw [List.take_length] at this
  unfold linksB
  rw [List.length_append]; omega
set_option maxRecDepth 100000 in
theorem link_Put0 (s : WS) (pos : Int) (l : List Lk) (hs : s.fine) (hl : Lks l) (hm : Smalls l) (p0 : 0 ≤ pos) (p1 : pos < 18446744073709551616) : Does Try.prog 54 [.ref 0 0, uA pos, slL l] [wob 1 s, wrow s] (.tup []) [wob 1 (s.links pos l), wrow (s.links pos l)] := by
  have hn := hm.1
  have e := len_u64 l (by omega)
  refine Does.run Try.func54 b54 n54 Try.ntmps54 (by simp only [List.cons_append, List.nil_append, List.length_cons, List.length_nil, Nat.zero_add, Nat.reduceAdd, Nat.reduceSub, List.replicate]; rfl) ?_; simp only [c54, go_sem, Nat.reduceAdd, Nat.reduceMul, Int.reduceToNat, Nat.reduceLeDiff, Int.reduceLE, Int.reduceLT, ↓reduceIte, Int.reduceBEq, Int.reduceBNe, Int.reduceAdd, Int.reduceSub, Int.reduceMul, qFin_ret, qFin_normal]; (try ((refine okTr_and ?_ ?_); (· rfl)))
  refine CallK.p (link_Right pos l hl hm p0 p1) ?_
  by_cases hr : rightL pos l = true
  · obtain ⟨r1, r2, r3⟩ := rightL_iff.1 hr
    (simp only [go_sem, Nat.reduceAdd, Nat.reduceMul, Int.reduceToNat, Nat.reduceLeDiff, Int.reduceLE, Int.reduceLT, ↓reduceIte, Int.reduceBEq, Int.reduceBNe, Int.reduceAdd, Int.reduceSub, Int.reduceMul, qFin_ret, qFin_normal, hr, lks_length, e]; (try ((refine okTr_and ?_ ?_); (· rfl))))
    refine CallK.u2 (varint_Put s l.length 0 1 (by decide) (by omega) (by omega) hs.ok (hs.room _)) rfl rfl ?_; (simp only [go_sem, Nat.reduceAdd, Nat.reduceMul, Int.reduceToNat, Nat.reduceLeDiff, Int.reduceLE, Int.reduceLT, ↓reduceIte, Int.reduceBEq, Int.reduceBNe, Int.reduceAdd, Int.reduceSub, Int.reduceMul, qFin_ret, qFin_normal]; (try ((refine okTr_and ?_ ?_); (· rfl))))
    refine CallK.p (link_steps l hl r2 hn) ?_; (simp only [go_sem, Nat.reduceAdd, Nat.reduceMul, Int.reduceToNat, Nat.reduceLeDiff, Int.reduceLE, Int.reduceLT, ↓reduceIte, Int.reduceBEq, Int.reduceBNe, Int.reduceAdd, Int.reduceSub, Int.reduceMul, qFin_ret, qFin_normal, ints_length, stpsL_len]; (try ((refine okTr_and ?_ ?_); (· rfl))))
    refine loop_of (α := Nat) (fun k => [.ref 0 0, uA pos, slL l, .any, .any, .any, .any, .any, .any, .any, .any, .any, .any, .any, .any, .any, .any, .any, .any, .any, slU (stpsL l l.length), iA l.length, iA k, .any, .any, .any, .any, .any, .any, .any, .any, .any, .any, .any, .any, .any, .any, .any, .any]) (fun k => [wob 1 (s.lkN pos l k), wrow (s.lkN pos l k)]) (fun k => k ≤ l.length) (fun k => l.length - k) 0 (by simp) (Wk.to (by rfl) (by simp [leT])) ?_
    intro k hk
    have hf := hs.lkN pos l k
    (simp only [go_sem, Nat.reduceAdd, Nat.reduceMul, Int.reduceToNat, Nat.reduceLeDiff, Int.reduceLE, Int.reduceLT, ↓reduceIte, Int.reduceBEq, Int.reduceBNe, Int.reduceAdd, Int.reduceSub, Int.reduceMul, qFin_ret, qFin_normal]; (try ((refine okTr_and ?_ ?_); (· rfl))))
    by_cases hlt : k < l.length
    · have q1 : decide ((k : Int) < (l.length : Int)) = true := by simp; omega
      have ek := i64_succ k (by omega)
      have g := lks_get l k hlt
      have g2 := u64_get (stpsL l l.length) k (by rw [stpsL_len]; exact hlt)
      rw [stpsL_get l _ k hlt, Int.toNat_natCast] at g2
      have hx := stpL_range hl r2 hlt
      have ho := hl _ (lk_mem l k hlt)
      have hsm := hm.2 _ (lk_mem l k hlt)
      (simp only [go_sem, Nat.reduceAdd, Nat.reduceMul, Int.reduceToNat, Nat.reduceLeDiff, Int.reduceLE, Int.reduceLT, ↓reduceIte, Int.reduceBEq, Int.reduceBNe, Int.reduceAdd, Int.reduceSub, Int.reduceMul, qFin_ret, qFin_normal, q1, g2, ints_length, stpsL_len, Int.toNat_natCast]; (try ((refine okTr_and ?_ ?_); (· rfl))))
      (repeat ((with_reducible refine And.intro ?_ ?_); (· first | with_reducible assumption | omega | with_reducible rfl | (simp only [List.length_append, List.length_cons, List.length_nil, List.length_singleton]; omega) | (simp [ints_length, okEl_eq, AV.parts]; done) | (simp [ints_length, okEl_eq, AV.parts]; omega) | rfl)))
      refine CallK.u2 (varint_Put (s.lkN pos l k) (stpL l k) 0 1 (by decide) hx.1 hx.2 hf.ok (hf.room _)) rfl rfl ?_; (simp only [go_sem, Nat.reduceAdd, Nat.reduceMul, Int.reduceToNat, Nat.reduceLeDiff, Int.reduceLE, Int.reduceLT, ↓reduceIte, Int.reduceBEq, Int.reduceBNe, Int.reduceAdd, Int.reduceSub, Int.reduceMul, qFin_ret, qFin_normal, g, lks_length, Int.toNat_natCast]; (try ((refine okTr_and ?_ ?_); (· rfl))))
      (repeat ((with_reducible refine And.intro ?_ ?_); (· first | with_reducible assumption | omega | with_reducible rfl | (simp only [List.length_append, List.length_cons, List.length_nil, List.length_singleton]; omega) | (simp [ints_length, okEl_eq, AV.parts]; done) | (simp [ints_length, okEl_eq, AV.parts]; omega) | rfl)))
      refine CallK.u2 (delta_Put ((s.lkN pos l k).put (vb (stpL l k))) pos (l.getD k lk0).bk 0 1 (by decide) (hf.put _) p0 p1 ho.b (by omega)) rfl rfl ?_; (simp only [go_sem, Nat.reduceAdd, Nat.reduceMul, Int.reduceToNat, Nat.reduceLeDiff, Int.reduceLE, Int.reduceLT, ↓reduceIte, Int.reduceBEq, Int.reduceBNe, Int.reduceAdd, Int.reduceSub, Int.reduceMul, qFin_ret, qFin_normal, ek]; (try ((refine okTr_and ?_ ?_); (· rfl))))
      exact ⟨k + 1, by omega, by omega, Wk.to (by rfl) (by simp [leT])⟩
    · have q1 : decide ((k : Int) < (l.length : Int)) = false := by simp; omega
      have ek : k = l.length := by omega
      subst ek
      (simp only [go_sem, Nat.reduceAdd, Nat.reduceMul, Int.reduceToNat, Nat.reduceLeDiff, Int.reduceLE, Int.reduceLT, ↓reduceIte, Int.reduceBEq, Int.reduceBNe, Int.reduceAdd, Int.reduceSub, Int.reduceMul, qFin_ret, qFin_normal, q1]; (try ((refine okTr_and ?_ ?_); (· rfl))))
      ((refine FinK.fin r54 [0, 1] ?_ ?_ ?_ ?_ ?_ ?_); (· decide); (· rfl); (· simp); (· rfl); (· first | with_reducible rfl | (simp [ints_nil, ren_lit, ren_ref, ren_any, ren_agg, ren_tup, ren_sl, ren_fn, tren_none, tren_full, tren_row, oren_cells, oren_row, oren_dead, ixs_z, ixs_1, ixs_2, ixs_3, ren_ints, List.map_cons, List.map_nil, WS.links, hr, wob_ren, wrow_ren]; done) | rfl); (· simp [resAL, resA1, loadA, oneOr, ints_nil, ren_lit, ren_ref, ren_any, ren_agg, ren_tup, ren_sl, ren_fn, tren_none, tren_full, tren_row, oren_cells, oren_row, oren_dead, ixs_z, ixs_1, ixs_2, ixs_3, ren_ints, List.map_cons, List.map_nil, WS.links, hr, wob_ren, wrow_ren]))
  · have hr' : rightL pos l = false := by simpa using hr
    (simp only [go_sem, Nat.reduceAdd, Nat.reduceMul, Int.reduceToNat, Nat.reduceLeDiff, Int.reduceLE, Int.reduceLT, ↓reduceIte, Int.reduceBEq, Int.reduceBNe, Int.reduceAdd, Int.reduceSub, Int.reduceMul, qFin_ret, qFin_normal, hr']; (try ((refine okTr_and ?_ ?_); (· rfl))))
    refine CallK.u2 (Writer_Fail s 3 0 1 (by decide)) rfl rfl ?_; (simp only [go_sem, Nat.reduceAdd, Nat.reduceMul, Int.reduceToNat, Nat.reduceLeDiff, Int.reduceLE, Int.reduceLT, ↓reduceIte, Int.reduceBEq, Int.reduceBNe, Int.reduceAdd, Int.reduceSub, Int.reduceMul, qFin_ret, qFin_normal]; (try ((refine okTr_and ?_ ?_); (· rfl))))
    ((refine FinK.fin r54 [0, 1] ?_ ?_ ?_ ?_ ?_ ?_); (· decide); (· rfl); (· simp); (· rfl); (· first | with_reducible rfl | (simp [ints_nil, ren_lit, ren_ref, ren_any, ren_agg, ren_tup, ren_sl, ren_fn, tren_none, tren_full, tren_row, oren_cells, oren_row, oren_dead, ixs_z, ixs_1, ixs_2, ixs_3, ren_ints, List.map_cons, List.map_nil, WS.links, hr', wob_ren, wrow_ren]; done) | rfl); (· simp [resAL, resA1, loadA, oneOr, ints_nil, ren_lit, ren_ref, ren_any, ren_agg, ren_tup, ren_sl, ren_fn, tren_none, tren_full, tren_row, oren_cells, oren_row, oren_dead, ixs_z, ixs_1, ixs_2, ixs_3, ren_ints, List.map_cons, List.map_nil, WS.links, hr', wob_ren, wrow_ren]))
theorem link_Put (s : WS) (pos : Int) (l : List Lk) (i j : Nat) (h : i ≠ j) (hs : s.fine) (hl : Lks l) (hm : Smalls l) (p0 : 0 ≤ pos) (p1 : pos < 18446744073709551616) : Ct Try.prog 54 [.ref i 0, uA pos, slL l] [(i, wob j s), (j, wrow s)] (fun _ => .tup []) [(i, wob j (s.links pos l)), (j, wrow (s.links pos l))] (fun _ => []) := Ct.u2 (link_Put0 s pos l hs hl hm p0 p1) i j h (by intros; simp [ints_nil, ren_lit, ren_ref, ren_any, ren_agg, ren_tup, ren_sl, ren_fn, tren_none, tren_full, tren_row, oren_cells, oren_row, oren_dead, ixs_z, ixs_1, ixs_2, ixs_3, ren_ints, List.map_cons, List.map_nil, ixs, List.range'_succ, ren_ints]) (by intros; simp [ints_nil, ren_lit, ren_ref, ren_any, ren_agg, ren_tup, ren_sl, ren_fn, tren_none, tren_full, tren_row, oren_cells, oren_row, oren_dead, ixs_z, ixs_1, ixs_2, ixs_3, ren_ints, List.map_cons, List.map_nil, ixs, List.range'_succ, wob_ren]) (by intros; simp [ints_nil, ren_lit, ren_ref, ren_any, ren_agg, ren_tup, ren_sl, ren_fn, tren_none, tren_full, tren_row, oren_cells, oren_row, oren_dead, ixs_z, ixs_1, ixs_2, ixs_3, ren_ints, List.map_cons, List.map_nil, ixs, List.range'_succ, wrow_ren]) (by intros; simp [ints_nil, ren_lit, ren_ref, ren_any, ren_agg, ren_tup, ren_sl, ren_fn, tren_none, tren_full, tren_row, oren_cells, oren_row, oren_dead, ixs_z, ixs_1, ixs_2, ixs_3, ren_ints, List.map_cons, List.map_nil, ixs, List.range'_succ, wob_ren]) (by intros; simp [ints_nil, ren_lit, ren_ref, ren_any, ren_agg, ren_tup, ren_sl, ren_fn, tren_none, tren_full, tren_row, oren_cells, oren_row, oren_dead, ixs_z, ixs_1, ixs_2, ixs_3, ren_ints, List.map_cons, List.map_nil, ixs, List.range'_succ, wrow_ren]) (wob_dead _ _) (wrow_dead _) (by intros; simp [ints_nil, ren_lit, ren_ref, ren_any, ren_agg, ren_tup, ren_sl, ren_fn, tren_none, tren_full, tren_row, oren_cells, oren_row, oren_dead, ixs_z, ixs_1, ixs_2, ixs_3, ren_ints, List.map_cons, List.map_nil, flt])
def sizeL (pos : Int) (l : List Lk) : Int := if rightL pos l = true then (linksB pos l).length else 0
end Go.Proofs.Ytkhnfleejgfhgaa
