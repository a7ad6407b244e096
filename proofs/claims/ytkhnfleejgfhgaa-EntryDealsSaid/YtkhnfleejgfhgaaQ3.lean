/-
  Contracts of zigzag's numbers and lists, and of its reference's.
  Contracts of the functions on rising lists: zigzag.Rises, steps, RisingSize, PutRising, and the reference's Rises.
  Contracts of zigzag.ReadRising and of its reference.
  Contracts of the reference's lists: Same, Bytes; zigzag.Put and Read; live of chapter 5.
-/
import Derived.Test.YtkhnfleejgfhgaaQ1
import Derived.Test.YtkhnfleejgfhgaaP1
set_option linter.all false
set_option linter.unusedSimpArgs false
set_option linter.unusedVariables false
set_option linter.unnecessarySimpa false
section
namespace Go.Proofs.Ytkhnfleejgfhgaa
open Go.RowKit

abbrev lA (n : Int) : AV := .lit (.int .i64 n)
end Go.Proofs.Ytkhnfleejgfhgaa
end
section
namespace Go.Proofs.Ytkhnfleejgfhgaa
open Go.RowKit

abbrev slU (l : List Int) : AV := .sl .none 1 (ints .u64 l)
theorem u64_get (l : List Int) (i : Nat) (h : i < l.length) : (ints .u64 l).getD (i : Int).toNat .any = uA (l.getD i 0) := by
  rw [Int.toNat_natCast]; exact ints_getD .u64 l i h
theorem ints_snoc (k : IntKind) (l : List Int) (z : Int) : ints k l ++ [.lit (.int k z)] = ints k (l ++ [z]) := by simp [ints]
def WS.rising (s : WS) (l : List Int) : WS := if rises l = true then s.puts (stps l l.length) else s.fail 3
end Go.Proofs.Ytkhnfleejgfhgaa
end
section
namespace Go.Proofs.Ytkhnfleejgfhgaa
open Go.RowKit

theorem good_false {s : RS} (h : ¬ s.code = 0) : s.good = false := by simp [RS.good, h]
theorem good_true {s : RS} (h : s.code = 0) : s.good = true := by simp [RS.good, h]
end Go.Proofs.Ytkhnfleejgfhgaa
end
section
namespace Go.Proofs.Ytkhnfleejgfhgaa
open Go.RowKit

theorem ref05_Same0 (l m : List Int) (hn : l.length ≤ 140737488355328) : Does Try.prog 112 [slU l, slU m] [] (bA (sameB l m)) [] := by
  refine Does.run Try.func112 b112 n112 Try.ntmps112 (by simp only [List.cons_append, List.nil_append, List.length_cons, List.length_nil, Nat.zero_add, Nat.reduceAdd, Nat.reduceSub, List.replicate]; rfl) ?_; simp only [c112, go_sem, Nat.reduceAdd, Nat.reduceMul, Int.reduceToNat, Nat.reduceLeDiff, Int.reduceLE, Int.reduceLT, ↓reduceIte, Int.reduceBEq, Int.reduceBNe, Int.reduceAdd, Int.reduceSub, Int.reduceMul, qFin_ret, qFin_normal, ints_length]; (try ((refine okTr_and ?_ ?_); (· rfl)))
  refine cdK_split (fun h => ?_) (fun h => ?_)
  · have hne : sameB l m = false := by
      unfold sameB; simp at h ⊢; intro e; subst e; exact h rfl
    (simp only [go_sem, Nat.reduceAdd, Nat.reduceMul, Int.reduceToNat, Nat.reduceLeDiff, Int.reduceLE, Int.reduceLT, ↓reduceIte, Int.reduceBEq, Int.reduceBNe, Int.reduceAdd, Int.reduceSub, Int.reduceMul, qFin_ret, qFin_normal]; (try ((refine okTr_and ?_ ?_); (· rfl))))
    ((refine FinK.fin r112 [] ?_ ?_ ?_ ?_ ?_ ?_); (· decide); (· rfl); (· simp); (· rfl); (· first | with_reducible rfl | (simp [ints_nil, ren_lit, ren_ref, ren_any, ren_agg, ren_tup, ren_sl, ren_fn, tren_none, tren_full, tren_row, oren_cells, oren_row, oren_dead, ixs_z, ixs_1, ixs_2, ixs_3, ren_ints, List.map_cons, List.map_nil, hne]; done) | rfl); (· simp [resAL, resA1, loadA, oneOr, ints_nil, ren_lit, ren_ref, ren_any, ren_agg, ren_tup, ren_sl, ren_fn, tren_none, tren_full, tren_row, oren_cells, oren_row, oren_dead, ixs_z, ixs_1, ixs_2, ixs_3, ren_ints, List.map_cons, List.map_nil, hne]))
  · have hlen : l.length = m.length := by
      have h' : (l.length : Int) = m.length := by simpa using h
      omega
    (simp only [go_sem, Nat.reduceAdd, Nat.reduceMul, Int.reduceToNat, Nat.reduceLeDiff, Int.reduceLE, Int.reduceLT, ↓reduceIte, Int.reduceBEq, Int.reduceBNe, Int.reduceAdd, Int.reduceSub, Int.reduceMul, qFin_ret, qFin_normal]; (try ((refine okTr_and ?_ ?_); (· rfl))))
    refine loop_of (α := Nat) (fun k => [slU l, slU m, .any, .any, .any, iA k, .any, .any, .any, .any, .any, .any, .any, .any, .any, .any, .any, .any, .any, .any, .any, .any, .any, .any, .any, .any]) (fun _ => []) (fun k => k ≤ l.length ∧ l.take k = m.take k) (fun k => l.length - k) 0 ⟨by simp, by simp⟩ (Wk.to (by simp) (by simp [leT])) ?_
    rintro k ⟨hk, ht⟩
    (simp only [go_sem, Nat.reduceAdd, Nat.reduceMul, Int.reduceToNat, Nat.reduceLeDiff, Int.reduceLE, Int.reduceLT, ↓reduceIte, Int.reduceBEq, Int.reduceBNe, Int.reduceAdd, Int.reduceSub, Int.reduceMul, qFin_ret, qFin_normal, ints_length]; (try ((refine okTr_and ?_ ?_); (· rfl))))
    refine cdK_split (fun h => ?_) (fun h => ?_)
    · have hlt : k < l.length := by simpa using h
      have g1 := u64_get l k hlt
      have g2 := u64_get m k (by omega)
      have ei : IntKind.i64.wrap ((k : Int) + 1) = ((k + 1 : Nat) : Int) := by rw [IntWalk.i64_in _ (by omega)]; omega
      (simp only [go_sem, Nat.reduceAdd, Nat.reduceMul, Int.reduceToNat, Nat.reduceLeDiff, Int.reduceLE, Int.reduceLT, ↓reduceIte, Int.reduceBEq, Int.reduceBNe, Int.reduceAdd, Int.reduceSub, Int.reduceMul, qFin_ret, qFin_normal, g1, g2, ints_length]; (try ((refine okTr_and ?_ ?_); (· rfl))))
      (repeat ((with_reducible refine And.intro ?_ ?_); (· first | with_reducible assumption | omega | with_reducible rfl | (simp only [List.length_append, List.length_cons, List.length_nil, List.length_singleton]; omega) | (simp [ints_length, okEl_eq, AV.parts]; done) | (simp [ints_length, okEl_eq, AV.parts]; omega) | rfl)))
      refine cdK_split (fun h => ?_) (fun h => ?_)
      · have hx : l.getD k 0 ≠ m.getD k 0 := by simpa using h
        have hne : sameB l m = false := by unfold sameB; simp only [decide_eq_false_iff_not]; rintro rfl; exact hx rfl
        (simp only [go_sem, Nat.reduceAdd, Nat.reduceMul, Int.reduceToNat, Nat.reduceLeDiff, Int.reduceLE, Int.reduceLT, ↓reduceIte, Int.reduceBEq, Int.reduceBNe, Int.reduceAdd, Int.reduceSub, Int.reduceMul, qFin_ret, qFin_normal]; (try ((refine okTr_and ?_ ?_); (· rfl))))
        ((refine FinK.fin r112 [] ?_ ?_ ?_ ?_ ?_ ?_); (· decide); (· rfl); (· simp); (· rfl); (· first | with_reducible rfl | (simp [ints_nil, ren_lit, ren_ref, ren_any, ren_agg, ren_tup, ren_sl, ren_fn, tren_none, tren_full, tren_row, oren_cells, oren_row, oren_dead, ixs_z, ixs_1, ixs_2, ixs_3, ren_ints, List.map_cons, List.map_nil, hne]; done) | rfl); (· simp [resAL, resA1, loadA, oneOr, ints_nil, ren_lit, ren_ref, ren_any, ren_agg, ren_tup, ren_sl, ren_fn, tren_none, tren_full, tren_row, oren_cells, oren_row, oren_dead, ixs_z, ixs_1, ixs_2, ixs_3, ren_ints, List.map_cons, List.map_nil, hne]))
      · have hx : l.getD k 0 = m.getD k 0 := by simpa using h
        (simp only [go_sem, Nat.reduceAdd, Nat.reduceMul, Int.reduceToNat, Nat.reduceLeDiff, Int.reduceLE, Int.reduceLT, ↓reduceIte, Int.reduceBEq, Int.reduceBNe, Int.reduceAdd, Int.reduceSub, Int.reduceMul, qFin_ret, qFin_normal, ei]; (try ((refine okTr_and ?_ ?_); (· rfl))))
        refine ⟨k + 1, ⟨hlt, ?_⟩, by omega, Wk.to (by simp) (by simp [leT])⟩
        rw [take_snoc l k hlt, take_snoc m k (by omega), ht, hx]
    · have hk' : k = l.length := by simp at h; omega
      have he : sameB l m = true := by
        unfold sameB
        rw [hk', List.take_length, List.take_of_length_le (by omega)] at ht
        simpa using ht
      (simp only [go_sem, Nat.reduceAdd, Nat.reduceMul, Int.reduceToNat, Nat.reduceLeDiff, Int.reduceLE, Int.reduceLT, ↓reduceIte, Int.reduceBEq, Int.reduceBNe, Int.reduceAdd, Int.reduceSub, Int.reduceMul, qFin_ret, qFin_normal]; (try ((refine okTr_and ?_ ?_); (· rfl))))
      ((refine FinK.fin r112 [] ?_ ?_ ?_ ?_ ?_ ?_); (· decide); (· rfl); (· simp); (· rfl); (· first | with_reducible rfl | (simp [ints_nil, ren_lit, ren_ref, ren_any, ren_agg, ren_tup, ren_sl, ren_fn, tren_none, tren_full, tren_row, oren_cells, oren_row, oren_dead, ixs_z, ixs_1, ixs_2, ixs_3, ren_ints, List.map_cons, List.map_nil, he]; done) | rfl); (· simp [resAL, resA1, loadA, oneOr, ints_nil, ren_lit, ren_ref, ren_any, ren_agg, ren_tup, ren_sl, ren_fn, tren_none, tren_full, tren_row, oren_cells, oren_row, oren_dead, ixs_z, ixs_1, ixs_2, ixs_3, ren_ints, List.map_cons, List.map_nil, he]))
theorem ref05_Same (l m : List Int) (hn : l.length ≤ 140737488355328) : Ct Try.prog 112 [slU l, slU m] [] (fun _ => bA (sameB l m)) [] (fun _ => []) := (ref05_Same0 l m hn).toCt (by intros; simp [ints_nil, ren_lit, ren_ref, ren_any, ren_agg, ren_tup, ren_sl, ren_fn, tren_none, tren_full, tren_row, oren_cells, oren_row, oren_dead, ixs_z, ixs_1, ixs_2, ixs_3, ren_ints, List.map_cons, List.map_nil, ixs, List.range'_succ, ren_ints]) (by intros; simp [ints_nil, ren_lit, ren_ref, ren_any, ren_agg, ren_tup, ren_sl, ren_fn, tren_none, tren_full, tren_row, oren_cells, oren_row, oren_dead, ixs_z, ixs_1, ixs_2, ixs_3, ren_ints, List.map_cons, List.map_nil, flt])

abbrev ownA (i : Nat) (l : List Int) : AV := .sl (.row i) 1 (ints .u8 l)
theorem live05_w : (WS.new 9).rising [5, 6, 300] = ⟨9, [5, 0, 165, 2], 0⟩ := by kernel_rfl
end Go.Proofs.Ytkhnfleejgfhgaa
end
