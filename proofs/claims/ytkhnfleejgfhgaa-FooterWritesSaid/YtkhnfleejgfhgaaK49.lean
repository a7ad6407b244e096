/-
  Contracts of footer's trailer and of the reference's payload; live.
-/
import Derived.Test.YtkhnfleejgfhgaaK48
set_option linter.all false
set_option linter.unusedSimpArgs false
set_option linter.unusedVariables false
set_option linter.unnecessarySimpa false
namespace Go.Proofs.Ytkhnfleejgfhgaa
open Go.RowKit

abbrev lohtS : ByteArray := ⟨#[76, 79, 72, 84]⟩
theorem loht_bys : Bys loht := by unfold Bys loht; decide
theorem loht_is {l : List Int} (hl : Bys l) : ((bytesOf (ints .u8 l)).toList == lohtS.toList) = sameB l loht := bytes_same hl loht_bys
theorem loht_text : (lohtS.data.toList.map fun b => AV.lit (.int .u8 b.toNat)) = ints .u8 loht := rfl
theorem Writer_Loht0 (s : WS) (hs : s.fine) : Does Try.prog 163 [.ref 0 0, .lit (.string lohtS)] [wob 1 s, wrow s] (.tup []) [wob 1 (s.put loht), wrow (s.put loht)] := by
  refine Does.run Try.func163 b163 n163 Try.ntmps163 (by simp only [List.cons_append, List.nil_append, List.length_cons, List.length_nil, Nat.zero_add, Nat.reduceAdd, Nat.reduceSub, List.replicate]; rfl) ?_; simp only [c163, go_sem, Nat.reduceAdd, Nat.reduceMul, Int.reduceToNat, Nat.reduceLeDiff, Int.reduceLE, Int.reduceLT, ↓reduceIte, Int.reduceBEq, Int.reduceBNe, Int.reduceAdd, Int.reduceSub, Int.reduceMul, qFin_ret, qFin_normal, loht_text]; (try ((refine okTr_and ?_ ?_); (· rfl)))
  (repeat ((with_reducible refine And.intro ?_ ?_); (· first | with_reducible assumption | omega | with_reducible rfl | (simp only [List.length_append, List.length_cons, List.length_nil, List.length_singleton]; omega) | (simp [ints_length, okEl_eq, AV.parts]; done) | (simp [ints_length, okEl_eq, AV.parts]; omega) | rfl)))
  refine CallK.u2 (Writer_Put s loht 0 1 (by decide) hs.ok (hs.room _)) rfl rfl ?_; (simp only [go_sem, Nat.reduceAdd, Nat.reduceMul, Int.reduceToNat, Nat.reduceLeDiff, Int.reduceLE, Int.reduceLT, ↓reduceIte, Int.reduceBEq, Int.reduceBNe, Int.reduceAdd, Int.reduceSub, Int.reduceMul, qFin_ret, qFin_normal]; (try ((refine okTr_and ?_ ?_); (· rfl))))
  ((refine FinK.fin r163 [0, 1] ?_ ?_ ?_ ?_ ?_ ?_); (· decide); (· rfl); (· simp); (· rfl); (· first | with_reducible rfl | (simp [ints_nil, ren_lit, ren_ref, ren_any, ren_agg, ren_tup, ren_sl, ren_fn, tren_none, tren_full, tren_row, oren_cells, oren_row, oren_dead, ixs_z, ixs_1, ixs_2, ixs_3, ren_ints, List.map_cons, List.map_nil, wob_ren, wrow_ren]; done) | rfl); (· simp [resAL, resA1, loadA, oneOr, ints_nil, ren_lit, ren_ref, ren_any, ren_agg, ren_tup, ren_sl, ren_fn, tren_none, tren_full, tren_row, oren_cells, oren_row, oren_dead, ixs_z, ixs_1, ixs_2, ixs_3, ren_ints, List.map_cons, List.map_nil, wob_ren, wrow_ren]))
theorem Writer_Loht (s : WS) (i j : Nat) (h : i ≠ j) (hs : s.fine) : Ct Try.prog 163 [.ref i 0, .lit (.string lohtS)] [(i, wob j s), (j, wrow s)] (fun _ => .tup []) [(i, wob j (s.put loht)), (j, wrow (s.put loht))] (fun _ => []) := Ct.u2 (Writer_Loht0 s hs) i j h (by intros; simp [ints_nil, ren_lit, ren_ref, ren_any, ren_agg, ren_tup, ren_sl, ren_fn, tren_none, tren_full, tren_row, oren_cells, oren_row, oren_dead, ixs_z, ixs_1, ixs_2, ixs_3, ren_ints, List.map_cons, List.map_nil, ixs, List.range'_succ, ren_ints]) (by intros; simp [ints_nil, ren_lit, ren_ref, ren_any, ren_agg, ren_tup, ren_sl, ren_fn, tren_none, tren_full, tren_row, oren_cells, oren_row, oren_dead, ixs_z, ixs_1, ixs_2, ixs_3, ren_ints, List.map_cons, List.map_nil, ixs, List.range'_succ, wob_ren]) (by intros; simp [ints_nil, ren_lit, ren_ref, ren_any, ren_agg, ren_tup, ren_sl, ren_fn, tren_none, tren_full, tren_row, oren_cells, oren_row, oren_dead, ixs_z, ixs_1, ixs_2, ixs_3, ren_ints, List.map_cons, List.map_nil, ixs, List.range'_succ, wrow_ren]) (by intros; simp [ints_nil, ren_lit, ren_ref, ren_any, ren_agg, ren_tup, ren_sl, ren_fn, tren_none, tren_full, tren_row, oren_cells, oren_row, oren_dead, ixs_z, ixs_1, ixs_2, ixs_3, ren_ints, List.map_cons, List.map_nil, ixs, List.range'_succ, wob_ren]) (by intros; simp [ints_nil, ren_lit, ren_ref, ren_any, ren_agg, ren_tup, ren_sl, ren_fn, tren_none, tren_full, tren_row, oren_cells, oren_row, oren_dead, ixs_z, ixs_1, ixs_2, ixs_3, ren_ints, List.map_cons, List.map_nil, ixs, List.range'_succ, wrow_ren]) (wob_dead _ _) (wrow_dead _) (by intros; simp [ints_nil, ren_lit, ren_ref, ren_any, ren_agg, ren_tup, ren_sl, ren_fn, tren_none, tren_full, tren_row, oren_cells, oren_row, oren_dead, ixs_z, ixs_1, ixs_2, ixs_3, ren_ints, List.map_cons, List.map_nil, flt])
theorem TrailerSize0 : Does Try.prog 95 [] [] (iA 12) [] := by
  refine Does.run Try.func95 b95 n95 Try.ntmps95 (by simp only [List.cons_append, List.nil_append, List.length_cons, List.length_nil, Nat.zero_add, Nat.reduceAdd, Nat.reduceSub, List.replicate]; rfl) ?_; simp only [c95, go_sem, Nat.reduceAdd, Nat.reduceMul, Int.reduceToNat, Nat.reduceLeDiff, Int.reduceLE, Int.reduceLT, ↓reduceIte, Int.reduceBEq, Int.reduceBNe, Int.reduceAdd, Int.reduceSub, Int.reduceMul, qFin_ret, qFin_normal]; (try ((refine okTr_and ?_ ?_); (· rfl)))
  ((refine FinK.fin r95 [] ?_ ?_ ?_ ?_ ?_ ?_); (· decide); (· rfl); (· simp); (· rfl); (· first | with_reducible rfl | (simp [ints_nil, ren_lit, ren_ref, ren_any, ren_agg, ren_tup, ren_sl, ren_fn, tren_none, tren_full, tren_row, oren_cells, oren_row, oren_dead, ixs_z, ixs_1, ixs_2, ixs_3, ren_ints, List.map_cons, List.map_nil]; done) | rfl); (· simp [resAL, resA1, loadA, oneOr, ints_nil, ren_lit, ren_ref, ren_any, ren_agg, ren_tup, ren_sl, ren_fn, tren_none, tren_full, tren_row, oren_cells, oren_row, oren_dead, ixs_z, ixs_1, ixs_2, ixs_3, ren_ints, List.map_cons, List.map_nil]))
theorem TrailerSize : Ct Try.prog 95 [] [] (fun _ => iA 12) [] (fun _ => []) := (TrailerSize0).toCt (by intros; simp [ints_nil, ren_lit, ren_ref, ren_any, ren_agg, ren_tup, ren_sl, ren_fn, tren_none, tren_full, tren_row, oren_cells, oren_row, oren_dead, ixs_z, ixs_1, ixs_2, ixs_3, ren_ints, List.map_cons, List.map_nil, ixs, List.range'_succ, ren_ints]) (by intros; simp [ints_nil, ren_lit, ren_ref, ren_any, ren_agg, ren_tup, ren_sl, ren_fn, tren_none, tren_full, tren_row, oren_cells, oren_row, oren_dead, ixs_z, ixs_1, ixs_2, ixs_3, ren_ints, List.map_cons, List.map_nil, ixs, List.range'_succ, ren_ints])
theorem trail_parts (x : Int) : (trailB x).take 4 = lowBytes 4 x ∧ (trailB x).drop 8 = loht := by
  have l4 := lowBytes_len 4 x
  have l5 := lowBytes_len 4 (crcI (lowBytes 4 x))
  refine ⟨by unfold trailB; rw [List.append_assoc, List.take_append_of_le_length (by omega), List.take_of_length_le (by omega)], ?_⟩
  have t2 : (trailB x).drop 4 = lowBytes 4 (crcI (lowBytes 4 x)) ++ [76, 79, 72, 84] := by unfold trailB; rw [List.append_assoc]; exact List.drop_left' l4
  have : (trailB x).drop 8 = ((trailB x).drop 4).drop 4 := by rw [List.drop_drop]
  rw [this, t2]; exact List.drop_left' l5
theorem footer_Trailer0 (n x : Int) (hx : IntKind.u64.wrap n = x) (x0 : 0 ≤ x) (x1 : x < 18446744073709551616) : Does Try.prog 91 [iA n] [] (slA .u8 (trailB x)) [] := by
  have m4 : (min (max (4 : Int) 0) 8).toNat = 4 := rfl
  have hb := lowBytes_bys 4 x
  have hl := lowBytes_len 4 x
  have hcr := crcI_range hb
  have eb := sum_u64 hb
  have hl2 := lowBytes_len 4 (crcI (lowBytes 4 x))
  have f0 : (WS.new 12).fine := WS.fine.new (by omega)
  have w1 : (WS.new 12).put (lowBytes 4 x) = ⟨12, lowBytes 4 x, 0⟩ := by rw [WS.new_is (by decide), put_fit rfl (by simp; omega)]; rfl
  have f1 := f0.put (lowBytes 4 x)
  rw [w1] at f1
  have w2 : (WS.mk 12 (lowBytes 4 x) 0).put (lowBytes 4 (crcI (lowBytes 4 x))) = ⟨12, lowBytes 4 x ++ lowBytes 4 (crcI (lowBytes 4 x)), 0⟩ := put_fit rfl (by simp; omega)
  have f2 := f1.put (lowBytes 4 (crcI (lowBytes 4 x)))
  rw [w2] at f2
  have w3 : (WS.mk 12 (lowBytes 4 x ++ lowBytes 4 (crcI (lowBytes 4 x))) 0).put loht = ⟨12, trailB x, 0⟩ := put_fit rfl (by rw [List.length_append]; simp [loht]; omega)
  have hbs : (WS.mk 12 (trailB x) 0).bytes = trailB x := rfl
  have htl := trailB_len x
  refine Does.run Try.func91 b91 n91 Try.ntmps91 (by simp only [List.cons_append, List.nil_append, List.length_cons, List.length_nil, Nat.zero_add, Nat.reduceAdd, Nat.reduceSub, List.replicate]; rfl) ?_; simp only [c91, go_sem, Nat.reduceAdd, Nat.reduceMul, Int.reduceToNat, Nat.reduceLeDiff, Int.reduceLE, Int.reduceLT, ↓reduceIte, Int.reduceBEq, Int.reduceBNe, Int.reduceAdd, Int.reduceSub, Int.reduceMul, qFin_ret, qFin_normal]; (try ((refine okTr_and ?_ ?_); (· rfl)))
  refine CallK.p (TrailerSize) ?_; (simp only [go_sem, Nat.reduceAdd, Nat.reduceMul, Int.reduceToNat, Nat.reduceLeDiff, Int.reduceLE, Int.reduceLT, ↓reduceIte, Int.reduceBEq, Int.reduceBNe, Int.reduceAdd, Int.reduceSub, Int.reduceMul, qFin_ret, qFin_normal]; (try ((refine okTr_and ?_ ?_); (· rfl))))
  refine CallK.n (pen_New 12) ?_; (simp only [go_sem, Nat.reduceAdd, Nat.reduceMul, Int.reduceToNat, Nat.reduceLeDiff, Int.reduceLE, Int.reduceLT, ↓reduceIte, Int.reduceBEq, Int.reduceBNe, Int.reduceAdd, Int.reduceSub, Int.reduceMul, qFin_ret, qFin_normal, hx]; (try ((refine okTr_and ?_ ?_); (· rfl))))
  refine CallK.p (pen_Fixed x 4 x0 x1) ?_; (simp only [go_sem, Nat.reduceAdd, Nat.reduceMul, Int.reduceToNat, Nat.reduceLeDiff, Int.reduceLE, Int.reduceLT, ↓reduceIte, Int.reduceBEq, Int.reduceBNe, Int.reduceAdd, Int.reduceSub, Int.reduceMul, qFin_ret, qFin_normal, m4]; (try ((refine okTr_and ?_ ?_); (· rfl))))
  refine CallK.u2 (Writer_Put (WS.new 12) (lowBytes 4 x) _ _ (by decide) f0.ok (f0.room _)) rfl rfl ?_; (simp only [go_sem, Nat.reduceAdd, Nat.reduceMul, Int.reduceToNat, Nat.reduceLeDiff, Int.reduceLE, Int.reduceLT, ↓reduceIte, Int.reduceBEq, Int.reduceBNe, Int.reduceAdd, Int.reduceSub, Int.reduceMul, qFin_ret, qFin_normal, w1]; (try ((refine okTr_and ?_ ?_); (· rfl))))
  refine CallK.p (crc_Sum (lowBytes 4 x) hb (by omega)) ?_; (simp only [go_sem, Nat.reduceAdd, Nat.reduceMul, Int.reduceToNat, Nat.reduceLeDiff, Int.reduceLE, Int.reduceLT, ↓reduceIte, Int.reduceBEq, Int.reduceBNe, Int.reduceAdd, Int.reduceSub, Int.reduceMul, qFin_ret, qFin_normal, eb]; (try ((refine okTr_and ?_ ?_); (· rfl))))
  refine CallK.u2 (Writer_Fixed (WS.mk 12 (lowBytes 4 x) 0) (crcI (lowBytes 4 x)) 4 _ _ (by decide) hcr.1 (by omega) f1) rfl rfl ?_; (simp only [go_sem, Nat.reduceAdd, Nat.reduceMul, Int.reduceToNat, Nat.reduceLeDiff, Int.reduceLE, Int.reduceLT, ↓reduceIte, Int.reduceBEq, Int.reduceBNe, Int.reduceAdd, Int.reduceSub, Int.reduceMul, qFin_ret, qFin_normal, m4, w2]; (try ((refine okTr_and ?_ ?_); (· rfl))))
  refine CallK.u2 (Writer_Loht (WS.mk 12 (lowBytes 4 x ++ lowBytes 4 (crcI (lowBytes 4 x))) 0) _ _ (by decide) f2) rfl rfl ?_; (simp only [go_sem, Nat.reduceAdd, Nat.reduceMul, Int.reduceToNat, Nat.reduceLeDiff, Int.reduceLE, Int.reduceLT, ↓reduceIte, Int.reduceBEq, Int.reduceBNe, Int.reduceAdd, Int.reduceSub, Int.reduceMul, qFin_ret, qFin_normal, w3]; (try ((refine okTr_and ?_ ?_); (· rfl))))
  refine CallK.r2 (Writer_Bytes (WS.mk 12 (trailB x) 0) _ _ (by decide) (by show (trailB x).length ≤ _; omega)) rfl rfl ?_; (simp only [go_sem, Nat.reduceAdd, Nat.reduceMul, Int.reduceToNat, Nat.reduceLeDiff, Int.reduceLE, Int.reduceLT, ↓reduceIte, Int.reduceBEq, Int.reduceBNe, Int.reduceAdd, Int.reduceSub, Int.reduceMul, qFin_ret, qFin_normal, hbs]; (try ((refine okTr_and ?_ ?_); (· rfl))))
  ((refine FinK.fin r91 [] ?_ ?_ ?_ ?_ ?_ ?_); (· decide); (· rfl); (· simp); (· rfl); (· first | with_reducible rfl | (simp [ints_nil, ren_lit, ren_ref, ren_any, ren_agg, ren_tup, ren_sl, ren_fn, tren_none, tren_full, tren_row, oren_cells, oren_row, oren_dead, ixs_z, ixs_1, ixs_2, ixs_3, ren_ints, List.map_cons, List.map_nil]; done) | rfl); (· simp [resAL, resA1, loadA, oneOr, ints_nil, ren_lit, ren_ref, ren_any, ren_agg, ren_tup, ren_sl, ren_fn, tren_none, tren_full, tren_row, oren_cells, oren_row, oren_dead, ixs_z, ixs_1, ixs_2, ixs_3, ren_ints, List.map_cons, List.map_nil]))
theorem footer_Trailer (n x : Int) (hx : IntKind.u64.wrap n = x) (x0 : 0 ≤ x) (x1 : x < 18446744073709551616) : Ct Try.prog 91 [iA n] [] (fun _ => slA .u8 (trailB x)) [] (fun _ => []) := (footer_Trailer0 n x hx x0 x1).toCt (by intros; simp [ints_nil, ren_lit, ren_ref, ren_any, ren_agg, ren_tup, ren_sl, ren_fn, tren_none, tren_full, tren_row, oren_cells, oren_row, oren_dead, ixs_z, ixs_1, ixs_2, ixs_3, ren_ints, List.map_cons, List.map_nil, ixs, List.range'_succ, ren_ints]) (by intros; simp [ints_nil, ren_lit, ren_ref, ren_any, ren_agg, ren_tup, ren_sl, ren_fn, tren_none, tren_full, tren_row, oren_cells, oren_row, oren_dead, ixs_z, ixs_1, ixs_2, ixs_3, ren_ints, List.map_cons, List.map_nil, ixs, List.range'_succ, ren_ints])
theorem live33_0 : Does Try.prog 32 [] [] (bA true) [] := by
  have hB : Bys [9, 0, 0, 0] := by unfold Bys; decide
  have e4 : lowBytes 4 9 = [9, 0, 0, 0] := by kernel_rfl
  have p := trail_parts 9
  rw [e4] at p
  have hl := trailB_len 9
  have q := loht_is loht_bys
  rw [same_self] at q
  have e5 : ints .u8 [9, 0, 0, 0] = [u8A 9, u8A 0, u8A 0, u8A 0] := rfl
  refine Does.run Try.func32 b32 n32 Try.ntmps32 (by simp only [List.cons_append, List.nil_append, List.length_cons, List.length_nil, Nat.zero_add, Nat.reduceAdd, Nat.reduceSub, List.replicate]; rfl) ?_; simp only [c32, go_sem, Nat.reduceAdd, Nat.reduceMul, Int.reduceToNat, Nat.reduceLeDiff, Int.reduceLE, Int.reduceLT, ↓reduceIte, Int.reduceBEq, Int.reduceBNe, Int.reduceAdd, Int.reduceSub, Int.reduceMul, qFin_ret, qFin_normal]; (try ((refine okTr_and ?_ ?_); (· rfl)))
  refine CallK.p (footer_Trailer 9 9 (by decide) (by decide) (by decide)) ?_; (simp only [go_sem, Nat.reduceAdd, Nat.reduceMul, Int.reduceToNat, Nat.reduceLeDiff, Int.reduceLE, Int.reduceLT, ↓reduceIte, Int.reduceBEq, Int.reduceBNe, Int.reduceAdd, Int.reduceSub, Int.reduceMul, qFin_ret, qFin_normal, ints_length, hl]; (try ((refine okTr_and ?_ ?_); (· rfl))))
  refine CallK.p (TrailerSize) ?_; (simp only [go_sem, Nat.reduceAdd, Nat.reduceMul, Int.reduceToNat, Nat.reduceLeDiff, Int.reduceLE, Int.reduceLT, ↓reduceIte, Int.reduceBEq, Int.reduceBNe, Int.reduceAdd, Int.reduceSub, Int.reduceMul, qFin_ret, qFin_normal, ints_length, hl, ints_take, p.1]; (try ((refine okTr_and ?_ ?_); (· rfl))))
  (repeat ((with_reducible refine And.intro ?_ ?_); (· first | with_reducible assumption | omega | with_reducible rfl | (simp only [List.length_append, List.length_cons, List.length_nil, List.length_singleton]; omega) | (simp [ints_length, okEl_eq, AV.parts]; done) | (simp [ints_length, okEl_eq, AV.parts]; omega) | rfl)))
  refine CallK.p (ref02_Same [9, 0, 0, 0] [9, 0, 0, 0] hB hB) ?_; (simp only [go_sem, Nat.reduceAdd, Nat.reduceMul, Int.reduceToNat, Nat.reduceLeDiff, Int.reduceLE, Int.reduceLT, ↓reduceIte, Int.reduceBEq, Int.reduceBNe, Int.reduceAdd, Int.reduceSub, Int.reduceMul, qFin_ret, qFin_normal, same_self, ints_length, hl, ints_drop, p.2, ints_u8, q]; (try ((refine okTr_and ?_ ?_); (· rfl))))
  (repeat ((with_reducible refine And.intro ?_ ?_); (· first | with_reducible assumption | omega | with_reducible rfl | (simp only [List.length_append, List.length_cons, List.length_nil, List.length_singleton]; omega) | (simp [ints_length, okEl_eq, AV.parts]; done) | (simp [ints_length, okEl_eq, AV.parts]; omega) | rfl)))
  ((refine FinK.fin r32 [] ?_ ?_ ?_ ?_ ?_ ?_); (· decide); (· rfl); (· simp); (· rfl); (· first | with_reducible rfl | (simp [ints_nil, ren_lit, ren_ref, ren_any, ren_agg, ren_tup, ren_sl, ren_fn, tren_none, tren_full, tren_row, oren_cells, oren_row, oren_dead, ixs_z, ixs_1, ixs_2, ixs_3, ren_ints, List.map_cons, List.map_nil]; done) | rfl); (· simp [resAL, resA1, loadA, oneOr, ints_nil, ren_lit, ren_ref, ren_any, ren_agg, ren_tup, ren_sl, ren_fn, tren_none, tren_full, tren_row, oren_cells, oren_row, oren_dead, ixs_z, ixs_1, ixs_2, ixs_3, ren_ints, List.map_cons, List.map_nil]))
theorem live33 : Ct Try.prog 32 [] [] (fun _ => bA true) [] (fun _ => []) := (live33_0).toCt (by intros; simp [ints_nil, ren_lit, ren_ref, ren_any, ren_agg, ren_tup, ren_sl, ren_fn, tren_none, tren_full, tren_row, oren_cells, oren_row, oren_dead, ixs_z, ixs_1, ixs_2, ixs_3, ren_ints, List.map_cons, List.map_nil, ixs, List.range'_succ, ren_ints]) (by intros; simp [ints_nil, ren_lit, ren_ref, ren_any, ren_agg, ren_tup, ren_sl, ren_fn, tren_none, tren_full, tren_row, oren_cells, oren_row, oren_dead, ixs_z, ixs_1, ixs_2, ixs_3, ren_ints, List.map_cons, List.map_nil, ixs, List.range'_succ, ren_ints])
def valsF (f : Ft) : List Int := [f.bat, f.ent, f.fst, f.fin, f.at_, f.size]
theorem payB_vals (f : Ft) : payB f = ([3] ++ vb f.ep) ++ vbs (valsF f) := by
  unfold payB valsF; simp [vbs]
theorem valsF_u64 {f : Ft} (hf : f.ok) (hr : rightF f = true) : U64s (valsF f) := by
  obtain ⟨n1, n2, n3, n4, n5⟩ := rightF_nums hf hr
  have := hf.fst
  have := hf.fin
  intro x hx
  simp only [valsF, List.mem_cons, List.not_mem_nil, or_false] at hx
  rcases hx with rfl | rfl | rfl | rfl | rfl | rfl <;> omega
/-- A payload's beginning. -/
def fpk (f : Ft) (k : Nat) : List Int := ([3] ++ vb f.ep) ++ vbs ((valsF f).take k)
theorem fpk_succ (f : Ft) (k : Nat) (h : k < 6) : fpk f k ++ vb ((valsF f).getD k 0) = fpk f (k + 1) := by
  unfold fpk; rw [List.append_assoc, take_vbs _ _ (by exact h)]
theorem fpk_6 (f : Ft) : fpk f 6 = payB f := by rw [payB_vals]; rfl
theorem fpk_len (f : Ft) (k : Nat) (h : k ≤ 6) : (fpk f k).length ≤ 80 := by
  have a := vbs_len ((valsF f).take k)
  have b := (vb_len f.ep).2
  have lv : (valsF f).length = 6 := rfl
  have c : ((valsF f).take k).length ≤ 6 := by rw [List.length_take]; omega
  unfold fpk
  simp only [List.length_append, List.length_cons, List.length_nil]; omega
set_option maxHeartbeats 1000000 in
set_option maxRecDepth 100000 in
theorem ref33_Payload0 (f : Ft) (hf : f.ok) (hr : rightF f = true) : Does Try.prog 37 [ftA f] [] (ownA 0 (payB f)) [.row 1 (payB f).length] := by
  obtain ⟨n1, n2, n3, n4, n5⟩ := rightF_nums hf hr
  have hu := valsF_u64 hf hr
  have hep := hf.ep
  have w1 : IntKind.u64.wrap f.bat = f.bat := IntWalk.u64_in _ (by omega)
  have w2 : IntKind.u64.wrap f.ent = f.ent := IntWalk.u64_in _ (by omega)
  have w3 : IntKind.u64.wrap f.at_ = f.at_ := IntWalk.u64_in _ (by omega)
  have w4 : IntKind.u64.wrap f.size = f.size := IntWalk.u64_in _ (by omega)
  have ev : [uA f.bat, uA f.ent, uA f.fst, uA f.fin, uA f.at_, uA f.size] = ints .u64 (valsF f) := rfl
  have hvl := (vb_len f.ep).2
  have lv : (valsF f).length = 6 := rfl
  have l0 : (fpk f 0).length ≤ 80 := fpk_len f 0 (by omega)
  have eA : u8A 3 :: ints .u8 (vb f.ep) = ints .u8 (fpk f 0) := by unfold fpk; simp [ints, vbs]
  have eL : 1 + (vb f.ep).length = (fpk f 0).length := by unfold fpk; simp [vbs]; omega
  refine Does.run Try.func37 b37 n37 Try.ntmps37 (by simp only [List.cons_append, List.nil_append, List.length_cons, List.length_nil, Nat.zero_add, Nat.reduceAdd, Nat.reduceSub, List.replicate]; rfl) ?_; simp only [c37, go_sem, Nat.reduceAdd, Nat.reduceMul, Int.reduceToNat, Nat.reduceLeDiff, Int.reduceLE, Int.reduceLT, ↓reduceIte, Int.reduceBEq, Int.reduceBNe, Int.reduceAdd, Int.reduceSub, Int.reduceMul, qFin_ret, qFin_normal]; (try ((refine okTr_and ?_ ?_); (· rfl)))
  (repeat ((with_reducible refine And.intro ?_ ?_); (· first | with_reducible assumption | omega | with_reducible rfl | (simp only [List.length_append, List.length_cons, List.length_nil, List.length_singleton]; omega) | (simp [ints_length, okEl_eq, AV.parts]; done) | (simp [ints_length, okEl_eq, AV.parts]; omega) | rfl)))
  refine CallK.p (ref04_Bytes f.ep hep.1 hep.2) ?_; (simp only [go_sem, Nat.reduceAdd, Nat.reduceMul, Int.reduceToNat, Nat.reduceLeDiff, Int.reduceLE, Int.reduceLT, ↓reduceIte, Int.reduceBEq, Int.reduceBNe, Int.reduceAdd, Int.reduceSub, Int.reduceMul, qFin_ret, qFin_normal, List.cons_append, List.nil_append, eA, ints_length, List.length_singleton, eL, w1, w2, w3, w4, ev]; (try ((refine okTr_and ?_ ?_); (· rfl))))
  (repeat ((with_reducible refine And.intro ?_ ?_); (· first | with_reducible assumption | omega | with_reducible rfl | (simp only [List.length_append, List.length_cons, List.length_nil, List.length_singleton]; omega) | (simp [ints_length, okEl_eq, AV.parts]; done) | (simp [ints_length, okEl_eq, AV.parts]; omega) | rfl)))
  refine loop_of (α := Nat) (fun k => [.any, .any, .any, ownA 0 (fpk f k), slA .u64 (valsF f), iA k, .any, .any, .any, .any, .any, .any, .any, .any, .any, .any, .any, .any, .any, .any, .any, .any, .any, .any, .any, .any, .any, .any, .any, .any, .any, .any, .any, .any, .any, .any, .any, .any, .any, .any, .any, .any]) (fun k => [.row 1 (fpk f k).length]) (fun k => k ≤ 6) (fun k => 6 - k) 0 (by simp) ?_ ?_
  · exact (Wk.untag 4 rfl).trans (Wk.sel [1] (by simp) rfl (by simp) rfl (by simp [ints_nil, ren_lit, ren_ref, ren_any, ren_agg, ren_tup, ren_sl, ren_fn, tren_none, tren_full, tren_row, oren_cells, oren_row, oren_dead, ixs_z, ixs_1, ixs_2, ixs_3, ren_ints, List.map_cons, List.map_nil]) (by simp [selT, ints_nil, ren_lit, ren_ref, ren_any, ren_agg, ren_tup, ren_sl, ren_fn, tren_none, tren_full, tren_row, oren_cells, oren_row, oren_dead, ixs_z, ixs_1, ixs_2, ixs_3, ren_ints, List.map_cons, List.map_nil, untag1_sl, ren_ints]))
  · intro k hk
    (simp only [go_sem, Nat.reduceAdd, Nat.reduceMul, Int.reduceToNat, Nat.reduceLeDiff, Int.reduceLE, Int.reduceLT, ↓reduceIte, Int.reduceBEq, Int.reduceBNe, Int.reduceAdd, Int.reduceSub, Int.reduceMul, qFin_ret, qFin_normal]; (try ((refine okTr_and ?_ ?_); (· rfl))))
    by_cases hlt : k < 6
    · have q1 : decide ((k : Int) < 6) = true := decide_eq_true (by omega)
      have ek := i64_succ k (by omega)
      have g := u64_get (valsF f) k (by omega)
      have hx := hu ((valsF f).getD k 0) (by rw [List.getD_eq_getElem?_getD, List.getElem?_eq_getElem (by omega)]; exact List.getElem_mem _)
      have st := fpk_succ f k hlt
      have sl := fpk_len f (k + 1) (by omega)
      (simp only [go_sem, Nat.reduceAdd, Nat.reduceMul, Int.reduceToNat, Nat.reduceLeDiff, Int.reduceLE, Int.reduceLT, ↓reduceIte, Int.reduceBEq, Int.reduceBNe, Int.reduceAdd, Int.reduceSub, Int.reduceMul, qFin_ret, qFin_normal, ints_length, lv, q1, g]; (try ((refine okTr_and ?_ ?_); (· rfl))))
      (repeat ((with_reducible refine And.intro ?_ ?_); (· first | with_reducible assumption | omega | with_reducible rfl | (simp only [List.length_append, List.length_cons, List.length_nil, List.length_singleton]; omega) | (simp [ints_length, okEl_eq, AV.parts]; done) | (simp [ints_length, okEl_eq, AV.parts]; omega) | rfl)))
      refine CallK.p (ref04_Bytes ((valsF f).getD k 0) hx.1 hx.2) ?_; (simp only [go_sem, Nat.reduceAdd, Nat.reduceMul, Int.reduceToNat, Nat.reduceLeDiff, Int.reduceLE, Int.reduceLT, ↓reduceIte, Int.reduceBEq, Int.reduceBNe, Int.reduceAdd, Int.reduceSub, Int.reduceMul, qFin_ret, qFin_normal, ints_append, ints_length, ← List.length_append, st, ek]; (try ((refine okTr_and ?_ ?_); (· rfl))))
      (repeat ((with_reducible refine And.intro ?_ ?_); (· first | with_reducible assumption | omega | with_reducible rfl | (simp only [List.length_append, List.length_cons, List.length_nil, List.length_singleton]; omega) | (simp [ints_length, okEl_eq, AV.parts]; done) | (simp [ints_length, okEl_eq, AV.parts]; omega) | rfl)))
      exact ⟨k + 1, by omega, by omega, Wk.to (by simp) (by simp [leT])⟩
    · have q1 : decide ((k : Int) < 6) = false := decide_eq_false (by omega)
      have e6 : k = 6 := by omega
      have e : fpk f k = payB f := by rw [e6, fpk_6]
      (simp only [go_sem, Nat.reduceAdd, Nat.reduceMul, Int.reduceToNat, Nat.reduceLeDiff, Int.reduceLE, Int.reduceLT, ↓reduceIte, Int.reduceBEq, Int.reduceBNe, Int.reduceAdd, Int.reduceSub, Int.reduceMul, qFin_ret, qFin_normal, ints_length, lv, q1, e]; (try ((refine okTr_and ?_ ?_); (· rfl))))
      ((refine FinK.fin r37 [0] ?_ ?_ ?_ ?_ ?_ ?_); (· decide); (· rfl); (· simp); (· rfl); (· first | with_reducible rfl | (simp [ints_nil, ren_lit, ren_ref, ren_any, ren_agg, ren_tup, ren_sl, ren_fn, tren_none, tren_full, tren_row, oren_cells, oren_row, oren_dead, ixs_z, ixs_1, ixs_2, ixs_3, ren_ints, List.map_cons, List.map_nil]; done) | rfl); (· simp [resAL, resA1, loadA, oneOr, ints_nil, ren_lit, ren_ref, ren_any, ren_agg, ren_tup, ren_sl, ren_fn, tren_none, tren_full, tren_row, oren_cells, oren_row, oren_dead, ixs_z, ixs_1, ixs_2, ixs_3, ren_ints, List.map_cons, List.map_nil]))
theorem ref33_Payload (f : Ft) (hf : f.ok) (hr : rightF f = true) : Ct Try.prog 37 [ftA f] [] (fun n => ownA n (payB f)) [] (fun _ => [.row 1 (payB f).length]) := Ct.n (ref33_Payload0 f hf hr) (by intros; simp [ints_nil, ren_lit, ren_ref, ren_any, ren_agg, ren_tup, ren_sl, ren_fn, tren_none, tren_full, tren_row, oren_cells, oren_row, oren_dead, ixs_z, ixs_1, ixs_2, ixs_3, ren_ints, List.map_cons, List.map_nil, ixs, List.range'_succ, ren_ints]) (by intros; simp [ints_nil, ren_lit, ren_ref, ren_any, ren_agg, ren_tup, ren_sl, ren_fn, tren_none, tren_full, tren_row, oren_cells, oren_row, oren_dead, ixs_z, ixs_1, ixs_2, ixs_3, ren_ints, List.map_cons, List.map_nil, ixs, List.range'_succ, ren_ints]) (by intros; simp [ints_nil, ren_lit, ren_ref, ren_any, ren_agg, ren_tup, ren_sl, ren_fn, tren_none, tren_full, tren_row, oren_cells, oren_row, oren_dead, ixs_z, ixs_1, ixs_2, ixs_3, ren_ints, List.map_cons, List.map_nil, flt])
end Go.Proofs.Ytkhnfleejgfhgaa
