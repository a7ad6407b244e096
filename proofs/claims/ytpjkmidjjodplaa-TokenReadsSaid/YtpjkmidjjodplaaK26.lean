/-
  Contracts of chapter 11: tokens written.
-/
import Derived.Test.YtpjkmidjjodplaaK24
import Derived.Test.YtpjkmidjjodplaaP9
set_option linter.all false
set_option linter.unusedSimpArgs false
set_option linter.unusedVariables false
set_option linter.unnecessarySimpa false
namespace Go.Proofs.Ytpjkmidjjodplaa
open Go.RowKit

theorem tsum_bound (l : List Tk) : tsum l ≤ 1048576 * l.length := by
  induction l with
  | nil => simp [tsum]
  | cons x l ih =>
    have h1 : x.made ≤ 1048576 := by
      cases h : x.right with
      | false => rw [made_zero h]; omega
      | true => exact (made_pos h).2
    simp only [tsum, List.length_cons]; omega
theorem tsum_take' (l : List Tk) (k : Nat) (h : k < l.length) : tsum (l.take (k + 1)) = tsum (l.take k) + (l.getD k tk0).made := by
  rw [tk_take l k h, tsum_snoc]
def roomT : List Tk → Int
  | [] => 0
  | t :: l => t.lit.length + 20 + roomT l
theorem roomT_snoc (l : List Tk) (t : Tk) : roomT (l ++ [t]) = roomT l + t.lit.length + 20 := by
  induction l with
  | nil => simp [roomT]
  | cons x l ih => simp only [List.cons_append, roomT, ih]; omega
theorem roomT_le {l : List Tk} (h : ∀ t ∈ l, t.lit.length ≤ 2000000) : 0 ≤ roomT l ∧ roomT l ≤ 2000020 * l.length := by
  induction l with
  | nil => simp [roomT]
  | cons x l ih =>
    have h1 := h x (List.mem_cons_self ..)
    have h2 := ih fun t ht => h t (List.mem_cons_of_mem _ ht)
    simp only [roomT, List.length_cons]; omega
theorem tokB_len (t : Tk) : (tokB t).length ≤ t.lit.length + 20 := by
  unfold tokB
  split
  · have := (vb_len (2 * (t.lit.length : Int) - 2)).2; rw [List.length_append]; omega
  · have := (vb_len (2 * t.len - 7)).2; have := (vb_len (t.off - 1)).2; rw [List.length_append]; omega
theorem toksB_room (l : List Tk) : ((toksB l).length : Int) ≤ roomT l := by
  induction l with
  | nil => simp [toksB, roomT]
  | cons x l ih =>
    have := tokB_len x
    have e : toksB (x :: l) = tokB x ++ toksB l := by simp [toksB]
    rw [e, List.length_append]; simp only [roomT]; omega
theorem vb_max : (vb 18446744073709551615).length = 10 := by kernel_rfl
theorem token_room0 (l : List Tk) (hn : l.length ≤ 1000000) (hl : ∀ t ∈ l, t.lit.length ≤ 2000000) : Does Try.prog 87 [slT l] [] (iA (roomT l)) [] := by
  refine Does.run Try.func87 b87 n87 Try.ntmps87 (by simp only [List.cons_append, List.nil_append, List.length_cons, List.length_nil, Nat.zero_add, Nat.reduceAdd, Nat.reduceSub, List.replicate]; rfl) ?_; simp only [c87, go_sem, Nat.reduceAdd, Nat.reduceMul, Int.reduceToNat, Nat.reduceLeDiff, Int.reduceLE, Int.reduceLT, ↓reduceIte, Int.reduceBEq, Int.reduceBNe, Int.reduceAdd, Int.reduceSub, Int.reduceMul, qFin_ret, qFin_normal, tks_length]; (try ((refine okTr_and ?_ ?_); (· rfl)))
  refine loop_of (α := Nat) (fun k => [.any, .any, .any, iA (roomT (l.take k)), .any, .any, slT l, iA l.length, iA k, .any, .any, .any, .any, .any, .any, .any, .any, .any, .any, .any, .any, .any]) (fun _ => []) (fun k => k ≤ l.length) (fun k => l.length - k) 0 (by simp) (Wk.to (by simp) (by simp [leT, roomT])) ?_
  intro k hk
  (simp only [go_sem, Nat.reduceAdd, Nat.reduceMul, Int.reduceToNat, Nat.reduceLeDiff, Int.reduceLE, Int.reduceLT, ↓reduceIte, Int.reduceBEq, Int.reduceBNe, Int.reduceAdd, Int.reduceSub, Int.reduceMul, qFin_ret, qFin_normal]; (try ((refine okTr_and ?_ ?_); (· rfl))))
  refine cdK_split (fun h => ?_) (fun h => ?_)
  · have hlt : k < l.length := by simpa using h
    have g := tks_get l k hlt
    have ei := i64_succ k (by omega)
    have h1 := roomT_le (l := l.take (k + 1)) fun t ht => hl t (List.mem_of_mem_take ht)
    have hkl : (l.take (k + 1)).length ≤ 1000000 := by simp; omega
    have hx := hl _ (tk_mem l k hlt)
    have hs : roomT (l.take (k + 1)) = roomT (l.take k) + (l.getD k tk0).lit.length + 20 := by rw [tk_take l k hlt, roomT_snoc]
    obtain ⟨t, ht⟩ : ∃ t, l.getD k tk0 = t := ⟨_, rfl⟩
    rw [ht] at g hx hs
    have e1 : IntKind.i64.wrap (2 * (((vb 18446744073709551615).length : Nat) : Int)) = 20 := by rw [vb_max]; rfl
    have e2 : IntKind.i64.wrap ((t.lit.length : Int) + 20) = t.lit.length + 20 := IntWalk.i64_in _ (by omega)
    have es : IntKind.i64.wrap (roomT (l.take k) + ((t.lit.length : Int) + 20)) = roomT (l.take (k + 1)) := by rw [IntWalk.i64_in _ (by omega), hs]; omega
    (simp only [go_sem, Nat.reduceAdd, Nat.reduceMul, Int.reduceToNat, Nat.reduceLeDiff, Int.reduceLE, Int.reduceLT, ↓reduceIte, Int.reduceBEq, Int.reduceBNe, Int.reduceAdd, Int.reduceSub, Int.reduceMul, qFin_ret, qFin_normal, g, tks_length, ints_length]; (try ((refine okTr_and ?_ ?_); (· rfl))))
    (repeat ((with_reducible refine And.intro ?_ ?_); (· first | with_reducible assumption | omega | with_reducible rfl | (simp only [List.length_append, List.length_cons, List.length_nil, List.length_singleton]; omega) | (simp [ints_length, okEl_eq, AV.parts]; done) | (simp [ints_length, okEl_eq, AV.parts]; omega) | rfl)))
    refine CallK.p (varint_Size 18446744073709551615 (by decide) (by decide)) ?_; (simp only [go_sem, Nat.reduceAdd, Nat.reduceMul, Int.reduceToNat, Nat.reduceLeDiff, Int.reduceLE, Int.reduceLT, ↓reduceIte, Int.reduceBEq, Int.reduceBNe, Int.reduceAdd, Int.reduceSub, Int.reduceMul, qFin_ret, qFin_normal, e1, e2, es, ei]; (try ((refine okTr_and ?_ ?_); (· rfl))))
    exact ⟨k + 1, hlt, by omega, Wk.sel [] (by simp) rfl (by simp) rfl (by simp) (by simp [selT, ints_nil, ren_lit, ren_ref, ren_any, ren_agg, ren_tup, ren_sl, ren_fn, tren_none, tren_full, tren_row, oren_cells, oren_row, oren_dead, ixs_z, ixs_1, ixs_2, ixs_3, ren_ints, List.map_cons, List.map_nil])⟩
  · have ek : k = l.length := by simp at h; omega
    (simp only [go_sem, Nat.reduceAdd, Nat.reduceMul, Int.reduceToNat, Nat.reduceLeDiff, Int.reduceLE, Int.reduceLT, ↓reduceIte, Int.reduceBEq, Int.reduceBNe, Int.reduceAdd, Int.reduceSub, Int.reduceMul, qFin_ret, qFin_normal]; (try ((refine okTr_and ?_ ?_); (· rfl))))
    ((refine FinK.fin r87 [] ?_ ?_ ?_ ?_ ?_ ?_); (· decide); (· rfl); (· simp); (· rfl); (· first | with_reducible rfl | (simp [ints_nil, ren_lit, ren_ref, ren_any, ren_agg, ren_tup, ren_sl, ren_fn, tren_none, tren_full, tren_row, oren_cells, oren_row, oren_dead, ixs_z, ixs_1, ixs_2, ixs_3, ren_ints, List.map_cons, List.map_nil, ek]; done) | rfl); (· simp [resAL, resA1, loadA, oneOr, ints_nil, ren_lit, ren_ref, ren_any, ren_agg, ren_tup, ren_sl, ren_fn, tren_none, tren_full, tren_row, oren_cells, oren_row, oren_dead, ixs_z, ixs_1, ixs_2, ixs_3, ren_ints, List.map_cons, List.map_nil, ek]))
theorem token_room (l : List Tk) (hn : l.length ≤ 1000000) (hl : ∀ t ∈ l, t.lit.length ≤ 2000000) : Ct Try.prog 87 [slT l] [] (fun _ => iA (roomT l)) [] (fun _ => []) := (token_room0 l hn hl).toCt (by intros; simp [ints_nil, ren_lit, ren_ref, ren_any, ren_agg, ren_tup, ren_sl, ren_fn, tren_none, tren_full, tren_row, oren_cells, oren_row, oren_dead, ixs_z, ixs_1, ixs_2, ixs_3, ren_ints, List.map_cons, List.map_nil, ixs, List.range'_succ, ren_ints]) (by intros; simp [ints_nil, ren_lit, ren_ref, ren_any, ren_agg, ren_tup, ren_sl, ren_fn, tren_none, tren_full, tren_row, oren_cells, oren_row, oren_dead, ixs_z, ixs_1, ixs_2, ixs_3, ren_ints, List.map_cons, List.map_nil, ixs, List.range'_succ, ren_ints])
def WS.toks (s : WS) (l : List Tk) : WS := l.foldl WS.tok s
theorem toks_snoc (s : WS) (l : List Tk) (t : Tk) : s.toks (l ++ [t]) = (s.toks l).tok t := by simp [WS.toks]
theorem WS.fine.toks {s : WS} (h : s.fine) (l : List Tk) : (s.toks l).fine := by
  induction l generalizing s with
  | nil => exact h
  | cons x l ih => exact ih (s := s.tok x) (h.tok x)
def rightT (l : List Tk) : Bool := l.all Tk.right
theorem rightT_iff {l : List Tk} : rightT l = true ↔ ∀ t ∈ l, t.right = true := by simp [rightT]
theorem put_two {s : WS} {a b : List Int} (h : s.code = 0) (hm : (s.l.length : Int) + (a ++ b).length ≤ s.most) : (s.put a).put b = ⟨s.most, s.l ++ (a ++ b), 0⟩ := by
  rw [List.length_append] at hm
  have e1 : s.put a = ⟨s.most, s.l ++ a, 0⟩ := by rw [WS.put_ok h (by omega)]; cases s; simp at h; simp [h]
  rw [e1, WS.put_ok rfl (by simp only [List.length_append]; omega)]
  simp
theorem tok_fit {s : WS} {t : Tk} (h : s.code = 0) (hr : t.right = true) (hm : (s.l.length : Int) + (tokB t).length ≤ s.most) : s.tok t = ⟨s.most, s.l ++ tokB t, 0⟩ := by
  unfold WS.tok
  unfold tokB at hm ⊢
  rw [if_pos hr]
  split
  · rename_i q; rw [if_pos q] at hm; exact put_two h hm
  · rename_i q; rw [if_neg q] at hm; exact put_two h hm
theorem tok_bad {s : WS} {t : Tk} (h : ¬ s.code = 0) : s.tok t = s := by
  unfold WS.tok
  have hp : ∀ m, s.put m = s := fun m => WS.put_bad h
  have hf : s.fail 3 = s := by unfold WS.fail; rw [if_neg h]
  rw [hp, hp, hp, hp, hf]
  repeat' split
  all_goals rfl
theorem toks_bad {s : WS} (h : ¬ s.code = 0) (l : List Tk) : s.toks l = s := by
  induction l with
  | nil => rfl
  | cons x l ih => show (s.tok x).toks l = s; rw [tok_bad h, ih]
theorem toks_fit : ∀ (l : List Tk) (s : WS), s.code = 0 → (s.l.length : Int) + roomT l ≤ s.most → s.toks l = if rightT l = true then ⟨s.most, s.l ++ toksB l, 0⟩ else ⟨s.most, (s.toks l).l, 3⟩ := by
  intro l
  induction l with
  | nil => intro s h _; cases s; simp at h; simp [WS.toks, rightT, toksB, h]
  | cons x l ih =>
    intro s h hm
    simp only [roomT] at hm
    have hx := tokB_len x
    have hge : 0 ≤ roomT l := by
      clear ih hm
      induction l with
      | nil => simp [roomT]
      | cons y l ih => simp only [roomT]; omega
    show (s.tok x).toks l = if rightT (x :: l) = true then _ else ⟨s.most, ((s.tok x).toks l).l, 3⟩
    cases hr : x.right
    · have e : s.tok x = ⟨s.most, s.l, 3⟩ := by
        unfold WS.tok WS.fail; rw [hr, if_neg (by simp), if_pos h]
      have hb : (WS.mk s.most s.l 3).toks l = ⟨s.most, s.l, 3⟩ := toks_bad (by simp) l
      rw [e, hb, if_neg (by simp [rightT, hr])]
    · rw [tok_fit h hr (by omega)]
      have := ih ⟨s.most, s.l ++ tokB x, 0⟩ rfl (by simp only [List.length_append]; omega)
      rw [this]
      have er : rightT (x :: l) = rightT l := by simp [rightT, hr]
      rw [er]
      split
      · simp [toksB]
      · rfl
def tokR (l : List Tk) : List Int × Int := if rightT l = true then (toksB l, 0) else ([], 3)
theorem token_Bytes0 (l : List Tk) (hn : l.length ≤ 1000) (hl : ∀ t ∈ l, t.lit.length ≤ 2000000) : Does Try.prog 43 [slT l] [] (.tup [slA .u8 (tokR l).1, iA (tokR l).2]) [] := by
  have hr := roomT_le hl
  have f0 : (WS.new (roomT l)).fine := WS.fine.new (by omega)
  refine Does.run Try.func43 b43 n43 Try.ntmps43 (by simp only [List.cons_append, List.nil_append, List.length_cons, List.length_nil, Nat.zero_add, Nat.reduceAdd, Nat.reduceSub, List.replicate]; rfl) ?_; simp only [c43, go_sem, Nat.reduceAdd, Nat.reduceMul, Int.reduceToNat, Nat.reduceLeDiff, Int.reduceLE, Int.reduceLT, ↓reduceIte, Int.reduceBEq, Int.reduceBNe, Int.reduceAdd, Int.reduceSub, Int.reduceMul, qFin_ret, qFin_normal]; (try ((refine okTr_and ?_ ?_); (· rfl)))
  refine CallK.p (token_room l (by omega) hl) ?_; (simp only [go_sem, Nat.reduceAdd, Nat.reduceMul, Int.reduceToNat, Nat.reduceLeDiff, Int.reduceLE, Int.reduceLT, ↓reduceIte, Int.reduceBEq, Int.reduceBNe, Int.reduceAdd, Int.reduceSub, Int.reduceMul, qFin_ret, qFin_normal]; (try ((refine okTr_and ?_ ?_); (· rfl))))
  refine CallK.n (pen_New (roomT l)) ?_; (simp only [go_sem, Nat.reduceAdd, Nat.reduceMul, Int.reduceToNat, Nat.reduceLeDiff, Int.reduceLE, Int.reduceLT, ↓reduceIte, Int.reduceBEq, Int.reduceBNe, Int.reduceAdd, Int.reduceSub, Int.reduceMul, qFin_ret, qFin_normal, tks_length]; (try ((refine okTr_and ?_ ?_); (· rfl))))
  refine loop_of (α := Nat) (fun k => [.any, .any, .any, .any, .ref 0 0, .any, .any, .any, .any, .any, slT l, iA l.length, iA k, .any, .any, .any, .any, .any, .any, .any, .any, .any, .any, .any]) (fun k => [wob 1 ((WS.new (roomT l)).toks (l.take k)), wrow ((WS.new (roomT l)).toks (l.take k))]) (fun k => k ≤ l.length) (fun k => l.length - k) 0 (by simp) (Wk.to (by simp [WS.toks]) (by simp [leT])) ?_
  intro k hk
  (simp only [go_sem, Nat.reduceAdd, Nat.reduceMul, Int.reduceToNat, Nat.reduceLeDiff, Int.reduceLE, Int.reduceLT, ↓reduceIte, Int.reduceBEq, Int.reduceBNe, Int.reduceAdd, Int.reduceSub, Int.reduceMul, qFin_ret, qFin_normal]; (try ((refine okTr_and ?_ ?_); (· rfl))))
  refine cdK_split (fun h => ?_) (fun h => ?_)
  · have hlt : k < l.length := by simpa using h
    have g := tks_get l k hlt
    have ei := i64_succ k (by omega)
    have hs : ((WS.new (roomT l)).toks (l.take k)).tok (l.getD k tk0) = (WS.new (roomT l)).toks (l.take (k + 1)) := by rw [tk_take l k hlt, toks_snoc]
    (simp only [go_sem, Nat.reduceAdd, Nat.reduceMul, Int.reduceToNat, Nat.reduceLeDiff, Int.reduceLE, Int.reduceLT, ↓reduceIte, Int.reduceBEq, Int.reduceBNe, Int.reduceAdd, Int.reduceSub, Int.reduceMul, qFin_ret, qFin_normal, g, tks_length]; (try ((refine okTr_and ?_ ?_); (· rfl))))
    (repeat ((with_reducible refine And.intro ?_ ?_); (· first | with_reducible assumption | omega | with_reducible rfl | (simp only [List.length_append, List.length_cons, List.length_nil, List.length_singleton]; omega) | (simp [ints_length, okEl_eq, AV.parts]; done) | (simp [ints_length, okEl_eq, AV.parts]; omega) | rfl)))
    refine CallK.u2 (token_Put _ (l.getD k tk0) 0 1 (by decide) (f0.toks _)) rfl rfl ?_; (simp only [go_sem, Nat.reduceAdd, Nat.reduceMul, Int.reduceToNat, Nat.reduceLeDiff, Int.reduceLE, Int.reduceLT, ↓reduceIte, Int.reduceBEq, Int.reduceBNe, Int.reduceAdd, Int.reduceSub, Int.reduceMul, qFin_ret, qFin_normal, hs, ei]; (try ((refine okTr_and ?_ ?_); (· rfl))))
    exact ⟨k + 1, hlt, by omega, Wk.sel [0, 1] (by simp) rfl (by simp) rfl (by simp [wob_ren, wrow_ren, ixs]) (by simp [selT, ints_nil, ren_lit, ren_ref, ren_any, ren_agg, ren_tup, ren_sl, ren_fn, tren_none, tren_full, tren_row, oren_cells, oren_row, oren_dead, ixs_z, ixs_1, ixs_2, ixs_3, ren_ints, List.map_cons, List.map_nil, ixs])⟩
  · have ek : k = l.length := by simp at h; omega
    subst ek
    have hf := toks_fit l (WS.new (roomT l)) rfl (by rw [WS.new_is hr.1]; simp)
    have hff := (f0.toks l).len
    (simp only [go_sem, Nat.reduceAdd, Nat.reduceMul, Int.reduceToNat, Nat.reduceLeDiff, Int.reduceLE, Int.reduceLT, ↓reduceIte, Int.reduceBEq, Int.reduceBNe, Int.reduceAdd, Int.reduceSub, Int.reduceMul, qFin_ret, qFin_normal, List.take_length]; (try ((refine okTr_and ?_ ?_); (· rfl))))
    refine CallK.r2 (Writer_Bytes _ 0 1 (by decide) hff) rfl rfl ?_; (simp only [go_sem, Nat.reduceAdd, Nat.reduceMul, Int.reduceToNat, Nat.reduceLeDiff, Int.reduceLE, Int.reduceLT, ↓reduceIte, Int.reduceBEq, Int.reduceBNe, Int.reduceAdd, Int.reduceSub, Int.reduceMul, qFin_ret, qFin_normal]; (try ((refine okTr_and ?_ ?_); (· rfl))))
    cases hq : rightT l
    · rw [hq] at hf
      have hc : ((WS.new (roomT l)).toks l).code = 3 := by rw [hf]; rfl
      have hb : ((WS.new (roomT l)).toks l).bytes = [] := by unfold WS.bytes; rw [hc]; rfl
      ((refine FinK.fin r43 [] ?_ ?_ ?_ ?_ ?_ ?_); (· decide); (· rfl); (· simp); (· rfl); (· first | with_reducible rfl | (simp [ints_nil, ren_lit, ren_ref, ren_any, ren_agg, ren_tup, ren_sl, ren_fn, tren_none, tren_full, tren_row, oren_cells, oren_row, oren_dead, ixs_z, ixs_1, ixs_2, ixs_3, ren_ints, List.map_cons, List.map_nil, tokR, hq, hc, hb]; done) | rfl); (· simp [resAL, resA1, loadA, oneOr, ints_nil, ren_lit, ren_ref, ren_any, ren_agg, ren_tup, ren_sl, ren_fn, tren_none, tren_full, tren_row, oren_cells, oren_row, oren_dead, ixs_z, ixs_1, ixs_2, ixs_3, ren_ints, List.map_cons, List.map_nil, tokR, hq, hc, hb]))
    · rw [if_pos hq] at hf
      have hc : ((WS.new (roomT l)).toks l).code = 0 := by rw [hf]
      have hb : ((WS.new (roomT l)).toks l).bytes = toksB l := by unfold WS.bytes; rw [hf, WS.new_is hr.1]; simp
      ((refine FinK.fin r43 [] ?_ ?_ ?_ ?_ ?_ ?_); (· decide); (· rfl); (· simp); (· rfl); (· first | with_reducible rfl | (simp [ints_nil, ren_lit, ren_ref, ren_any, ren_agg, ren_tup, ren_sl, ren_fn, tren_none, tren_full, tren_row, oren_cells, oren_row, oren_dead, ixs_z, ixs_1, ixs_2, ixs_3, ren_ints, List.map_cons, List.map_nil, tokR, hq, hc, hb]; done) | rfl); (· simp [resAL, resA1, loadA, oneOr, ints_nil, ren_lit, ren_ref, ren_any, ren_agg, ren_tup, ren_sl, ren_fn, tren_none, tren_full, tren_row, oren_cells, oren_row, oren_dead, ixs_z, ixs_1, ixs_2, ixs_3, ren_ints, List.map_cons, List.map_nil, tokR, hq, hc, hb]))
theorem token_Bytes (l : List Tk) (hn : l.length ≤ 1000) (hl : ∀ t ∈ l, t.lit.length ≤ 2000000) : Ct Try.prog 43 [slT l] [] (fun _ => .tup [slA .u8 (tokR l).1, iA (tokR l).2]) [] (fun _ => []) := (token_Bytes0 l hn hl).toCt (by intros; simp [ints_nil, ren_lit, ren_ref, ren_any, ren_agg, ren_tup, ren_sl, ren_fn, tren_none, tren_full, tren_row, oren_cells, oren_row, oren_dead, ixs_z, ixs_1, ixs_2, ixs_3, ren_ints, List.map_cons, List.map_nil, ixs, List.range'_succ, ren_ints]) (by intros; simp [ints_nil, ren_lit, ren_ref, ren_any, ren_agg, ren_tup, ren_sl, ren_fn, tren_none, tren_full, tren_row, oren_cells, oren_row, oren_dead, ixs_z, ixs_1, ixs_2, ixs_3, ren_ints, List.map_cons, List.map_nil, ixs, List.range'_succ, ren_ints])
end Go.Proofs.Ytpjkmidjjodplaa
