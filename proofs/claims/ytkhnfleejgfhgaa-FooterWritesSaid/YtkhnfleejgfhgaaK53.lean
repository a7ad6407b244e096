/-
  Contracts of footers' writing.
-/
import Derived.Test.YtkhnfleejgfhgaaK52
import Derived.Test.YtkhnfleejgfhgaaK46
set_option linter.all false
set_option linter.unusedSimpArgs false
set_option linter.unusedVariables false
set_option linter.unnecessarySimpa false
namespace Go.Proofs.Ytkhnfleejgfhgaa
open Go.RowKit

theorem u64w (n : Int) : 0 ≤ IntKind.u64.wrap n ∧ IntKind.u64.wrap n < 18446744073709551616 := by
  have e : IntKind.u64.wrap n = n % 18446744073709551616 := by
    unfold IntKind.wrap
    simp [IntKind.signed, IntKind.bits]
  rw [e]; omega
def uvals (f : Ft) : List Int := [IntKind.u64.wrap f.bat, IntKind.u64.wrap f.ent, f.fst, f.fin, IntKind.u64.wrap f.at_, IntKind.u64.wrap f.size]
theorem uvals_u64 {f : Ft} (hf : f.ok) : U64s (uvals f) := by
  have := hf.fst
  have := hf.fin
  have := u64w f.bat
  have := u64w f.ent
  have := u64w f.at_
  have := u64w f.size
  intro x hx
  simp only [uvals, List.mem_cons, List.not_mem_nil, or_false] at hx
  rcases hx with rfl | rfl | rfl | rfl | rfl | rfl <;> omega
theorem uvals_right {f : Ft} (hf : f.ok) (hr : rightF f = true) : uvals f = valsF f := by
  obtain ⟨n1, n2, n3, n4, n5⟩ := rightF_nums hf hr
  unfold uvals valsF
  rw [IntWalk.u64_in f.bat (by omega), IntWalk.u64_in f.ent (by omega), IntWalk.u64_in f.at_ (by omega), IntWalk.u64_in f.size (by omega)]
def payF (f : Ft) : List Int := if rightF f = true then payB f else []
def errF (f : Ft) : Int := if rightF f = true then 0 else 3
/-- The writer of a payload. -/
def payW (f : Ft) : WS := (((if rightF f = true then WS.new 80 else (WS.new 80).fail 3).put [3]).epput f.ep (epRight f.ep)).puts (uvals f)
theorem puts_bad {s : WS} (h : ¬ s.code = 0) (l : List Int) : s.puts l = s := by
  induction l with
  | nil => rfl
  | cons x l ih =>
    have : s.puts (x :: l) = (s.put (vb x)).puts l := rfl
    rw [this, WS.put_bad h, ih]
theorem payW_is {f : Ft} (hf : f.ok) : (payW f).bytes = payF f ∧ (payW f).code = errF f := by
  unfold payW payF errF
  by_cases hr : rightF f = true
  · have hpl := payB_len f
    have e := payB_vals f
    have hl := congrArg List.length e
    simp only [List.length_append, List.length_cons, List.length_nil] at hl
    have he := (rightF_iff.1 hr).1
    rw [if_pos hr, if_pos hr, if_pos hr, uvals_right hf hr]
    have w1 : (WS.new 80).put [3] = ⟨80, [3], 0⟩ := by kernel_rfl
    have w2 : (WS.mk 80 [3] 0).epput f.ep (epRight f.ep) = ⟨80, [3] ++ vb f.ep, 0⟩ := by
      unfold WS.epput
      rw [if_pos (epRight_iff.2 he), put_fit rfl (by simp only [List.length_cons, List.length_nil]; omega)]
    rw [w1, w2, puts_fit rfl _ (by simp only [List.length_append, List.length_cons, List.length_nil]; omega), ← e]
    exact ⟨rfl, rfl⟩
  · rw [if_neg hr, if_neg hr, if_neg hr]
    have w0 : (WS.new 80).fail 3 = ⟨80, [], 3⟩ := by kernel_rfl
    have w1 : (WS.mk 80 [] 3).put [3] = ⟨80, [], 3⟩ := WS.put_bad (by decide)
    have w2 : (WS.mk 80 [] 3).epput f.ep (epRight f.ep) = ⟨80, [], 3⟩ := by
      unfold WS.epput; split
      · exact WS.put_bad (by decide)
      · rfl
    rw [w0, w1, w2, puts_bad (by decide)]
    exact ⟨rfl, rfl⟩
theorem WS.fine.epput {s : WS} (h : s.fine) (x : Int) (b : Bool) : (s.epput x b).fine := by
  unfold WS.epput; split
  · exact h.put _
  · exact h.fail 3
set_option maxHeartbeats 1000000 in
set_option maxRecDepth 100000 in
theorem footer_Payload0 (f : Ft) (hf : f.ok) : Does Try.prog 89 [ftA f] [] (.tup [slA .u8 (payF f), iA (errF f)]) [] := by
  obtain ⟨p1, p2⟩ := payW_is hf
  have hu := uvals_u64 hf
  have lv : (uvals f).length = 6 := rfl
  have ev : [uA (IntKind.u64.wrap f.bat), uA (IntKind.u64.wrap f.ent), uA f.fst, uA f.fin, uA (IntKind.u64.wrap f.at_), uA (IntKind.u64.wrap f.size)] = ints .u64 (uvals f) := rfl
  have f0 : (WS.new 80).fine := WS.fine.new (by omega)
  have hs := hf
  obtain ⟨s, hsv⟩ : ∃ s, (if rightF f = true then WS.new 80 else (WS.new 80).fail 3) = s := ⟨_, rfl⟩
  have fs : s.fine := by
    rw [← hsv]; split
    · exact f0
    · exact f0.fail 3
  have hpw : payW f = ((s.put [3]).epput f.ep (epRight f.ep)).puts (uvals f) := by unfold payW; rw [hsv]
  obtain ⟨W, hW⟩ : ∃ W, (s.put [3]).epput f.ep (epRight f.ep) = W := ⟨_, rfl⟩
  have fw : W.fine := by rw [← hW]; exact (fs.put _).epput _ _
  rw [hW] at hpw
  rw [hpw] at p1 p2
  have w00 : W.puts [] = W := rfl
  refine Does.run Try.func89 b89 n89 Try.ntmps89 (by simp only [List.cons_append, List.nil_append, List.length_cons, List.length_nil, Nat.zero_add, Nat.reduceAdd, Nat.reduceSub, List.replicate]; rfl) ?_; simp only [c89, go_sem, Nat.reduceAdd, Nat.reduceMul, Int.reduceToNat, Nat.reduceLeDiff, Int.reduceLE, Int.reduceLT, ↓reduceIte, Int.reduceBEq, Int.reduceBNe, Int.reduceAdd, Int.reduceSub, Int.reduceMul, qFin_ret, qFin_normal]; (try ((refine okTr_and ?_ ?_); (· rfl)))
  refine CallK.n (pen_New 80) ?_; (simp only [go_sem, Nat.reduceAdd, Nat.reduceMul, Int.reduceToNat, Nat.reduceLeDiff, Int.reduceLE, Int.reduceLT, ↓reduceIte, Int.reduceBEq, Int.reduceBNe, Int.reduceAdd, Int.reduceSub, Int.reduceMul, qFin_ret, qFin_normal]; (try ((refine okTr_and ?_ ?_); (· rfl))))
  refine CallK.p (footer_Right f hf.fst.1 hf.fst.2 hf.fin.1 hf.fin.2) ?_
  by_cases hr : rightF f = true
  · rw [if_pos hr] at hsv
    (simp only [go_sem, Nat.reduceAdd, Nat.reduceMul, Int.reduceToNat, Nat.reduceLeDiff, Int.reduceLE, Int.reduceLT, ↓reduceIte, Int.reduceBEq, Int.reduceBNe, Int.reduceAdd, Int.reduceSub, Int.reduceMul, qFin_ret, qFin_normal, hr, hsv]; (try ((refine okTr_and ?_ ?_); (· rfl))))
    (repeat ((with_reducible refine And.intro ?_ ?_); (· first | with_reducible assumption | omega | with_reducible rfl | (simp only [List.length_append, List.length_cons, List.length_nil, List.length_singleton]; omega) | (simp [ints_length, okEl_eq, AV.parts]; done) | (simp [ints_length, okEl_eq, AV.parts]; omega) | rfl)))
    refine CallK.u2 (Writer_Put s [3] _ _ (by decide) fs.ok (fs.room _)) rfl rfl ?_; (simp only [go_sem, Nat.reduceAdd, Nat.reduceMul, Int.reduceToNat, Nat.reduceLeDiff, Int.reduceLE, Int.reduceLT, ↓reduceIte, Int.reduceBEq, Int.reduceBNe, Int.reduceAdd, Int.reduceSub, Int.reduceMul, qFin_ret, qFin_normal]; (try ((refine okTr_and ?_ ?_); (· rfl))))
    refine CallK.u2 (epoch_Put (s.put [3]) f.ep _ _ (by decide) hf.ep.1 hf.ep.2 (fs.put _)) rfl rfl ?_; (simp only [go_sem, Nat.reduceAdd, Nat.reduceMul, Int.reduceToNat, Nat.reduceLeDiff, Int.reduceLE, Int.reduceLT, ↓reduceIte, Int.reduceBEq, Int.reduceBNe, Int.reduceAdd, Int.reduceSub, Int.reduceMul, qFin_ret, qFin_normal, hW, ev, ints_length, lv]; (try ((refine okTr_and ?_ ?_); (· rfl))))
    (repeat ((with_reducible refine And.intro ?_ ?_); (· first | with_reducible assumption | omega | with_reducible rfl | (simp only [List.length_append, List.length_cons, List.length_nil, List.length_singleton]; omega) | (simp [ints_length, okEl_eq, AV.parts]; done) | (simp [ints_length, okEl_eq, AV.parts]; omega) | rfl)))
    refine loop_of (α := Nat) (fun k => [.any, .any, .any, .any, .ref 0 0, .any, .any, .any, .any, .any, .any, .any, .any, .any, .any, .any, .any, .any, .any, .any, .any, .any, .any, .any, .any, .any, .any, .any, .any, .any, .any, .any, .any, .any, .any, .any, slA .u64 (uvals f), iA 6, iA k, .any, .any, .any, .any, .any, .any, .any, .any, .any, .any, .any]) (fun k => [wob 1 (W.puts ((uvals f).take k)), wrow (W.puts ((uvals f).take k))]) (fun k => k ≤ 6) (fun k => 6 - k) 0 (by simp) ?_ ?_
    · exact (Wk.untag 36 rfl).trans (Wk.sel [1, 2] (by simp) rfl (by simp) rfl (by simp [wob_ren, wrow_ren, ixs, w00]) (by simp [selT, ints_nil, ren_lit, ren_ref, ren_any, ren_agg, ren_tup, ren_sl, ren_fn, tren_none, tren_full, tren_row, oren_cells, oren_row, oren_dead, ixs_z, ixs_1, ixs_2, ixs_3, ren_ints, List.map_cons, List.map_nil, untag1_sl, ren_ints, ixs]))
    · intro k hk
      have fk := fw.puts ((uvals f).take k)
      (simp only [go_sem, Nat.reduceAdd, Nat.reduceMul, Int.reduceToNat, Nat.reduceLeDiff, Int.reduceLE, Int.reduceLT, ↓reduceIte, Int.reduceBEq, Int.reduceBNe, Int.reduceAdd, Int.reduceSub, Int.reduceMul, qFin_ret, qFin_normal]; (try ((refine okTr_and ?_ ?_); (· rfl))))
      by_cases hlt : k < 6
      · have q1 : decide ((k : Int) < 6) = true := decide_eq_true (by omega)
        have ek := i64_succ k (by omega)
        have g := u64_get (uvals f) k (by omega)
        have hx := hu ((uvals f).getD k 0) (by rw [List.getD_eq_getElem?_getD, List.getElem?_eq_getElem (by omega)]; exact List.getElem_mem _)
        have st := take_puts W (uvals f) k (by omega)
        (simp only [go_sem, Nat.reduceAdd, Nat.reduceMul, Int.reduceToNat, Nat.reduceLeDiff, Int.reduceLE, Int.reduceLT, ↓reduceIte, Int.reduceBEq, Int.reduceBNe, Int.reduceAdd, Int.reduceSub, Int.reduceMul, qFin_ret, qFin_normal, q1, ints_length, lv, g]; (try ((refine okTr_and ?_ ?_); (· rfl))))
        (repeat ((with_reducible refine And.intro ?_ ?_); (· first | with_reducible assumption | omega | with_reducible rfl | (simp only [List.length_append, List.length_cons, List.length_nil, List.length_singleton]; omega) | (simp [ints_length, okEl_eq, AV.parts]; done) | (simp [ints_length, okEl_eq, AV.parts]; omega) | rfl)))
        refine CallK.u2 (varint_Put (W.puts ((uvals f).take k)) ((uvals f).getD k 0) 0 1 (by decide) hx.1 hx.2 fk.ok (fk.room _)) rfl rfl ?_; (simp only [go_sem, Nat.reduceAdd, Nat.reduceMul, Int.reduceToNat, Nat.reduceLeDiff, Int.reduceLE, Int.reduceLT, ↓reduceIte, Int.reduceBEq, Int.reduceBNe, Int.reduceAdd, Int.reduceSub, Int.reduceMul, qFin_ret, qFin_normal, st, ek]; (try ((refine okTr_and ?_ ?_); (· rfl))))
        exact ⟨k + 1, by omega, by omega, Wk.to (by simp) (by simp [leT])⟩
      · have q1 : decide ((k : Int) < 6) = false := decide_eq_false (by omega)
        have e6 : (uvals f).take k = uvals f := List.take_of_length_le (by omega)
        rw [e6] at fk
        (simp only [go_sem, Nat.reduceAdd, Nat.reduceMul, Int.reduceToNat, Nat.reduceLeDiff, Int.reduceLE, Int.reduceLT, ↓reduceIte, Int.reduceBEq, Int.reduceBNe, Int.reduceAdd, Int.reduceSub, Int.reduceMul, qFin_ret, qFin_normal, q1, e6]; (try ((refine okTr_and ?_ ?_); (· rfl))))
        refine CallK.r2 (Writer_Bytes (W.puts (uvals f)) 0 1 (by decide) fk.len) rfl rfl ?_; (simp only [go_sem, Nat.reduceAdd, Nat.reduceMul, Int.reduceToNat, Nat.reduceLeDiff, Int.reduceLE, Int.reduceLT, ↓reduceIte, Int.reduceBEq, Int.reduceBNe, Int.reduceAdd, Int.reduceSub, Int.reduceMul, qFin_ret, qFin_normal, p1, p2]; (try ((refine okTr_and ?_ ?_); (· rfl))))
        ((refine FinK.fin r89 [] ?_ ?_ ?_ ?_ ?_ ?_); (· decide); (· rfl); (· simp); (· rfl); (· first | with_reducible rfl | (simp [ints_nil, ren_lit, ren_ref, ren_any, ren_agg, ren_tup, ren_sl, ren_fn, tren_none, tren_full, tren_row, oren_cells, oren_row, oren_dead, ixs_z, ixs_1, ixs_2, ixs_3, ren_ints, List.map_cons, List.map_nil]; done) | rfl); (· simp [resAL, resA1, loadA, oneOr, ints_nil, ren_lit, ren_ref, ren_any, ren_agg, ren_tup, ren_sl, ren_fn, tren_none, tren_full, tren_row, oren_cells, oren_row, oren_dead, ixs_z, ixs_1, ixs_2, ixs_3, ren_ints, List.map_cons, List.map_nil]))
  · have hr' : rightF f = false := by simpa using hr
    rw [if_neg hr] at hsv
    (simp only [go_sem, Nat.reduceAdd, Nat.reduceMul, Int.reduceToNat, Nat.reduceLeDiff, Int.reduceLE, Int.reduceLT, ↓reduceIte, Int.reduceBEq, Int.reduceBNe, Int.reduceAdd, Int.reduceSub, Int.reduceMul, qFin_ret, qFin_normal, hr']; (try ((refine okTr_and ?_ ?_); (· rfl))))
    refine CallK.u2 (Writer_Fail (WS.new 80) 3 _ _ (by decide)) rfl rfl ?_; (simp only [go_sem, Nat.reduceAdd, Nat.reduceMul, Int.reduceToNat, Nat.reduceLeDiff, Int.reduceLE, Int.reduceLT, ↓reduceIte, Int.reduceBEq, Int.reduceBNe, Int.reduceAdd, Int.reduceSub, Int.reduceMul, qFin_ret, qFin_normal, hsv]; (try ((refine okTr_and ?_ ?_); (· rfl))))
    (repeat ((with_reducible refine And.intro ?_ ?_); (· first | with_reducible assumption | omega | with_reducible rfl | (simp only [List.length_append, List.length_cons, List.length_nil, List.length_singleton]; omega) | (simp [ints_length, okEl_eq, AV.parts]; done) | (simp [ints_length, okEl_eq, AV.parts]; omega) | rfl)))
    refine CallK.u2 (Writer_Put s [3] _ _ (by decide) fs.ok (fs.room _)) rfl rfl ?_; (simp only [go_sem, Nat.reduceAdd, Nat.reduceMul, Int.reduceToNat, Nat.reduceLeDiff, Int.reduceLE, Int.reduceLT, ↓reduceIte, Int.reduceBEq, Int.reduceBNe, Int.reduceAdd, Int.reduceSub, Int.reduceMul, qFin_ret, qFin_normal]; (try ((refine okTr_and ?_ ?_); (· rfl))))
    refine CallK.u2 (epoch_Put (s.put [3]) f.ep _ _ (by decide) hf.ep.1 hf.ep.2 (fs.put _)) rfl rfl ?_; (simp only [go_sem, Nat.reduceAdd, Nat.reduceMul, Int.reduceToNat, Nat.reduceLeDiff, Int.reduceLE, Int.reduceLT, ↓reduceIte, Int.reduceBEq, Int.reduceBNe, Int.reduceAdd, Int.reduceSub, Int.reduceMul, qFin_ret, qFin_normal, hW, ev, ints_length, lv]; (try ((refine okTr_and ?_ ?_); (· rfl))))
    (repeat ((with_reducible refine And.intro ?_ ?_); (· first | with_reducible assumption | omega | with_reducible rfl | (simp only [List.length_append, List.length_cons, List.length_nil, List.length_singleton]; omega) | (simp [ints_length, okEl_eq, AV.parts]; done) | (simp [ints_length, okEl_eq, AV.parts]; omega) | rfl)))
    refine loop_of (α := Nat) (fun k => [.any, .any, .any, .any, .ref 0 0, .any, .any, .any, .any, .any, .any, .any, .any, .any, .any, .any, .any, .any, .any, .any, .any, .any, .any, .any, .any, .any, .any, .any, .any, .any, .any, .any, .any, .any, .any, .any, slA .u64 (uvals f), iA 6, iA k, .any, .any, .any, .any, .any, .any, .any, .any, .any, .any, .any]) (fun k => [wob 1 (W.puts ((uvals f).take k)), wrow (W.puts ((uvals f).take k))]) (fun k => k ≤ 6) (fun k => 6 - k) 0 (by simp) ?_ ?_
    · exact (Wk.untag 36 rfl).trans (Wk.sel [1, 2] (by simp) rfl (by simp) rfl (by simp [wob_ren, wrow_ren, ixs, w00]) (by simp [selT, ints_nil, ren_lit, ren_ref, ren_any, ren_agg, ren_tup, ren_sl, ren_fn, tren_none, tren_full, tren_row, oren_cells, oren_row, oren_dead, ixs_z, ixs_1, ixs_2, ixs_3, ren_ints, List.map_cons, List.map_nil, untag1_sl, ren_ints, ixs]))
    · intro k hk
      have fk := fw.puts ((uvals f).take k)
      (simp only [go_sem, Nat.reduceAdd, Nat.reduceMul, Int.reduceToNat, Nat.reduceLeDiff, Int.reduceLE, Int.reduceLT, ↓reduceIte, Int.reduceBEq, Int.reduceBNe, Int.reduceAdd, Int.reduceSub, Int.reduceMul, qFin_ret, qFin_normal]; (try ((refine okTr_and ?_ ?_); (· rfl))))
      by_cases hlt : k < 6
      · have q1 : decide ((k : Int) < 6) = true := decide_eq_true (by omega)
        have ek := i64_succ k (by omega)
        have g := u64_get (uvals f) k (by omega)
        have hx := hu ((uvals f).getD k 0) (by rw [List.getD_eq_getElem?_getD, List.getElem?_eq_getElem (by omega)]; exact List.getElem_mem _)
        have st := take_puts W (uvals f) k (by omega)
        (simp only [go_sem, Nat.reduceAdd, Nat.reduceMul, Int.reduceToNat, Nat.reduceLeDiff, Int.reduceLE, Int.reduceLT, ↓reduceIte, Int.reduceBEq, Int.reduceBNe, Int.reduceAdd, Int.reduceSub, Int.reduceMul, qFin_ret, qFin_normal, q1, ints_length, lv, g]; (try ((refine okTr_and ?_ ?_); (· rfl))))
        (repeat ((with_reducible refine And.intro ?_ ?_); (· first | with_reducible assumption | omega | with_reducible rfl | (simp only [List.length_append, List.length_cons, List.length_nil, List.length_singleton]; omega) | (simp [ints_length, okEl_eq, AV.parts]; done) | (simp [ints_length, okEl_eq, AV.parts]; omega) | rfl)))
        refine CallK.u2 (varint_Put (W.puts ((uvals f).take k)) ((uvals f).getD k 0) 0 1 (by decide) hx.1 hx.2 fk.ok (fk.room _)) rfl rfl ?_; (simp only [go_sem, Nat.reduceAdd, Nat.reduceMul, Int.reduceToNat, Nat.reduceLeDiff, Int.reduceLE, Int.reduceLT, ↓reduceIte, Int.reduceBEq, Int.reduceBNe, Int.reduceAdd, Int.reduceSub, Int.reduceMul, qFin_ret, qFin_normal, st, ek]; (try ((refine okTr_and ?_ ?_); (· rfl))))
        exact ⟨k + 1, by omega, by omega, Wk.to (by simp) (by simp [leT])⟩
      · have q1 : decide ((k : Int) < 6) = false := decide_eq_false (by omega)
        have e6 : (uvals f).take k = uvals f := List.take_of_length_le (by omega)
        rw [e6] at fk
        (simp only [go_sem, Nat.reduceAdd, Nat.reduceMul, Int.reduceToNat, Nat.reduceLeDiff, Int.reduceLE, Int.reduceLT, ↓reduceIte, Int.reduceBEq, Int.reduceBNe, Int.reduceAdd, Int.reduceSub, Int.reduceMul, qFin_ret, qFin_normal, q1, e6]; (try ((refine okTr_and ?_ ?_); (· rfl))))
        refine CallK.r2 (Writer_Bytes (W.puts (uvals f)) 0 1 (by decide) fk.len) rfl rfl ?_; (simp only [go_sem, Nat.reduceAdd, Nat.reduceMul, Int.reduceToNat, Nat.reduceLeDiff, Int.reduceLE, Int.reduceLT, ↓reduceIte, Int.reduceBEq, Int.reduceBNe, Int.reduceAdd, Int.reduceSub, Int.reduceMul, qFin_ret, qFin_normal, p1, p2]; (try ((refine okTr_and ?_ ?_); (· rfl))))
        ((refine FinK.fin r89 [] ?_ ?_ ?_ ?_ ?_ ?_); (· decide); (· rfl); (· simp); (· rfl); (· first | with_reducible rfl | (simp [ints_nil, ren_lit, ren_ref, ren_any, ren_agg, ren_tup, ren_sl, ren_fn, tren_none, tren_full, tren_row, oren_cells, oren_row, oren_dead, ixs_z, ixs_1, ixs_2, ixs_3, ren_ints, List.map_cons, List.map_nil]; done) | rfl); (· simp [resAL, resA1, loadA, oneOr, ints_nil, ren_lit, ren_ref, ren_any, ren_agg, ren_tup, ren_sl, ren_fn, tren_none, tren_full, tren_row, oren_cells, oren_row, oren_dead, ixs_z, ixs_1, ixs_2, ixs_3, ren_ints, List.map_cons, List.map_nil]))
theorem footer_Payload (f : Ft) (hf : f.ok) : Ct Try.prog 89 [ftA f] [] (fun _ => .tup [slA .u8 (payF f), iA (errF f)]) [] (fun _ => []) := (footer_Payload0 f hf).toCt (by intros; simp [ints_nil, ren_lit, ren_ref, ren_any, ren_agg, ren_tup, ren_sl, ren_fn, tren_none, tren_full, tren_row, oren_cells, oren_row, oren_dead, ixs_z, ixs_1, ixs_2, ixs_3, ren_ints, List.map_cons, List.map_nil, ixs, List.range'_succ, ren_ints]) (by intros; simp [ints_nil, ren_lit, ren_ref, ren_any, ren_agg, ren_tup, ren_sl, ren_fn, tren_none, tren_full, tren_row, oren_cells, oren_row, oren_dead, ixs_z, ixs_1, ixs_2, ixs_3, ren_ints, List.map_cons, List.map_nil, ixs, List.range'_succ, ren_ints])
section
variable {P : Program} {S : List AObj} {K : KT} {f : FuncId} {args args₀ : List AV}
theorem CallK.rn2 {r : Nat → AV} {new : Nat → List AObj} {i j : Nat} {o p : AObj} (h : Ct P f (args.map Proofs.Ytkhnfleejgfhgaa.untag) [(i, o), (j, p)] r [] new) (hS : S[i]? = some o) (hS' : S[j]? = some p) (hK : K (r S.length) [i, j] [] (new S.length)) : CallK P f args S K := CallK.of h.untag (by simp [hS, hS']) (by simp) hK
end
theorem Writer_BytesO0 (s : WS) (hc : s.code = 0) (hb : s.l.length ≤ 140737488355328) : Does Try.prog 55 [.ref 0 0] [wob 1 s, wrow s] (.tup [ownA 2 s.l, iA 0]) [wob 1 s, wrow s, .row 1 s.l.length] := by
  have q : (s.code != 0) = false := by simpa using hc
  refine Does.run Try.func55 b55 n55 Try.ntmps55 (by simp only [List.cons_append, List.nil_append, List.length_cons, List.length_nil, Nat.zero_add, Nat.reduceAdd, Nat.reduceSub, List.replicate]; rfl) ?_; simp only [c55, go_sem, Nat.reduceAdd, Nat.reduceMul, Int.reduceToNat, Nat.reduceLeDiff, Int.reduceLE, Int.reduceLT, ↓reduceIte, Int.reduceBEq, Int.reduceBNe, Int.reduceAdd, Int.reduceSub, Int.reduceMul, qFin_ret, qFin_normal]; (try ((refine okTr_and ?_ ?_); (· rfl)))
  refine CallK.r2 (Writer_Code s 0 1 (by decide)) rfl rfl ?_; (simp only [go_sem, Nat.reduceAdd, Nat.reduceMul, Int.reduceToNat, Nat.reduceLeDiff, Int.reduceLE, Int.reduceLT, ↓reduceIte, Int.reduceBEq, Int.reduceBNe, Int.reduceAdd, Int.reduceSub, Int.reduceMul, qFin_ret, qFin_normal, q]; (try ((refine okTr_and ?_ ?_); (· rfl))))
  (simp only [go_sem, Nat.reduceAdd, Nat.reduceMul, Int.reduceToNat, Nat.reduceLeDiff, Int.reduceLE, Int.reduceLT, ↓reduceIte, Int.reduceBEq, Int.reduceBNe, Int.reduceAdd, Int.reduceSub, Int.reduceMul, qFin_ret, qFin_normal, wob, wrow, ints_length]; (try ((refine okTr_and ?_ ?_); (· rfl))))
  (repeat ((with_reducible refine And.intro ?_ ?_); (· first | with_reducible assumption | omega | with_reducible rfl | (simp only [List.length_append, List.length_cons, List.length_nil, List.length_singleton]; omega) | (simp [ints_length, okEl_eq, AV.parts]; done) | (simp [ints_length, okEl_eq, AV.parts]; omega) | rfl)))
  ((refine FinK.fin r55 [0, 1, 2] ?_ ?_ ?_ ?_ ?_ ?_); (· decide); (· rfl); (· simp); (· rfl); (· first | with_reducible rfl | (simp [ints_nil, ren_lit, ren_ref, ren_any, ren_agg, ren_tup, ren_sl, ren_fn, tren_none, tren_full, tren_row, oren_cells, oren_row, oren_dead, ixs_z, ixs_1, ixs_2, ixs_3, ren_ints, List.map_cons, List.map_nil, wob, wrow]; done) | rfl); (· simp [resAL, resA1, loadA, oneOr, ints_nil, ren_lit, ren_ref, ren_any, ren_agg, ren_tup, ren_sl, ren_fn, tren_none, tren_full, tren_row, oren_cells, oren_row, oren_dead, ixs_z, ixs_1, ixs_2, ixs_3, ren_ints, List.map_cons, List.map_nil, wob, wrow]))
theorem Writer_BytesO (s : WS) (i j : Nat) (h : i ≠ j) (hc : s.code = 0) (hb : s.l.length ≤ 140737488355328) : Ct Try.prog 55 [.ref i 0] [(i, wob j s), (j, wrow s)] (fun n => .tup [ownA n s.l, iA 0]) [] (fun _ => [.row 1 s.l.length]) :=
  Ct.mk (Writer_BytesO0 s hc hb) [i, j] (by simpa using h) rfl (by simp) (by simp [wob_dead, wrow_dead]) (by intros; simp [ints_nil, ren_lit, ren_ref, ren_any, ren_agg, ren_tup, ren_sl, ren_fn, tren_none, tren_full, tren_row, oren_cells, oren_row, oren_dead, ixs_z, ixs_1, ixs_2, ixs_3, ren_ints, List.map_cons, List.map_nil, ixs, List.range'_succ]) (by intros; simp [ints_nil, ren_lit, ren_ref, ren_any, ren_agg, ren_tup, ren_sl, ren_fn, tren_none, tren_full, tren_row, oren_cells, oren_row, oren_dead, ixs_z, ixs_1, ixs_2, ixs_3, ren_ints, List.map_cons, List.map_nil, ixs, List.range'_succ, ren_ints]) (by intros; simp [wob_ren, wrow_ren, ixs, List.range'_succ]) (.inr ⟨rfl, rfl⟩) (by intros; simp [ints_nil, ren_lit, ren_ref, ren_any, ren_agg, ren_tup, ren_sl, ren_fn, tren_none, tren_full, tren_row, oren_cells, oren_row, oren_dead, ixs_z, ixs_1, ixs_2, ixs_3, ren_ints, List.map_cons, List.map_nil])
theorem frame_BytesO0 (p : List Int) (hp : Bys p) (hn : p.length ≤ 2097152) : Does Try.prog 159 [slA .u8 p] [] (.tup [ownA 0 (frameB p), iA 0]) [.row 1 (frameB p).length] := by
  have hsz := sizeF_le p.length
  have hfr := sizeF_frame (p := p)
  have f0 : (WS.new (sizeF p.length)).fine := WS.fine.new (by omega)
  have hf := frame_fit (s := WS.new (sizeF p.length)) (p := p) rfl hn (by rw [WS.new_is (by omega)]; simp; omega)
  rw [WS.new_is (by omega)] at hf
  have hff := (f0.frame p).len
  rw [WS.new_is (by omega), hf] at hff
  simp only [List.nil_append] at hf hff
  refine Does.run Try.func159 b159 n159 Try.ntmps159 (by simp only [List.cons_append, List.nil_append, List.length_cons, List.length_nil, Nat.zero_add, Nat.reduceAdd, Nat.reduceSub, List.replicate]; rfl) ?_; simp only [c159, go_sem, Nat.reduceAdd, Nat.reduceMul, Int.reduceToNat, Nat.reduceLeDiff, Int.reduceLE, Int.reduceLT, ↓reduceIte, Int.reduceBEq, Int.reduceBNe, Int.reduceAdd, Int.reduceSub, Int.reduceMul, qFin_ret, qFin_normal, ints_length]; (try ((refine okTr_and ?_ ?_); (· rfl)))
  refine CallK.p (frame_Size p.length (by omega)) ?_; (simp only [go_sem, Nat.reduceAdd, Nat.reduceMul, Int.reduceToNat, Nat.reduceLeDiff, Int.reduceLE, Int.reduceLT, ↓reduceIte, Int.reduceBEq, Int.reduceBNe, Int.reduceAdd, Int.reduceSub, Int.reduceMul, qFin_ret, qFin_normal]; (try ((refine okTr_and ?_ ?_); (· rfl))))
  refine CallK.n (pen_New (sizeF p.length)) ?_; (simp only [go_sem, Nat.reduceAdd, Nat.reduceMul, Int.reduceToNat, Nat.reduceLeDiff, Int.reduceLE, Int.reduceLT, ↓reduceIte, Int.reduceBEq, Int.reduceBNe, Int.reduceAdd, Int.reduceSub, Int.reduceMul, qFin_ret, qFin_normal]; (try ((refine okTr_and ?_ ?_); (· rfl))))
  refine CallK.u2 (frame_Put (WS.new (sizeF p.length)) p _ _ (by decide) f0 hp (by omega)) rfl rfl ?_; (simp only [go_sem, Nat.reduceAdd, Nat.reduceMul, Int.reduceToNat, Nat.reduceLeDiff, Int.reduceLE, Int.reduceLT, ↓reduceIte, Int.reduceBEq, Int.reduceBNe, Int.reduceAdd, Int.reduceSub, Int.reduceMul, qFin_ret, qFin_normal]; (try ((refine okTr_and ?_ ?_); (· rfl))))
  rw [WS.new_is (by omega), hf]
  refine CallK.rn2 (Writer_BytesO (WS.mk (sizeF p.length) (frameB p) 0) _ _ (by decide) rfl hff) rfl rfl ?_
  (simp only [go_sem, Nat.reduceAdd, Nat.reduceMul, Int.reduceToNat, Nat.reduceLeDiff, Int.reduceLE, Int.reduceLT, ↓reduceIte, Int.reduceBEq, Int.reduceBNe, Int.reduceAdd, Int.reduceSub, Int.reduceMul, qFin_ret, qFin_normal]; (try ((refine okTr_and ?_ ?_); (· rfl))))
  ((refine FinK.fin r159 [2] ?_ ?_ ?_ ?_ ?_ ?_); (· decide); (· rfl); (· simp); (· rfl); (· first | with_reducible rfl | (simp [ints_nil, ren_lit, ren_ref, ren_any, ren_agg, ren_tup, ren_sl, ren_fn, tren_none, tren_full, tren_row, oren_cells, oren_row, oren_dead, ixs_z, ixs_1, ixs_2, ixs_3, ren_ints, List.map_cons, List.map_nil]; done) | rfl); (· simp [resAL, resA1, loadA, oneOr, ints_nil, ren_lit, ren_ref, ren_any, ren_agg, ren_tup, ren_sl, ren_fn, tren_none, tren_full, tren_row, oren_cells, oren_row, oren_dead, ixs_z, ixs_1, ixs_2, ixs_3, ren_ints, List.map_cons, List.map_nil]))
theorem frame_BytesO (p : List Int) (hp : Bys p) (hn : p.length ≤ 2097152) : Ct Try.prog 159 [slA .u8 p] [] (fun n => .tup [ownA n (frameB p), iA 0]) [] (fun _ => [.row 1 (frameB p).length]) := Ct.n (frame_BytesO0 p hp hn) (by intros; simp [ints_nil, ren_lit, ren_ref, ren_any, ren_agg, ren_tup, ren_sl, ren_fn, tren_none, tren_full, tren_row, oren_cells, oren_row, oren_dead, ixs_z, ixs_1, ixs_2, ixs_3, ren_ints, List.map_cons, List.map_nil, ixs, List.range'_succ, ren_ints]) (by intros; simp [ints_nil, ren_lit, ren_ref, ren_any, ren_agg, ren_tup, ren_sl, ren_fn, tren_none, tren_full, tren_row, oren_cells, oren_row, oren_dead, ixs_z, ixs_1, ixs_2, ixs_3, ren_ints, List.map_cons, List.map_nil, ixs, List.range'_succ, ren_ints]) (by intros; simp [ints_nil, ren_lit, ren_ref, ren_any, ren_agg, ren_tup, ren_sl, ren_fn, tren_none, tren_full, tren_row, oren_cells, oren_row, oren_dead, ixs_z, ixs_1, ixs_2, ixs_3, ren_ints, List.map_cons, List.map_nil, flt])
def bytesF (f : Ft) : List Int := if rightF f = true then footB f else []
theorem footer_Bytes0 (f : Ft) (hf : f.ok) : Does Try.prog 88 [ftA f] [] (.tup [slA .u8 (bytesF f), iA (errF f)]) [] := by
  by_cases hr : rightF f = true
  · have e1 : payF f = payB f := by unfold payF; rw [if_pos hr]
    have e2 : errF f = 0 := by unfold errF; rw [if_pos hr]
    have e3 : bytesF f = footB f := by unfold bytesF; rw [if_pos hr]
    have hp := payB_bys hf hr
    have hpl := payB_len f
    have hfl := frameB_le' (payB f)
    have htl := trailB_len ((frameB (payB f)).length : Int)
    have wl : IntKind.u64.wrap ((frameB (payB f)).length : Int) = ((frameB (payB f)).length : Int) := IntWalk.u64_in _ (by omega)
    have ef : frameB (payB f) ++ trailB (frameB (payB f)).length = footB f := rfl
    have efl : (footB f).length = (frameB (payB f)).length + 12 := by rw [← ef, List.length_append, htl]
    refine Does.run Try.func88 b88 n88 Try.ntmps88 (by simp only [List.cons_append, List.nil_append, List.length_cons, List.length_nil, Nat.zero_add, Nat.reduceAdd, Nat.reduceSub, List.replicate]; rfl) ?_; simp only [c88, go_sem, Nat.reduceAdd, Nat.reduceMul, Int.reduceToNat, Nat.reduceLeDiff, Int.reduceLE, Int.reduceLT, ↓reduceIte, Int.reduceBEq, Int.reduceBNe, Int.reduceAdd, Int.reduceSub, Int.reduceMul, qFin_ret, qFin_normal]; (try ((refine okTr_and ?_ ?_); (· rfl)))
    refine CallK.p (footer_Payload f hf) ?_; (simp only [go_sem, Nat.reduceAdd, Nat.reduceMul, Int.reduceToNat, Nat.reduceLeDiff, Int.reduceLE, Int.reduceLT, ↓reduceIte, Int.reduceBEq, Int.reduceBNe, Int.reduceAdd, Int.reduceSub, Int.reduceMul, qFin_ret, qFin_normal, e1, e2]; (try ((refine okTr_and ?_ ?_); (· rfl))))
    refine CallK.n (frame_BytesO (payB f) hp (by omega)) ?_; (simp only [go_sem, Nat.reduceAdd, Nat.reduceMul, Int.reduceToNat, Nat.reduceLeDiff, Int.reduceLE, Int.reduceLT, ↓reduceIte, Int.reduceBEq, Int.reduceBNe, Int.reduceAdd, Int.reduceSub, Int.reduceMul, qFin_ret, qFin_normal, ints_length]; (try ((refine okTr_and ?_ ?_); (· rfl))))
    refine CallK.p (footer_Trailer _ _ wl (by omega) (by omega)) ?_; (simp only [go_sem, Nat.reduceAdd, Nat.reduceMul, Int.reduceToNat, Nat.reduceLeDiff, Int.reduceLE, Int.reduceLT, ↓reduceIte, Int.reduceBEq, Int.reduceBNe, Int.reduceAdd, Int.reduceSub, Int.reduceMul, qFin_ret, qFin_normal, ints_append, ints_length, ← List.length_append, ef]; (try ((refine okTr_and ?_ ?_); (· rfl))))
    (repeat ((with_reducible refine And.intro ?_ ?_); (· first | with_reducible assumption | omega | with_reducible rfl | (simp only [List.length_append, List.length_cons, List.length_nil, List.length_singleton]; omega) | (simp [ints_length, okEl_eq, AV.parts]; done) | (simp [ints_length, okEl_eq, AV.parts]; omega) | rfl)))
    (refine FinK.untag 2 rfl ?_; simp only [untag1_sl, List.set_cons_zero, List.set_cons_succ])
    ((refine FinK.fin r88 [] ?_ ?_ ?_ ?_ ?_ ?_); (· decide); (· rfl); (· simp); (· rfl); (· first | with_reducible rfl | (simp [ints_nil, ren_lit, ren_ref, ren_any, ren_agg, ren_tup, ren_sl, ren_fn, tren_none, tren_full, tren_row, oren_cells, oren_row, oren_dead, ixs_z, ixs_1, ixs_2, ixs_3, ren_ints, List.map_cons, List.map_nil, e2, e3]; done) | rfl); (· simp [resAL, resA1, loadA, oneOr, ints_nil, ren_lit, ren_ref, ren_any, ren_agg, ren_tup, ren_sl, ren_fn, tren_none, tren_full, tren_row, oren_cells, oren_row, oren_dead, ixs_z, ixs_1, ixs_2, ixs_3, ren_ints, List.map_cons, List.map_nil, e2, e3]))
  · have e1 : payF f = [] := by unfold payF; rw [if_neg hr]
    have e2 : errF f = 3 := by unfold errF; rw [if_neg hr]
    have e3 : bytesF f = [] := by unfold bytesF; rw [if_neg hr]
    refine Does.run Try.func88 b88 n88 Try.ntmps88 (by simp only [List.cons_append, List.nil_append, List.length_cons, List.length_nil, Nat.zero_add, Nat.reduceAdd, Nat.reduceSub, List.replicate]; rfl) ?_; simp only [c88, go_sem, Nat.reduceAdd, Nat.reduceMul, Int.reduceToNat, Nat.reduceLeDiff, Int.reduceLE, Int.reduceLT, ↓reduceIte, Int.reduceBEq, Int.reduceBNe, Int.reduceAdd, Int.reduceSub, Int.reduceMul, qFin_ret, qFin_normal]; (try ((refine okTr_and ?_ ?_); (· rfl)))
    refine CallK.p (footer_Payload f hf) ?_; (simp only [go_sem, Nat.reduceAdd, Nat.reduceMul, Int.reduceToNat, Nat.reduceLeDiff, Int.reduceLE, Int.reduceLT, ↓reduceIte, Int.reduceBEq, Int.reduceBNe, Int.reduceAdd, Int.reduceSub, Int.reduceMul, qFin_ret, qFin_normal, e1, e2]; (try ((refine okTr_and ?_ ?_); (· rfl))))
    (refine FinK.untag 2 rfl ?_; simp only [untag1_sl, List.set_cons_zero, List.set_cons_succ])
    ((refine FinK.fin r88 [] ?_ ?_ ?_ ?_ ?_ ?_); (· decide); (· rfl); (· simp); (· rfl); (· first | with_reducible rfl | (simp [ints_nil, ren_lit, ren_ref, ren_any, ren_agg, ren_tup, ren_sl, ren_fn, tren_none, tren_full, tren_row, oren_cells, oren_row, oren_dead, ixs_z, ixs_1, ixs_2, ixs_3, ren_ints, List.map_cons, List.map_nil, e2, e3]; done) | rfl); (· simp [resAL, resA1, loadA, oneOr, ints_nil, ren_lit, ren_ref, ren_any, ren_agg, ren_tup, ren_sl, ren_fn, tren_none, tren_full, tren_row, oren_cells, oren_row, oren_dead, ixs_z, ixs_1, ixs_2, ixs_3, ren_ints, List.map_cons, List.map_nil, e2, e3]))
theorem footer_Bytes (f : Ft) (hf : f.ok) : Ct Try.prog 88 [ftA f] [] (fun _ => .tup [slA .u8 (bytesF f), iA (errF f)]) [] (fun _ => []) := (footer_Bytes0 f hf).toCt (by intros; simp [ints_nil, ren_lit, ren_ref, ren_any, ren_agg, ren_tup, ren_sl, ren_fn, tren_none, tren_full, tren_row, oren_cells, oren_row, oren_dead, ixs_z, ixs_1, ixs_2, ixs_3, ren_ints, List.map_cons, List.map_nil, ixs, List.range'_succ, ren_ints]) (by intros; simp [ints_nil, ren_lit, ren_ref, ren_any, ren_agg, ren_tup, ren_sl, ren_fn, tren_none, tren_full, tren_row, oren_cells, oren_row, oren_dead, ixs_z, ixs_1, ixs_2, ixs_3, ren_ints, List.map_cons, List.map_nil, ixs, List.range'_succ, ren_ints])
end Go.Proofs.Ytkhnfleejgfhgaa
