/-
  Contracts of chapters 3 and 7: sums of bytes, by the code and by the reference; bytes some of whose digits are turned; a number's bytes.
-/
import Derived.Test.YtkhnfleejgfhgaaQ4
import Derived.Test.YtkhnfleejgfhgaaP13
set_option linter.all false
set_option linter.unusedSimpArgs false
set_option linter.unusedVariables false
set_option linter.unnecessarySimpa false
namespace Go.Proofs.Ytkhnfleejgfhgaa
open Go.RowKit

abbrev wA (n : Nat) : AV := .lit (.int .u32 (n : Int))
theorem u32_nat (n : Nat) (h : n < 4294967296) : IntKind.u32.wrap (n : Int) = n := IntWalk.u32_in _ (by omega)
theorem step_eq (c : Nat) : cstep c = if c % 2 = 1 then (c / 2) ^^^ 2197175160 else c / 2 := rfl
theorem crc_step0 (c : Nat) (hc : c < 4294967296) : Does Try.prog 196 [wA c] [] (wA (cstep c)) [] := by
  have e1 := and1 c hc
  have e2 : (c : Int).fdiv (2 ^ min 1 32) = ((c / 2 : Nat) : Int) := shr32 c 1
  have e3 := xor32 (c / 2) 2197175160 (by omega) (by omega)
  refine Does.run Try.func196 b196 n196 Try.ntmps196 (by simp only [List.cons_append, List.nil_append, List.length_cons, List.length_nil, Nat.zero_add, Nat.reduceAdd, Nat.reduceSub, List.replicate]; rfl) ?_; simp only [c196, go_sem, Nat.reduceAdd, Nat.reduceMul, Int.reduceToNat, Nat.reduceLeDiff, Int.reduceLE, Int.reduceLT, ↓reduceIte, Int.reduceBEq, Int.reduceBNe, Int.reduceAdd, Int.reduceSub, Int.reduceMul, qFin_ret, qFin_normal, e1, e2]; (try ((refine okTr_and ?_ ?_); (· rfl)))
  by_cases h : c % 2 = 1
  · have q : (((c % 2 : Nat) : Int) == 1) = true := by rw [h]; rfl
    have e : cstep c = (c / 2) ^^^ 2197175160 := by rw [step_eq, if_pos h]
    have e3' : bitsI .xor .u32 ((c / 2 : Nat) : Int) 2197175160 = ((c / 2 ^^^ 2197175160 : Nat) : Int) := e3
    (simp only [go_sem, Nat.reduceAdd, Nat.reduceMul, Int.reduceToNat, Nat.reduceLeDiff, Int.reduceLE, Int.reduceLT, ↓reduceIte, Int.reduceBEq, Int.reduceBNe, Int.reduceAdd, Int.reduceSub, Int.reduceMul, qFin_ret, qFin_normal, q, e1, e2, e3']; (try ((refine okTr_and ?_ ?_); (· rfl))))
    ((refine FinK.fin r196 [] ?_ ?_ ?_ ?_ ?_ ?_); (· decide); (· rfl); (· simp); (· rfl); (· first | with_reducible rfl | (simp [ints_nil, ren_lit, ren_ref, ren_any, ren_agg, ren_tup, ren_sl, ren_fn, tren_none, tren_full, tren_row, oren_cells, oren_row, oren_dead, ixs_z, ixs_1, ixs_2, ixs_3, ren_ints, List.map_cons, List.map_nil, e]; done) | rfl); (· simp [resAL, resA1, loadA, oneOr, ints_nil, ren_lit, ren_ref, ren_any, ren_agg, ren_tup, ren_sl, ren_fn, tren_none, tren_full, tren_row, oren_cells, oren_row, oren_dead, ixs_z, ixs_1, ixs_2, ixs_3, ren_ints, List.map_cons, List.map_nil, e]))
  · have q : (((c % 2 : Nat) : Int) == 1) = false := by simp only [beq_eq_false_iff_ne, ne_eq]; omega
    have e : cstep c = c / 2 := by rw [step_eq, if_neg h]
    (simp only [go_sem, Nat.reduceAdd, Nat.reduceMul, Int.reduceToNat, Nat.reduceLeDiff, Int.reduceLE, Int.reduceLT, ↓reduceIte, Int.reduceBEq, Int.reduceBNe, Int.reduceAdd, Int.reduceSub, Int.reduceMul, qFin_ret, qFin_normal, q, e1, e2]; (try ((refine okTr_and ?_ ?_); (· rfl))))
    ((refine FinK.fin r196 [] ?_ ?_ ?_ ?_ ?_ ?_); (· decide); (· rfl); (· simp); (· rfl); (· first | with_reducible rfl | (simp [ints_nil, ren_lit, ren_ref, ren_any, ren_agg, ren_tup, ren_sl, ren_fn, tren_none, tren_full, tren_row, oren_cells, oren_row, oren_dead, ixs_z, ixs_1, ixs_2, ixs_3, ren_ints, List.map_cons, List.map_nil, e]; done) | rfl); (· simp [resAL, resA1, loadA, oneOr, ints_nil, ren_lit, ren_ref, ren_any, ren_agg, ren_tup, ren_sl, ren_fn, tren_none, tren_full, tren_row, oren_cells, oren_row, oren_dead, ixs_z, ixs_1, ixs_2, ixs_3, ren_ints, List.map_cons, List.map_nil, e]))
theorem crc_step (c : Nat) (hc : c < 4294967296) : Ct Try.prog 196 [wA c] [] (fun _ => wA (cstep c)) [] (fun _ => []) := (crc_step0 c hc).toCt (by intros; simp [ints_nil, ren_lit, ren_ref, ren_any, ren_agg, ren_tup, ren_sl, ren_fn, tren_none, tren_full, tren_row, oren_cells, oren_row, oren_dead, ixs_z, ixs_1, ixs_2, ixs_3, ren_ints, List.map_cons, List.map_nil, ixs, List.range'_succ, ren_ints]) (by intros; simp [ints_nil, ren_lit, ren_ref, ren_any, ren_agg, ren_tup, ren_sl, ren_fn, tren_none, tren_full, tren_row, oren_cells, oren_row, oren_dead, ixs_z, ixs_1, ixs_2, ixs_3, ren_ints, List.map_cons, List.map_nil, ixs, List.range'_succ, ren_ints])
/-- What each half of a byte makes of the state, as far as it is filled in. -/
def tabN (k : Nat) : List AV := (List.range 16).map fun i => wA (if i < k then csteps 4 i else 0)
theorem tabN_len (k : Nat) : (tabN k).length = 16 := by simp [tabN]
theorem tabN_set (k : Nat) : (tabN k).set k (wA (csteps 4 k)) = tabN (k + 1) := by
  refine List.ext_getElem? fun i => ?_
  rw [List.getElem?_set]
  by_cases h : k = i
  · subst h
    rw [if_pos rfl]
    by_cases hk : k < 16
    · rw [if_pos (by simpa [tabN] using hk)]; simp [tabN, hk]
    · rw [if_neg (by simpa [tabN] using hk)]; simp [tabN, hk]
  · rw [if_neg h]
    by_cases hk : i < 16
    · have : (i < k + 1) = (i < k) := by rw [eq_iff_iff]; omega
      simp [tabN, hk, this]
    · simp [tabN, hk]
@[simp] theorem tabN_ren (ρ : Nat → Nat) (k : Nat) : (tabN k).map (fun x => x.ren ρ) = tabN k := by simp [tabN, ints_nil, ren_lit, ren_ref, ren_any, ren_agg, ren_tup, ren_sl, ren_fn, tren_none, tren_full, tren_row, oren_cells, oren_row, oren_dead, ixs_z, ixs_1, ixs_2, ixs_3, ren_ints, List.map_cons, List.map_nil]
def tab : List AV := tabN 16
theorem tab_get (i : Nat) (h : i < 16) : tab[i]? = some (wA (csteps 4 i)) := by
  simp [tab, tabN, h]
theorem csteps_snoc (n : Nat) : ∀ c, csteps (n + 1) c = cstep (csteps n c) := by
  intro c
  have := csteps_add n 1 c
  rw [this]; rfl
theorem splice_eq (xs : List AV) (o : Nat) (cs : List AV) (h : o + cs.length ≤ xs.length) : splice xs o cs = xs.take o ++ cs ++ xs.drop (o + cs.length) := by
  refine List.ext_getElem? fun j => ?_
  rw [splice_get xs o cs h, List.append_assoc, List.getElem?_append, List.length_take, show min o xs.length = o by omega]
  by_cases h1 : j < o
  · rw [if_neg (by omega), if_pos h1, List.getElem?_take, if_pos h1]
  · rw [if_neg h1, List.getElem?_append]
    by_cases h2 : j - o < cs.length
    · rw [if_pos (by omega), if_pos h2]
    · rw [if_neg (by omega), if_neg h2, List.getElem?_drop]; congr 1; omega
@[simp] theorem tab_ren (ρ : Nat → Nat) : tab.map (fun x => x.ren ρ) = tab := tabN_ren ρ 16
set_option maxRecDepth 100000 in
theorem crc_table0 : Does Try.prog 188 [] [] (.agg tab) [] := by
  refine Does.run Try.func188 b188 n188 Try.ntmps188 (by simp only [List.cons_append, List.nil_append, List.length_cons, List.length_nil, Nat.zero_add, Nat.reduceAdd, Nat.reduceSub, List.replicate]; rfl) ?_; simp only [c188, go_sem, Nat.reduceAdd, Nat.reduceMul, Int.reduceToNat, Nat.reduceLeDiff, Int.reduceLE, Int.reduceLT, ↓reduceIte, Int.reduceBEq, Int.reduceBNe, Int.reduceAdd, Int.reduceSub, Int.reduceMul, qFin_ret, qFin_normal]; (try ((refine okTr_and ?_ ?_); (· rfl)))
  refine loop_of (α := Nat) (fun k => [.ref 0 0, .ref 1 0, .any, .any, iA k, .any, .any, .any, .any, .any, .any, .any, .any, .any, .any, .any, .any, .any, .any]) (fun k => [.cells (tabN 0), .cells (tabN k)]) (fun k => k ≤ 16) (fun k => 16 - k) 0 (by simp) (Wk.to (by rfl) (by simp [leT])) ?_
  intro k hk
  (simp only [go_sem, Nat.reduceAdd, Nat.reduceMul, Int.reduceToNat, Nat.reduceLeDiff, Int.reduceLE, Int.reduceLT, ↓reduceIte, Int.reduceBEq, Int.reduceBNe, Int.reduceAdd, Int.reduceSub, Int.reduceMul, qFin_ret, qFin_normal]; (try ((refine okTr_and ?_ ?_); (· rfl))))
  refine cdK_split (fun h => ?_) (fun h => ?_)
  · have hlt : k < 16 := by simp at h; omega
    have ek := i64_succ k (by omega)
    have ec := u32_nat k (by omega)
    (simp only [go_sem, Nat.reduceAdd, Nat.reduceMul, Int.reduceToNat, Nat.reduceLeDiff, Int.reduceLE, Int.reduceLT, ↓reduceIte, Int.reduceBEq, Int.reduceBNe, Int.reduceAdd, Int.reduceSub, Int.reduceMul, qFin_ret, qFin_normal, ec]; (try ((refine okTr_and ?_ ?_); (· rfl))))
    refine loop_of (α := Nat) (fun j => [.ref 0 0, .ref 1 0, iA k, wA (csteps j k), iA k, .any, .any, .any, .any, iA j, .any, .any, .any, .any, .any, .any, .any, .any, .any]) (fun j => [.cells (tabN 0), .cells (tabN k)]) (fun j => j ≤ 4) (fun j => 4 - j) 0 (by simp) (Wk.to (by rfl) (by simp [leT, csteps])) ?_
    intro j hj
    (simp only [go_sem, Nat.reduceAdd, Nat.reduceMul, Int.reduceToNat, Nat.reduceLeDiff, Int.reduceLE, Int.reduceLT, ↓reduceIte, Int.reduceBEq, Int.reduceBNe, Int.reduceAdd, Int.reduceSub, Int.reduceMul, qFin_ret, qFin_normal]; (try ((refine okTr_and ?_ ?_); (· rfl))))
    refine cdK_split (fun h => ?_) (fun h => ?_)
    · have hj4 : j < 4 := by simp at h; omega
      have ej := i64_succ j (by omega)
      have hs := csteps_snoc j k
      (simp only [go_sem, Nat.reduceAdd, Nat.reduceMul, Int.reduceToNat, Nat.reduceLeDiff, Int.reduceLE, Int.reduceLT, ↓reduceIte, Int.reduceBEq, Int.reduceBNe, Int.reduceAdd, Int.reduceSub, Int.reduceMul, qFin_ret, qFin_normal]; (try ((refine okTr_and ?_ ?_); (· rfl))))
      refine CallK.p (crc_step (csteps j k) (csteps_lt j (by omega))) ?_; (simp only [go_sem, Nat.reduceAdd, Nat.reduceMul, Int.reduceToNat, Nat.reduceLeDiff, Int.reduceLE, Int.reduceLT, ↓reduceIte, Int.reduceBEq, Int.reduceBNe, Int.reduceAdd, Int.reduceSub, Int.reduceMul, qFin_ret, qFin_normal, ej]; (try ((refine okTr_and ?_ ?_); (· rfl))))
      exact ⟨j + 1, by omega, by omega, Wk.to (by rfl) (by simp [leT, hs])⟩
    · have ej : j = 4 := by simp at h; omega
      subst ej
      (simp only [go_sem, Nat.reduceAdd, Nat.reduceMul, Int.reduceToNat, Nat.reduceLeDiff, Int.reduceLE, Int.reduceLT, ↓reduceIte, Int.reduceBEq, Int.reduceBNe, Int.reduceAdd, Int.reduceSub, Int.reduceMul, qFin_ret, qFin_normal, Int.toNat_natCast, tabN_len, Nat.mul_one, ek, tabN_set]; (try ((refine okTr_and ?_ ?_); (· rfl))))
      (repeat ((with_reducible refine And.intro ?_ ?_); (· first | with_reducible assumption | omega | with_reducible rfl | (simp only [List.length_append, List.length_cons, List.length_nil, List.length_singleton]; omega) | (simp [ints_length, okEl_eq, AV.parts]; done) | (simp [ints_length, okEl_eq, AV.parts]; omega) | rfl)))
      exact ⟨k + 1, by omega, by omega, Wk.to (by simp) (by simp [leT])⟩
  · have ek : k = 16 := by simp at h; omega
    subst ek
    have etk : List.take 16 (tabN 16) = tabN 16 := List.take_of_length_le (by rw [tabN_len]; omega)
    have esp : splice (tabN 0) 0 (tabN 16) = tabN 16 := by
      rw [splice_eq _ 0 _ (by rw [tabN_len, tabN_len]; omega), tabN_len, List.drop_eq_nil_of_le (by rw [tabN_len]; omega)]; simp
    (simp only [go_sem, Nat.reduceAdd, Nat.reduceMul, Int.reduceToNat, Nat.reduceLeDiff, Int.reduceLE, Int.reduceLT, ↓reduceIte, Int.reduceBEq, Int.reduceBNe, Int.reduceAdd, Int.reduceSub, Int.reduceMul, qFin_ret, qFin_normal, tabN_len, etk, esp]; (try ((refine okTr_and ?_ ?_); (· rfl))))
    (repeat ((with_reducible refine And.intro ?_ ?_); (· first | with_reducible assumption | omega | with_reducible rfl | (simp only [List.length_append, List.length_cons, List.length_nil, List.length_singleton]; omega) | (simp [ints_length, okEl_eq, AV.parts]; done) | (simp [ints_length, okEl_eq, AV.parts]; omega) | rfl)))
    ((refine FinK.fin r188 [] ?_ ?_ ?_ ?_ ?_ ?_); (· decide); (· rfl); (· simp); (· rfl); (· first | with_reducible rfl | (simp [ints_nil, ren_lit, ren_ref, ren_any, ren_agg, ren_tup, ren_sl, ren_fn, tren_none, tren_full, tren_row, oren_cells, oren_row, oren_dead, ixs_z, ixs_1, ixs_2, ixs_3, ren_ints, List.map_cons, List.map_nil, tab, tabN_len, etk]; done) | rfl); (· simp [resAL, resA1, loadA, oneOr, ints_nil, ren_lit, ren_ref, ren_any, ren_agg, ren_tup, ren_sl, ren_fn, tren_none, tren_full, tren_row, oren_cells, oren_row, oren_dead, ixs_z, ixs_1, ixs_2, ixs_3, ren_ints, List.map_cons, List.map_nil, tab, tabN_len, etk]))
theorem crc_table : Ct Try.prog 188 [] [] (fun _ => .agg tab) [] (fun _ => []) := (crc_table0).toCt (by intros; simp [ints_nil, ren_lit, ren_ref, ren_any, ren_agg, ren_tup, ren_sl, ren_fn, tren_none, tren_full, tren_row, oren_cells, oren_row, oren_dead, ixs_z, ixs_1, ixs_2, ixs_3, ren_ints, List.map_cons, List.map_nil, ixs, List.range'_succ, ren_ints]) (by intros; simp [ints_nil, ren_lit, ren_ref, ren_any, ren_agg, ren_tup, ren_sl, ren_fn, tren_none, tren_full, tren_row, oren_cells, oren_row, oren_dead, ixs_z, ixs_1, ixs_2, ixs_3, ren_ints, List.map_cons, List.map_nil, ixs, List.range'_succ, ren_ints])
theorem nats_take (l : List Int) (k : Nat) (h : k < l.length) : nats (l.take (k + 1)) = nats (l.take k) ++ [(l.getD k 0).toNat] := by
  rw [take_snoc l k h, nats_append]; rfl
theorem tab_len : tab.length = 16 := tabN_len 16
theorem tab_splice {xs : List AV} (h : xs.length = 16) : splice xs 0 tab = tab := by
  rw [splice_eq xs 0 tab (by rw [tab_len, h]; omega), tab_len, List.drop_eq_nil_of_le (by omega)]; simp
theorem half_eq (b : Nat) (hb : b < 4294967296) : bitsI .xor .u32 ((b / 16 : Nat) : Int) ((csteps 4 (b % 16) : Nat) : Int) = ((csteps 4 b : Nat) : Int) := by
  have := csteps_lt 4 (c := b % 16) (by omega)
  rw [xor32 (b / 16) (csteps 4 (b % 16)) (by omega) (by omega), ← csteps_half]
theorem xor_lt {a b : Nat} (ha : a < 4294967296) (hb : b < 4294967296) : a ^^^ b < 4294967296 := by
  have : a ^^^ b < 2 ^ 32 := Nat.xor_lt_two_pow (by omega) (by omega)
  omega
set_option maxRecDepth 100000 in
theorem crc_Add0 (c : Nat) (l : List Int) (hc : c < 4294967296) (hl : Bys l) (hn : l.length ≤ 140737488355328) : Does Try.prog 176 [wA c, slA .u8 l] [] (wA (crcA c (nats l))) [] := by
  refine Does.run Try.func176 b176 n176 Try.ntmps176 (by simp only [List.cons_append, List.nil_append, List.length_cons, List.length_nil, Nat.zero_add, Nat.reduceAdd, Nat.reduceSub, List.replicate]; rfl) ?_; simp only [c176, go_sem, Nat.reduceAdd, Nat.reduceMul, Int.reduceToNat, Nat.reduceLeDiff, Int.reduceLE, Int.reduceLT, ↓reduceIte, Int.reduceBEq, Int.reduceBNe, Int.reduceAdd, Int.reduceSub, Int.reduceMul, qFin_ret, qFin_normal]; (try ((refine okTr_and ?_ ?_); (· rfl)))
  refine CallK.p (crc_table) ?_; (simp only [go_sem, Nat.reduceAdd, Nat.reduceMul, Int.reduceToNat, Nat.reduceLeDiff, Int.reduceLE, Int.reduceLT, ↓reduceIte, Int.reduceBEq, Int.reduceBNe, Int.reduceAdd, Int.reduceSub, Int.reduceMul, qFin_ret, qFin_normal, ints_length, tab_len, tab_splice]; (try ((refine okTr_and ?_ ?_); (· rfl))))
  (repeat ((with_reducible refine And.intro ?_ ?_); (· first | with_reducible assumption | omega | with_reducible rfl | (simp only [List.length_append, List.length_cons, List.length_nil, List.length_singleton]; omega) | (simp [ints_length, okEl_eq, AV.parts]; done) | (simp [ints_length, okEl_eq, AV.parts]; omega) | rfl)))
  refine loop_of (α := Nat) (fun k => [wA (crcA c (nats (l.take k))), .any, .any, .any, .any, .ref 0 0, .any, .any, .any, slA .u8 l, iA l.length, iA k, .any, .any, .any, .any, .any, .any, .any, .any, .any, .any, .any, .any, .any, .any, .any, .any, .any, .any, .any, .any, .any, .any, .any]) (fun _ => [.cells tab]) (fun k => k ≤ l.length) (fun k => l.length - k) 0 (by simp) (Wk.to (by simp) (by simp [leT, nats, crcA])) ?_
  intro k hk
  (simp only [go_sem, Nat.reduceAdd, Nat.reduceMul, Int.reduceToNat, Nat.reduceLeDiff, Int.reduceLE, Int.reduceLT, ↓reduceIte, Int.reduceBEq, Int.reduceBNe, Int.reduceAdd, Int.reduceSub, Int.reduceMul, qFin_ret, qFin_normal]; (try ((refine okTr_and ?_ ?_); (· rfl))))
  refine cdK_split (fun h => ?_) (fun h => ?_)
  · have hlt : k < l.length := by simpa using h
    have ek := i64_succ k (by omega)
    have g := u8_get l (k : Int) (by omega) (by omega)
    have hx := hl _ (getD_mem l k hlt)
    have hst := nats_take l k hlt
    have ha := crcA_lt hc (l := nats (l.take k)) (fun x hx => nats_lt hl x (by
      simp only [nats, List.mem_map] at hx ⊢
      obtain ⟨y, hy, rfl⟩ := hx
      exact ⟨y, List.mem_of_mem_take hy, rfl⟩))
    rw [Int.toNat_natCast] at g
    obtain ⟨x, hxe⟩ : ∃ x : Nat, l.getD k 0 = (x : Int) := ⟨(l.getD k 0).toNat, by omega⟩
    rw [hxe] at g hx hst
    rw [Int.toNat_natCast] at hst
    have he : crcA c (nats (l.take (k + 1))) = cinto (crcA c (nats (l.take k))) x := by rw [hst, crcA_snoc]
    obtain ⟨a, hae⟩ : ∃ a, crcA c (nats (l.take k)) = a := ⟨_, rfl⟩
    rw [hae] at ha he ⊢
    have hb := xor_lt ha (show x < 4294967296 by omega)
    have e0 := u32_nat x (by omega)
    have e1 := xor32 a x ha (by omega)
    obtain ⟨b, hbe⟩ : ∃ b, a ^^^ x = b := ⟨_, rfl⟩
    rw [hbe] at e1 hb
    have s1 : (b : Int).fdiv (2 ^ min 4 32) = ((b / 16 : Nat) : Int) := shr32 b 4
    have s2 := and15 b hb
    have s3 := half_eq b hb
    have t1 := tab_get (b % 16) (by omega)
    have hd := csteps_lt 4 hb
    obtain ⟨d, hde⟩ : ∃ d, csteps 4 b = d := ⟨_, rfl⟩
    rw [hde] at s3 hd
    have u1 : (d : Int).fdiv (2 ^ min 4 32) = ((d / 16 : Nat) : Int) := shr32 d 4
    have u2 := and15 d hd
    have u3 := half_eq d hd
    have t2 := tab_get (d % 16) (by omega)
    have hf : csteps 4 d = crcA c (nats (l.take (k + 1))) := by rw [he, cinto_half, hbe, hde]
    rw [hf] at u3
    (simp only [go_sem, Nat.reduceAdd, Nat.reduceMul, Int.reduceToNat, Nat.reduceLeDiff, Int.reduceLE, Int.reduceLT, ↓reduceIte, Int.reduceBEq, Int.reduceBNe, Int.reduceAdd, Int.reduceSub, Int.reduceMul, qFin_ret, qFin_normal, g, ints_length, Int.toNat_natCast, e0, e1, s1, s2, s3, t1, u1, u2, u3, t2, ek, Nat.mul_one]; (try ((refine okTr_and ?_ ?_); (· rfl))))
    (repeat ((with_reducible refine And.intro ?_ ?_); (· first | with_reducible assumption | omega | with_reducible rfl | (simp only [List.length_append, List.length_cons, List.length_nil, List.length_singleton]; omega) | (simp [ints_length, okEl_eq, AV.parts]; done) | (simp [ints_length, okEl_eq, AV.parts]; omega) | rfl)))
    exact ⟨k + 1, by omega, by omega, Wk.to (by simp) (by simp [leT])⟩
  · have ek : k = l.length := by simp at h; omega
    subst ek
    (simp only [go_sem, Nat.reduceAdd, Nat.reduceMul, Int.reduceToNat, Nat.reduceLeDiff, Int.reduceLE, Int.reduceLT, ↓reduceIte, Int.reduceBEq, Int.reduceBNe, Int.reduceAdd, Int.reduceSub, Int.reduceMul, qFin_ret, qFin_normal]; (try ((refine okTr_and ?_ ?_); (· rfl))))
    ((refine FinK.fin r176 [] ?_ ?_ ?_ ?_ ?_ ?_); (· decide); (· rfl); (· simp); (· rfl); (· first | with_reducible rfl | (simp [ints_nil, ren_lit, ren_ref, ren_any, ren_agg, ren_tup, ren_sl, ren_fn, tren_none, tren_full, tren_row, oren_cells, oren_row, oren_dead, ixs_z, ixs_1, ixs_2, ixs_3, ren_ints, List.map_cons, List.map_nil, List.take_length]; done) | rfl); (· simp [resAL, resA1, loadA, oneOr, ints_nil, ren_lit, ren_ref, ren_any, ren_agg, ren_tup, ren_sl, ren_fn, tren_none, tren_full, tren_row, oren_cells, oren_row, oren_dead, ixs_z, ixs_1, ixs_2, ixs_3, ren_ints, List.map_cons, List.map_nil, List.take_length]))
theorem crc_Add (c : Nat) (l : List Int) (hc : c < 4294967296) (hl : Bys l) (hn : l.length ≤ 140737488355328) : Ct Try.prog 176 [wA c, slA .u8 l] [] (fun _ => wA (crcA c (nats l))) [] (fun _ => []) := (crc_Add0 c l hc hl hn).toCt (by intros; simp [ints_nil, ren_lit, ren_ref, ren_any, ren_agg, ren_tup, ren_sl, ren_fn, tren_none, tren_full, tren_row, oren_cells, oren_row, oren_dead, ixs_z, ixs_1, ixs_2, ixs_3, ren_ints, List.map_cons, List.map_nil, ixs, List.range'_succ, ren_ints]) (by intros; simp [ints_nil, ren_lit, ren_ref, ren_any, ren_agg, ren_tup, ren_sl, ren_fn, tren_none, tren_full, tren_row, oren_cells, oren_row, oren_dead, ixs_z, ixs_1, ixs_2, ixs_3, ren_ints, List.map_cons, List.map_nil, ixs, List.range'_succ, ren_ints])
theorem crc_Begin0 : Does Try.prog 177 [] [] (wA 4294967295) [] := by
  refine Does.run Try.func177 b177 n177 Try.ntmps177 (by simp only [List.cons_append, List.nil_append, List.length_cons, List.length_nil, Nat.zero_add, Nat.reduceAdd, Nat.reduceSub, List.replicate]; rfl) ?_; simp only [c177, go_sem, Nat.reduceAdd, Nat.reduceMul, Int.reduceToNat, Nat.reduceLeDiff, Int.reduceLE, Int.reduceLT, ↓reduceIte, Int.reduceBEq, Int.reduceBNe, Int.reduceAdd, Int.reduceSub, Int.reduceMul, qFin_ret, qFin_normal]; (try ((refine okTr_and ?_ ?_); (· rfl)))
  ((refine FinK.fin r177 [] ?_ ?_ ?_ ?_ ?_ ?_); (· decide); (· rfl); (· simp); (· rfl); (· first | with_reducible rfl | (simp [ints_nil, ren_lit, ren_ref, ren_any, ren_agg, ren_tup, ren_sl, ren_fn, tren_none, tren_full, tren_row, oren_cells, oren_row, oren_dead, ixs_z, ixs_1, ixs_2, ixs_3, ren_ints, List.map_cons, List.map_nil]; done) | rfl); (· simp [resAL, resA1, loadA, oneOr, ints_nil, ren_lit, ren_ref, ren_any, ren_agg, ren_tup, ren_sl, ren_fn, tren_none, tren_full, tren_row, oren_cells, oren_row, oren_dead, ixs_z, ixs_1, ixs_2, ixs_3, ren_ints, List.map_cons, List.map_nil]))
theorem crc_Begin : Ct Try.prog 177 [] [] (fun _ => wA 4294967295) [] (fun _ => []) := (crc_Begin0).toCt (by intros; simp [ints_nil, ren_lit, ren_ref, ren_any, ren_agg, ren_tup, ren_sl, ren_fn, tren_none, tren_full, tren_row, oren_cells, oren_row, oren_dead, ixs_z, ixs_1, ixs_2, ixs_3, ren_ints, List.map_cons, List.map_nil, ixs, List.range'_succ, ren_ints]) (by intros; simp [ints_nil, ren_lit, ren_ref, ren_any, ren_agg, ren_tup, ren_sl, ren_fn, tren_none, tren_full, tren_row, oren_cells, oren_row, oren_dead, ixs_z, ixs_1, ixs_2, ixs_3, ren_ints, List.map_cons, List.map_nil, ixs, List.range'_succ, ren_ints])
theorem crc_End0 (c : Nat) (hc : c < 4294967296) : Does Try.prog 175 [wA c] [] (.lit (.int .u32 (4294967295 - (c : Int)))) [] := by
  have e : bitsI .xor .u32 (if IntKind.u32.signed then -1 else IntKind.u32.max) (c : Int) = 4294967295 - (c : Int) := not32 c hc
  refine Does.run Try.func175 b175 n175 Try.ntmps175 (by simp only [List.cons_append, List.nil_append, List.length_cons, List.length_nil, Nat.zero_add, Nat.reduceAdd, Nat.reduceSub, List.replicate]; rfl) ?_; simp only [c175, go_sem, Nat.reduceAdd, Nat.reduceMul, Int.reduceToNat, Nat.reduceLeDiff, Int.reduceLE, Int.reduceLT, ↓reduceIte, Int.reduceBEq, Int.reduceBNe, Int.reduceAdd, Int.reduceSub, Int.reduceMul, qFin_ret, qFin_normal, e]; (try ((refine okTr_and ?_ ?_); (· rfl)))
  ((refine FinK.fin r175 [] ?_ ?_ ?_ ?_ ?_ ?_); (· decide); (· rfl); (· simp); (· rfl); (· first | with_reducible rfl | (simp [ints_nil, ren_lit, ren_ref, ren_any, ren_agg, ren_tup, ren_sl, ren_fn, tren_none, tren_full, tren_row, oren_cells, oren_row, oren_dead, ixs_z, ixs_1, ixs_2, ixs_3, ren_ints, List.map_cons, List.map_nil]; done) | rfl); (· simp [resAL, resA1, loadA, oneOr, ints_nil, ren_lit, ren_ref, ren_any, ren_agg, ren_tup, ren_sl, ren_fn, tren_none, tren_full, tren_row, oren_cells, oren_row, oren_dead, ixs_z, ixs_1, ixs_2, ixs_3, ren_ints, List.map_cons, List.map_nil]))
theorem crc_End (c : Nat) (hc : c < 4294967296) : Ct Try.prog 175 [wA c] [] (fun _ => .lit (.int .u32 (4294967295 - (c : Int)))) [] (fun _ => []) := (crc_End0 c hc).toCt (by intros; simp [ints_nil, ren_lit, ren_ref, ren_any, ren_agg, ren_tup, ren_sl, ren_fn, tren_none, tren_full, tren_row, oren_cells, oren_row, oren_dead, ixs_z, ixs_1, ixs_2, ixs_3, ren_ints, List.map_cons, List.map_nil, ixs, List.range'_succ, ren_ints]) (by intros; simp [ints_nil, ren_lit, ren_ref, ren_any, ren_agg, ren_tup, ren_sl, ren_fn, tren_none, tren_full, tren_row, oren_cells, oren_row, oren_dead, ixs_z, ixs_1, ixs_2, ixs_3, ren_ints, List.map_cons, List.map_nil, ixs, List.range'_succ, ren_ints])
abbrev sumA (l : List Int) : AV := .lit (.int .u32 (crcI l))
theorem crc_Sum0 (l : List Int) (hl : Bys l) (hn : l.length ≤ 140737488355328) : Does Try.prog 142 [slA .u8 l] [] (sumA l) [] := by
  have h := crcA_lt (c := 4294967295) (by omega) (nats_lt hl)
  refine Does.run Try.func142 b142 n142 Try.ntmps142 (by simp only [List.cons_append, List.nil_append, List.length_cons, List.length_nil, Nat.zero_add, Nat.reduceAdd, Nat.reduceSub, List.replicate]; rfl) ?_; simp only [c142, go_sem, Nat.reduceAdd, Nat.reduceMul, Int.reduceToNat, Nat.reduceLeDiff, Int.reduceLE, Int.reduceLT, ↓reduceIte, Int.reduceBEq, Int.reduceBNe, Int.reduceAdd, Int.reduceSub, Int.reduceMul, qFin_ret, qFin_normal]; (try ((refine okTr_and ?_ ?_); (· rfl)))
  refine CallK.p (crc_Begin) ?_; (simp only [go_sem, Nat.reduceAdd, Nat.reduceMul, Int.reduceToNat, Nat.reduceLeDiff, Int.reduceLE, Int.reduceLT, ↓reduceIte, Int.reduceBEq, Int.reduceBNe, Int.reduceAdd, Int.reduceSub, Int.reduceMul, qFin_ret, qFin_normal]; (try ((refine okTr_and ?_ ?_); (· rfl))))
  refine CallK.p (crc_Add 4294967295 l (by omega) hl hn) ?_; (simp only [go_sem, Nat.reduceAdd, Nat.reduceMul, Int.reduceToNat, Nat.reduceLeDiff, Int.reduceLE, Int.reduceLT, ↓reduceIte, Int.reduceBEq, Int.reduceBNe, Int.reduceAdd, Int.reduceSub, Int.reduceMul, qFin_ret, qFin_normal]; (try ((refine okTr_and ?_ ?_); (· rfl))))
  refine CallK.p (crc_End (crcA 4294967295 (nats l)) h) ?_; (simp only [go_sem, Nat.reduceAdd, Nat.reduceMul, Int.reduceToNat, Nat.reduceLeDiff, Int.reduceLE, Int.reduceLT, ↓reduceIte, Int.reduceBEq, Int.reduceBNe, Int.reduceAdd, Int.reduceSub, Int.reduceMul, qFin_ret, qFin_normal]; (try ((refine okTr_and ?_ ?_); (· rfl))))
  ((refine FinK.fin r142 [] ?_ ?_ ?_ ?_ ?_ ?_); (· decide); (· rfl); (· simp); (· rfl); (· first | with_reducible rfl | (simp [ints_nil, ren_lit, ren_ref, ren_any, ren_agg, ren_tup, ren_sl, ren_fn, tren_none, tren_full, tren_row, oren_cells, oren_row, oren_dead, ixs_z, ixs_1, ixs_2, ixs_3, ren_ints, List.map_cons, List.map_nil, crcI]; done) | rfl); (· simp [resAL, resA1, loadA, oneOr, ints_nil, ren_lit, ren_ref, ren_any, ren_agg, ren_tup, ren_sl, ren_fn, tren_none, tren_full, tren_row, oren_cells, oren_row, oren_dead, ixs_z, ixs_1, ixs_2, ixs_3, ren_ints, List.map_cons, List.map_nil, crcI]))
theorem crc_Sum (l : List Int) (hl : Bys l) (hn : l.length ≤ 140737488355328) : Ct Try.prog 142 [slA .u8 l] [] (fun _ => sumA l) [] (fun _ => []) := (crc_Sum0 l hl hn).toCt (by intros; simp [ints_nil, ren_lit, ren_ref, ren_any, ren_agg, ren_tup, ren_sl, ren_fn, tren_none, tren_full, tren_row, oren_cells, oren_row, oren_dead, ixs_z, ixs_1, ixs_2, ixs_3, ren_ints, List.map_cons, List.map_nil, ixs, List.range'_succ, ren_ints]) (by intros; simp [ints_nil, ren_lit, ren_ref, ren_any, ren_agg, ren_tup, ren_sl, ren_fn, tren_none, tren_full, tren_row, oren_cells, oren_row, oren_dead, ixs_z, ixs_1, ixs_2, ixs_3, ren_ints, List.map_cons, List.map_nil, ixs, List.range'_succ, ren_ints])
set_option maxRecDepth 100000 in
theorem ref07_into0 (c x : Nat) (hc : c < 4294967296) (hx : x < 256) : Does Try.prog 189 [wA c, u8A (x : Int)] [] (wA (cinto c x)) [] := by
  have e0 := u32_nat x (by omega)
  have e1 := xor32 c x hc (by omega)
  have hb := xor_lt hc (show x < 4294967296 by omega)
  have hce : cinto c x = csteps 8 (c ^^^ x) := rfl
  obtain ⟨b, hbe⟩ : ∃ b, c ^^^ x = b := ⟨_, rfl⟩
  rw [hbe] at e1 hb hce
  refine Does.run Try.func189 b189 n189 Try.ntmps189 (by simp only [List.cons_append, List.nil_append, List.length_cons, List.length_nil, Nat.zero_add, Nat.reduceAdd, Nat.reduceSub, List.replicate]; rfl) ?_; simp only [c189, go_sem, Nat.reduceAdd, Nat.reduceMul, Int.reduceToNat, Nat.reduceLeDiff, Int.reduceLE, Int.reduceLT, ↓reduceIte, Int.reduceBEq, Int.reduceBNe, Int.reduceAdd, Int.reduceSub, Int.reduceMul, qFin_ret, qFin_normal, e0, e1]; (try ((refine okTr_and ?_ ?_); (· rfl)))
  refine loop_of (α := Nat) (fun j => [wA (csteps j b), .any, .any, .any, .any, iA j, .any, .any, .any, .any, .any, .any, .any, .any, .any, .any, .any, .any, .any, .any, .any, .any, .any, .any]) (fun _ => []) (fun j => j ≤ 8) (fun j => 8 - j) 0 (by simp) (Wk.to (by simp) (by simp [leT, csteps])) ?_
  intro j hj
  have hs := csteps_lt j hb
  have hsn := csteps_snoc j b
  (simp only [go_sem, Nat.reduceAdd, Nat.reduceMul, Int.reduceToNat, Nat.reduceLeDiff, Int.reduceLE, Int.reduceLT, ↓reduceIte, Int.reduceBEq, Int.reduceBNe, Int.reduceAdd, Int.reduceSub, Int.reduceMul, qFin_ret, qFin_normal]; (try ((refine okTr_and ?_ ?_); (· rfl))))
  refine cdK_split (fun h => ?_) (fun h => ?_)
  · have hlt : j < 8 := by simp at h; omega
    have ej := i64_succ j (by omega)
    obtain ⟨d, hde⟩ : ∃ d, csteps j b = d := ⟨_, rfl⟩
    rw [hde] at hs hsn ⊢
    have em : (d : Int).tmod 2 = ((d % 2 : Nat) : Int) := by rw [Int.tmod_eq_emod_of_nonneg (by omega)]; omega
    have ed : IntKind.u32.wrap ((d : Int).tdiv 2) = ((d / 2 : Nat) : Int) := by rw [Int.tdiv_eq_ediv_of_nonneg (by omega), IntWalk.u32_in _ (by omega)]; omega
    have e3 : bitsI .xor .u32 ((d / 2 : Nat) : Int) 2197175160 = ((d / 2 ^^^ 2197175160 : Nat) : Int) := xor32 (d / 2) 2197175160 (by omega) (by omega)
    rw [step_eq] at hsn
    by_cases h1 : d % 2 = 1
    · have q : (((d % 2 : Nat) : Int) == 1) = true := by rw [h1]; rfl
      rw [if_pos h1] at hsn
      (simp only [go_sem, Nat.reduceAdd, Nat.reduceMul, Int.reduceToNat, Nat.reduceLeDiff, Int.reduceLE, Int.reduceLT, ↓reduceIte, Int.reduceBEq, Int.reduceBNe, Int.reduceAdd, Int.reduceSub, Int.reduceMul, qFin_ret, qFin_normal, em, ed, q, e3, ej]; (try ((refine okTr_and ?_ ?_); (· rfl))))
      (repeat ((with_reducible refine And.intro ?_ ?_); (· first | with_reducible assumption | omega | with_reducible rfl | (simp only [List.length_append, List.length_cons, List.length_nil, List.length_singleton]; omega) | (simp [ints_length, okEl_eq, AV.parts]; done) | (simp [ints_length, okEl_eq, AV.parts]; omega) | rfl)))
      exact ⟨j + 1, by omega, by omega, Wk.to (by simp) (by simp [leT, hsn])⟩
    · have q : (((d % 2 : Nat) : Int) == 1) = false := by simp only [beq_eq_false_iff_ne, ne_eq]; omega
      rw [if_neg h1] at hsn
      (simp only [go_sem, Nat.reduceAdd, Nat.reduceMul, Int.reduceToNat, Nat.reduceLeDiff, Int.reduceLE, Int.reduceLT, ↓reduceIte, Int.reduceBEq, Int.reduceBNe, Int.reduceAdd, Int.reduceSub, Int.reduceMul, qFin_ret, qFin_normal, em, ed, q, ej]; (try ((refine okTr_and ?_ ?_); (· rfl))))
      (repeat ((with_reducible refine And.intro ?_ ?_); (· first | with_reducible assumption | omega | with_reducible rfl | (simp only [List.length_append, List.length_cons, List.length_nil, List.length_singleton]; omega) | (simp [ints_length, okEl_eq, AV.parts]; done) | (simp [ints_length, okEl_eq, AV.parts]; omega) | rfl)))
      exact ⟨j + 1, by omega, by omega, Wk.to (by simp) (by simp [leT, hsn])⟩
  · have ej : j = 8 := by simp at h; omega
    subst ej
    (simp only [go_sem, Nat.reduceAdd, Nat.reduceMul, Int.reduceToNat, Nat.reduceLeDiff, Int.reduceLE, Int.reduceLT, ↓reduceIte, Int.reduceBEq, Int.reduceBNe, Int.reduceAdd, Int.reduceSub, Int.reduceMul, qFin_ret, qFin_normal]; (try ((refine okTr_and ?_ ?_); (· rfl))))
    ((refine FinK.fin r189 [] ?_ ?_ ?_ ?_ ?_ ?_); (· decide); (· rfl); (· simp); (· rfl); (· first | with_reducible rfl | (simp [ints_nil, ren_lit, ren_ref, ren_any, ren_agg, ren_tup, ren_sl, ren_fn, tren_none, tren_full, tren_row, oren_cells, oren_row, oren_dead, ixs_z, ixs_1, ixs_2, ixs_3, ren_ints, List.map_cons, List.map_nil, hce]; done) | rfl); (· simp [resAL, resA1, loadA, oneOr, ints_nil, ren_lit, ren_ref, ren_any, ren_agg, ren_tup, ren_sl, ren_fn, tren_none, tren_full, tren_row, oren_cells, oren_row, oren_dead, ixs_z, ixs_1, ixs_2, ixs_3, ren_ints, List.map_cons, List.map_nil, hce]))
theorem ref07_into (c x : Nat) (hc : c < 4294967296) (hx : x < 256) : Ct Try.prog 189 [wA c, u8A (x : Int)] [] (fun _ => wA (cinto c x)) [] (fun _ => []) := (ref07_into0 c x hc hx).toCt (by intros; simp [ints_nil, ren_lit, ren_ref, ren_any, ren_agg, ren_tup, ren_sl, ren_fn, tren_none, tren_full, tren_row, oren_cells, oren_row, oren_dead, ixs_z, ixs_1, ixs_2, ixs_3, ren_ints, List.map_cons, List.map_nil, ixs, List.range'_succ, ren_ints]) (by intros; simp [ints_nil, ren_lit, ren_ref, ren_any, ren_agg, ren_tup, ren_sl, ren_fn, tren_none, tren_full, tren_row, oren_cells, oren_row, oren_dead, ixs_z, ixs_1, ixs_2, ixs_3, ren_ints, List.map_cons, List.map_nil, ixs, List.range'_succ, ren_ints])
theorem ref07_Add0 (c : Nat) (l : List Int) (hc : c < 4294967296) (hl : Bys l) (hn : l.length ≤ 140737488355328) : Does Try.prog 179 [wA c, slA .u8 l] [] (wA (crcA c (nats l))) [] := by
  refine Does.run Try.func179 b179 n179 Try.ntmps179 (by simp only [List.cons_append, List.nil_append, List.length_cons, List.length_nil, Nat.zero_add, Nat.reduceAdd, Nat.reduceSub, List.replicate]; rfl) ?_; simp only [c179, go_sem, Nat.reduceAdd, Nat.reduceMul, Int.reduceToNat, Nat.reduceLeDiff, Int.reduceLE, Int.reduceLT, ↓reduceIte, Int.reduceBEq, Int.reduceBNe, Int.reduceAdd, Int.reduceSub, Int.reduceMul, qFin_ret, qFin_normal]; (try ((refine okTr_and ?_ ?_); (· rfl)))
  refine loop_of (α := Nat) (fun k => [wA (crcA c (nats (l.take k))), slA .u8 l, .any, .any, .any, iA k, .any, .any, .any, .any, .any, .any, .any, .any, .any, .any, .any, .any, .any]) (fun _ => []) (fun k => k ≤ l.length) (fun k => l.length - k) 0 (by simp) (Wk.to (by simp) (by simp [leT, nats, crcA])) ?_
  intro k hk
  (simp only [go_sem, Nat.reduceAdd, Nat.reduceMul, Int.reduceToNat, Nat.reduceLeDiff, Int.reduceLE, Int.reduceLT, ↓reduceIte, Int.reduceBEq, Int.reduceBNe, Int.reduceAdd, Int.reduceSub, Int.reduceMul, qFin_ret, qFin_normal, ints_length]; (try ((refine okTr_and ?_ ?_); (· rfl))))
  refine cdK_split (fun h => ?_) (fun h => ?_)
  · have hlt : k < l.length := by simpa using h
    have ek := i64_succ k (by omega)
    have g := u8_get l (k : Int) (by omega) (by omega)
    have hx := hl _ (getD_mem l k hlt)
    have hst := nats_take l k hlt
    have ha := crcA_lt hc (l := nats (l.take k)) (fun x hx => nats_lt hl x (by
      simp only [nats, List.mem_map] at hx ⊢
      obtain ⟨y, hy, rfl⟩ := hx
      exact ⟨y, List.mem_of_mem_take hy, rfl⟩))
    rw [Int.toNat_natCast] at g
    obtain ⟨x, hxe⟩ : ∃ x : Nat, l.getD k 0 = (x : Int) := ⟨(l.getD k 0).toNat, by omega⟩
    rw [hxe] at g hx hst
    rw [Int.toNat_natCast] at hst
    have he : crcA c (nats (l.take (k + 1))) = cinto (crcA c (nats (l.take k))) x := by rw [hst, crcA_snoc]
    (simp only [go_sem, Nat.reduceAdd, Nat.reduceMul, Int.reduceToNat, Nat.reduceLeDiff, Int.reduceLE, Int.reduceLT, ↓reduceIte, Int.reduceBEq, Int.reduceBNe, Int.reduceAdd, Int.reduceSub, Int.reduceMul, qFin_ret, qFin_normal, g, ints_length, Int.toNat_natCast]; (try ((refine okTr_and ?_ ?_); (· rfl))))
    (repeat ((with_reducible refine And.intro ?_ ?_); (· first | with_reducible assumption | omega | with_reducible rfl | (simp only [List.length_append, List.length_cons, List.length_nil, List.length_singleton]; omega) | (simp [ints_length, okEl_eq, AV.parts]; done) | (simp [ints_length, okEl_eq, AV.parts]; omega) | rfl)))
    refine CallK.p (ref07_into (crcA c (nats (l.take k))) x ha (by omega)) ?_; (simp only [go_sem, Nat.reduceAdd, Nat.reduceMul, Int.reduceToNat, Nat.reduceLeDiff, Int.reduceLE, Int.reduceLT, ↓reduceIte, Int.reduceBEq, Int.reduceBNe, Int.reduceAdd, Int.reduceSub, Int.reduceMul, qFin_ret, qFin_normal, ek]; (try ((refine okTr_and ?_ ?_); (· rfl))))
    exact ⟨k + 1, by omega, by omega, Wk.to (by simp) (by simp [leT, he])⟩
  · have ek : k = l.length := by simp at h; omega
    subst ek
    (simp only [go_sem, Nat.reduceAdd, Nat.reduceMul, Int.reduceToNat, Nat.reduceLeDiff, Int.reduceLE, Int.reduceLT, ↓reduceIte, Int.reduceBEq, Int.reduceBNe, Int.reduceAdd, Int.reduceSub, Int.reduceMul, qFin_ret, qFin_normal]; (try ((refine okTr_and ?_ ?_); (· rfl))))
    ((refine FinK.fin r179 [] ?_ ?_ ?_ ?_ ?_ ?_); (· decide); (· rfl); (· simp); (· rfl); (· first | with_reducible rfl | (simp [ints_nil, ren_lit, ren_ref, ren_any, ren_agg, ren_tup, ren_sl, ren_fn, tren_none, tren_full, tren_row, oren_cells, oren_row, oren_dead, ixs_z, ixs_1, ixs_2, ixs_3, ren_ints, List.map_cons, List.map_nil, List.take_length]; done) | rfl); (· simp [resAL, resA1, loadA, oneOr, ints_nil, ren_lit, ren_ref, ren_any, ren_agg, ren_tup, ren_sl, ren_fn, tren_none, tren_full, tren_row, oren_cells, oren_row, oren_dead, ixs_z, ixs_1, ixs_2, ixs_3, ren_ints, List.map_cons, List.map_nil, List.take_length]))
theorem ref07_Add (c : Nat) (l : List Int) (hc : c < 4294967296) (hl : Bys l) (hn : l.length ≤ 140737488355328) : Ct Try.prog 179 [wA c, slA .u8 l] [] (fun _ => wA (crcA c (nats l))) [] (fun _ => []) := (ref07_Add0 c l hc hl hn).toCt (by intros; simp [ints_nil, ren_lit, ren_ref, ren_any, ren_agg, ren_tup, ren_sl, ren_fn, tren_none, tren_full, tren_row, oren_cells, oren_row, oren_dead, ixs_z, ixs_1, ixs_2, ixs_3, ren_ints, List.map_cons, List.map_nil, ixs, List.range'_succ, ren_ints]) (by intros; simp [ints_nil, ren_lit, ren_ref, ren_any, ren_agg, ren_tup, ren_sl, ren_fn, tren_none, tren_full, tren_row, oren_cells, oren_row, oren_dead, ixs_z, ixs_1, ixs_2, ixs_3, ren_ints, List.map_cons, List.map_nil, ixs, List.range'_succ, ren_ints])
theorem ref07_Sum0 (l : List Int) (hl : Bys l) (hn : l.length ≤ 140737488355328) : Does Try.prog 148 [slA .u8 l] [] (sumA l) [] := by
  have h := crcI_range hl
  have e : IntKind.u32.wrap (4294967295 - ((crcA 4294967295 (nats l) : Nat) : Int)) = crcI l := IntWalk.u32_in _ (by unfold crcI at h; omega)
  refine Does.run Try.func148 b148 n148 Try.ntmps148 (by simp only [List.cons_append, List.nil_append, List.length_cons, List.length_nil, Nat.zero_add, Nat.reduceAdd, Nat.reduceSub, List.replicate]; rfl) ?_; simp only [c148, go_sem, Nat.reduceAdd, Nat.reduceMul, Int.reduceToNat, Nat.reduceLeDiff, Int.reduceLE, Int.reduceLT, ↓reduceIte, Int.reduceBEq, Int.reduceBNe, Int.reduceAdd, Int.reduceSub, Int.reduceMul, qFin_ret, qFin_normal]; (try ((refine okTr_and ?_ ?_); (· rfl)))
  refine CallK.p (ref07_Add 4294967295 l (by omega) hl hn) ?_; (simp only [go_sem, Nat.reduceAdd, Nat.reduceMul, Int.reduceToNat, Nat.reduceLeDiff, Int.reduceLE, Int.reduceLT, ↓reduceIte, Int.reduceBEq, Int.reduceBNe, Int.reduceAdd, Int.reduceSub, Int.reduceMul, qFin_ret, qFin_normal, e]; (try ((refine okTr_and ?_ ?_); (· rfl))))
  ((refine FinK.fin r148 [] ?_ ?_ ?_ ?_ ?_ ?_); (· decide); (· rfl); (· simp); (· rfl); (· first | with_reducible rfl | (simp [ints_nil, ren_lit, ren_ref, ren_any, ren_agg, ren_tup, ren_sl, ren_fn, tren_none, tren_full, tren_row, oren_cells, oren_row, oren_dead, ixs_z, ixs_1, ixs_2, ixs_3, ren_ints, List.map_cons, List.map_nil]; done) | rfl); (· simp [resAL, resA1, loadA, oneOr, ints_nil, ren_lit, ren_ref, ren_any, ren_agg, ren_tup, ren_sl, ren_fn, tren_none, tren_full, tren_row, oren_cells, oren_row, oren_dead, ixs_z, ixs_1, ixs_2, ixs_3, ren_ints, List.map_cons, List.map_nil]))
theorem ref07_Sum (l : List Int) (hl : Bys l) (hn : l.length ≤ 140737488355328) : Ct Try.prog 148 [slA .u8 l] [] (fun _ => sumA l) [] (fun _ => []) := (ref07_Sum0 l hl hn).toCt (by intros; simp [ints_nil, ren_lit, ren_ref, ren_any, ren_agg, ren_tup, ren_sl, ren_fn, tren_none, tren_full, tren_row, oren_cells, oren_row, oren_dead, ixs_z, ixs_1, ixs_2, ixs_3, ren_ints, List.map_cons, List.map_nil, ixs, List.range'_succ, ren_ints]) (by intros; simp [ints_nil, ren_lit, ren_ref, ren_any, ren_agg, ren_tup, ren_sl, ren_fn, tren_none, tren_full, tren_row, oren_cells, oren_row, oren_dead, ixs_z, ixs_1, ixs_2, ixs_3, ren_ints, List.map_cons, List.map_nil, ixs, List.range'_succ, ren_ints])
theorem sum_u64 {l : List Int} (hl : Bys l) : IntKind.u64.wrap (crcI l) = crcI l := by
  have := crcI_range hl
  exact IntWalk.u64_in _ (by omega)
theorem turnN_get (l : List Nat) (at_ : Int) (d k : Nat) (h : k < l.length) : (turnN l at_ d).getD k 0 = tbyte (l.getD k 0) (fun j => isT at_ d (8 * k + j)) 8 := by
  simp [turnN, h]
theorem turnB_take (l : List Int) (at_ : Int) (d k : Nat) (h : k < l.length) : (turnB l at_ d).take (k + 1) = (turnB l at_ d).take k ++ [((tbyte (l.getD k 0).toNat (fun j => isT at_ d (8 * k + j)) 8 : Nat) : Int)] := by
  rw [take_snoc _ k (by rw [turnB_len]; exact h)]
  congr 2
  have : (turnB l at_ d).getD k 0 = (((turnN (nats l) at_ d).getD k 0 : Nat) : Int) := by
    unfold turnB
    simp only [List.getD_eq_getElem?_getD, List.getElem?_map]
    cases (turnN (nats l) at_ d)[k]? <;> rfl
  rw [this, turnN_get _ _ _ _ (by rw [nats_len]; exact h), nats_getD]
end Go.Proofs.Ytkhnfleejgfhgaa
