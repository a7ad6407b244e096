/-
  Contracts of chapter 35: which segments of the version 1 are well-formed, which are the same.
  Contracts of chapter 35: segments of the version 1, the same or not; by the reference; long ones.
  Contracts that turn three or four objects; a value of which nothing is told. Over any program.
  Contracts of chapters 3 and 7: sums of bytes, by the code and by the reference; bytes some of whose digits are turned; a number's bytes.
  Contracts of chapter 8: frames, by the code and by the reference.
  Contracts of header's functions.
  Contracts of header's reading functions.
  Contracts of the reference's headers; live.
  Contracts of footer's checks and of its payload's reading, and of the reference's.
  Contracts of footer's payload's reading, and of the reference's.
  Contracts of chapter 35: how a segment of the version 1 is read, step by step.
  Contracts of chapter 35: a segment of the version 1 read.
  Contracts of chapter 35: a segment of the version 1 read by the reference.
  Contracts of footer's trailer and of the reference's payload; live.
  Contracts of the reference's footers, written.
  Contracts of footers' writing.
  Contracts of chapter 35: a segment of the version 1 written; by the reference.
  Contracts of chapter 35: well-formed by the reference; live.
  Contracts of chapter 35: links, entries, batches, the same or not.
-/
import Derived.Test.YtnfagphepkeedaaGreatB2
import Derived.Test.YtnfagphepkeedaaGreatB3
import Derived.Test.YtnfagphepkeedaaGreatB1
set_option linter.all false
set_option linter.unusedSimpArgs false
set_option linter.unusedVariables false
set_option linter.unnecessarySimpa false
section
namespace Go.Proofs.YtnfagphepkeedaaGreat
open Go.RowKit

abbrev oA (x : O1) : AV := .agg [uA x.st, uA x.bk, bA x.hb, slA .u8 x.data]
def o1s (l : List O1) : List AV := l.map oA
abbrev slO (l : List O1) : AV := .sl .none 4 (o1s l)
abbrev sg1A (u : Sg1) : AV := .agg [uA u.ep, uA u.base, slO u.en]
abbrev sg1O (u : Sg1) : AObj := .cells [uA u.ep, uA u.base, slO u.en]
theorem o1s_length (l : List O1) : (o1s l).length = l.length := by simp [o1s]
theorem o1s_nil : o1s [] = [] := (rfl)
theorem o1s_get (l : List O1) (k : Nat) (h : k < l.length) : (o1s l).getD k .any = oA (l.getD k o10) := by simp [o1s, h]
theorem o1s_snoc (l : List O1) (x : O1) : o1s l ++ [oA x] = o1s (l ++ [x]) := by simp [o1s]
@[simp] theorem ren_o1s (ρ : Nat → Nat) (l : List O1) : (o1s l).map (fun x => x.ren ρ) = o1s l := by
  simp [o1s, Function.comp_def, ixs_z, ren_ints]
theorem sg1O_ren (u : Sg1) (ρ : Nat → Nat) : (sg1O u).ren ρ = sg1O u := by simp [ixs_z]
structure Small1 (u : Sg1) : Prop where
  b0 : 0 ≤ u.base
  b1 : u.base < 18446744073709551616
  n : u.en.length ≤ 1000000
  s : sumO u.en ≤ 100000000000
theorem legacy_numbered0 (base n : Int) (b0 : 0 ≤ base) (b1 : base < 18446744073709551616) (n0 : 0 ≤ n) (n1 : n ≤ 1000000000) : Does Tryz.prog 73 [uA base, iA n] [] (bA (fitsB base n)) [] := by
  have w0 : IntKind.u64.wrap n = n := IntWalk.u64_in _ (by omega)
  refine Does.runA Tryz.func73 b73 n73 Tryz.ntmps73 ?_; simp only [c73, go_sem, Nat.reduceAdd, Nat.reduceMul, Int.reduceToNat, Nat.reduceLeDiff, Int.reduceLE, Int.reduceLT, ↓reduceIte, Int.reduceBEq, Int.reduceBNe, Int.reduceAdd, Int.reduceSub, Int.reduceMul]; try refine okTr_and rfl ?_
  refine CallK.p (epoch_Pos base) ?_
  by_cases h : base < 4611686018427387904
  · have e : epPos base = true := epPos_iff.2 h
    have w1 : IntKind.u64.wrap (base + n) = base + n := IntWalk.u64_in _ (by omega)
    have ef : decide (base + n ≤ 4611686018427387904) = fitsB base n := by unfold fitsB; rw [decide_eq_true h]; rfl
    (simp only [go_sem, Nat.reduceAdd, Nat.reduceMul, Int.reduceToNat, Nat.reduceLeDiff, Int.reduceLE, Int.reduceLT, ↓reduceIte, Int.reduceBEq, Int.reduceBNe, Int.reduceAdd, Int.reduceSub, Int.reduceMul, e, w0, w1, ef]; try refine okTr_and rfl ?_)
    exact FinK.finA r73 []
  · have e : epPos base = false := by unfold epPos; exact decide_eq_false h
    have ef : fitsB base n = false := by unfold fitsB; rw [decide_eq_false h]; rfl
    (simp only [go_sem, Nat.reduceAdd, Nat.reduceMul, Int.reduceToNat, Nat.reduceLeDiff, Int.reduceLE, Int.reduceLT, ↓reduceIte, Int.reduceBEq, Int.reduceBNe, Int.reduceAdd, Int.reduceSub, Int.reduceMul, e]; try refine okTr_and rfl ?_)
    ((refine FinK.finB r73 [] ?_ ?_); (· first | with_reducible rfl | (simp [ef]; done) | rfl); (· simp [resAL, resA1, loadA, oneOr, ef]))
theorem legacy_numbered (base n : Int) (b0 : 0 ≤ base) (b1 : base < 18446744073709551616) (n0 : 0 ≤ n) (n1 : n ≤ 1000000000) : Ct Tryz.prog 73 [uA base, iA n] [] (fun _ => bA (fitsB base n)) [] (fun _ => []) := (legacy_numbered0 base n b0 b1 n0 n1).toCt cl cl
theorem legacy_total0 (l : List O1) (hn : l.length ≤ 1000000) (hs : sumO l ≤ 100000000000) : Does Tryz.prog 67 [slO l] [] (iA (sumO l)) [] := by
  refine Does.runA Tryz.func67 b67 n67 Tryz.ntmps67 ?_; simp only [c67, go_sem, Nat.reduceAdd, Nat.reduceMul, Int.reduceToNat, Nat.reduceLeDiff, Int.reduceLE, Int.reduceLT, ↓reduceIte, Int.reduceBEq, Int.reduceBNe, Int.reduceAdd, Int.reduceSub, Int.reduceMul, o1s_length]; try refine okTr_and rfl ?_
  refine loop_of (α := Nat) (fun k => [.any, .any, .any, iA (sumO (l.take k)), .any, .any, slO l, iA l.length, iA k, .any, .any, .any, .any, .any, .any, .any, .any, .any, .any]) (fun _ => []) (fun k => k ≤ l.length) (fun k => l.length - k) 0 (by simp) (Wk.to (by simp) (by simp [leT, sumO])) ?_
  intro k hk
  (simp only [go_sem, Nat.reduceAdd, Nat.reduceMul, Int.reduceToNat, Nat.reduceLeDiff, Int.reduceLE, Int.reduceLT, ↓reduceIte, Int.reduceBEq, Int.reduceBNe, Int.reduceAdd, Int.reduceSub, Int.reduceMul]; try refine okTr_and rfl ?_)
  by_cases hlt : k < l.length
  · have q1 : decide ((k : Int) < (l.length : Int)) = true := decide_eq_true (by omega)
    have ek := i64_succ k (by omega)
    have g := o1s_get l k hlt
    have st := sumO_take l k hlt
    have le := sumO_le l (k + 1)
    have ge := sumO_ge (l.take k)
    have w : IntKind.i64.wrap (sumO (l.take k) + ((l.getD k o10).data.length : Int)) = sumO (l.take (k + 1)) := by rw [IntWalk.i64_in _ (by omega)]; omega
    (simp only [go_sem, Nat.reduceAdd, Nat.reduceMul, Int.reduceToNat, Nat.reduceLeDiff, Int.reduceLE, Int.reduceLT, ↓reduceIte, Int.reduceBEq, Int.reduceBNe, Int.reduceAdd, Int.reduceSub, Int.reduceMul, q1, g, o1s_length, Int.toNat_natCast, ints_length, w, ek]; try refine okTr_and rfl ?_)
    (repeat ((with_reducible refine And.intro ?_ ?_); (· exact sd)))
    exact ⟨k + 1, hlt, by omega, Wk.sel [] (by simp) rfl (by simp) rfl (by simp) (by simp [selT, ixs_z])⟩
  · have q1 : decide ((k : Int) < (l.length : Int)) = false := decide_eq_false (by omega)
    have e : l.take k = l := List.take_of_length_le (by omega)
    (simp only [go_sem, Nat.reduceAdd, Nat.reduceMul, Int.reduceToNat, Nat.reduceLeDiff, Int.reduceLE, Int.reduceLT, ↓reduceIte, Int.reduceBEq, Int.reduceBNe, Int.reduceAdd, Int.reduceSub, Int.reduceMul, q1]; try refine okTr_and rfl ?_)
    ((refine FinK.finB r67 [] ?_ ?_); (· first | with_reducible rfl | (simp [e]; done) | rfl); (· simp [resAL, resA1, loadA, oneOr, e]))
theorem legacy_total (l : List O1) (hn : l.length ≤ 1000000) (hs : sumO l ≤ 100000000000) : Ct Tryz.prog 67 [slO l] [] (fun _ => iA (sumO l)) [] (fun _ => []) := (legacy_total0 l hn hs).toCt cl cl
def goodAt (u : Sg1) (k : Nat) (x : O1) : Bool := goodO (IntKind.u64.wrap (u.base + k)) x
theorem legacy_Right110 (u : Sg1) (k : Nat) (x : O1) (hk : k ≤ 1000000) : Does Tryz.prog 75 [iA k, oA x, .ref 0 0] [sg1O u] (bA (goodAt u k x)) [sg1O u] := by
  have w0 : IntKind.u64.wrap (k : Int) = k := IntWalk.u64_in _ (by omega)
  refine Does.runA Tryz.func75 b75 n75 Tryz.ntmps75 ?_; simp only [c75, go_sem, Nat.reduceAdd, Nat.reduceMul, Int.reduceToNat, Nat.reduceLeDiff, Int.reduceLE, Int.reduceLT, ↓reduceIte, Int.reduceBEq, Int.reduceBNe, Int.reduceAdd, Int.reduceSub, Int.reduceMul]; try refine okTr_and rfl ?_
  cases hb : x.hb with
  | true =>
    have e : decide (x.bk < IntKind.u64.wrap (u.base + k)) = goodAt u k x := by unfold goodAt goodO; rw [hb]; rfl
    cases h : decide (x.bk < IntKind.u64.wrap (u.base + k)) with
    | true =>
      rw [h] at e
      (simp only [go_sem, Nat.reduceAdd, Nat.reduceMul, Int.reduceToNat, Nat.reduceLeDiff, Int.reduceLE, Int.reduceLT, ↓reduceIte, Int.reduceBEq, Int.reduceBNe, Int.reduceAdd, Int.reduceSub, Int.reduceMul, hb, w0, h]; try refine okTr_and rfl ?_)
      ((refine FinK.finB r75 [0] ?_ ?_); (· first | with_reducible rfl | (simp [← e]; done) | rfl); (· simp [resAL, resA1, loadA, oneOr, ← e]))
    | false =>
      rw [h] at e
      (simp only [go_sem, Nat.reduceAdd, Nat.reduceMul, Int.reduceToNat, Nat.reduceLeDiff, Int.reduceLE, Int.reduceLT, ↓reduceIte, Int.reduceBEq, Int.reduceBNe, Int.reduceAdd, Int.reduceSub, Int.reduceMul, hb, w0, h]; try refine okTr_and rfl ?_)
      ((refine FinK.finB r75 [0] ?_ ?_); (· first | with_reducible rfl | (simp [← e]; done) | rfl); (· simp [resAL, resA1, loadA, oneOr, ← e]))
  | false =>
    have e : (x.bk == 0) = goodAt u k x := by
      unfold goodAt goodO; rw [hb]
      simp only [Bool.false_eq_true, if_false]
      rw [Bool.eq_iff_iff, beq_iff_eq, decide_eq_true_eq]
    (simp only [go_sem, Nat.reduceAdd, Nat.reduceMul, Int.reduceToNat, Nat.reduceLeDiff, Int.reduceLE, Int.reduceLT, ↓reduceIte, Int.reduceBEq, Int.reduceBNe, Int.reduceAdd, Int.reduceSub, Int.reduceMul, hb, e]; try refine okTr_and rfl ?_)
    exact FinK.finA r75 [0]
theorem legacy_Right11 (u : Sg1) (k : Nat) (x : O1) (hk : k ≤ 1000000) (i : Nat) : Ct Tryz.prog 75 [iA k, oA x, .ref i 0] [(i, sg1O u)] (fun _ => bA (goodAt u k x)) [] (fun _ => []) :=
  Ct.r1 (legacy_Right110 u k x hk) i cl (sg1O_ren u) (by simp) clo
/-- Do all of some things, each by its place, pass? -/
def allO (ok : Nat → O1 → Bool) (l : List O1) : Bool := (List.range l.length).all fun i => ok i (l.getD i o10)
theorem allO_iff {ok : Nat → O1 → Bool} {l : List O1} : allO ok l = true ↔ ∀ i, i < l.length → ok i (l.getD i o10) = true := by
  simp only [allO, List.all_eq_true, List.mem_range]
theorem legacy_allO0 (f : FuncId) (o : AObj) (ok : Nat → O1 → Bool) (ho : ∀ ρ, o.ren ρ = o) (hd : o ≠ .dead) (l : List O1) (hf : ∀ k, k < l.length → ∀ i, Ct Tryz.prog f [iA k, oA (l.getD k o10), .ref i 0] [(i, o)] (fun _ => bA (ok k (l.getD k o10))) [] (fun _ => [])) (hn : l.length ≤ 1000000) :
    Does Tryz.prog 74 [slO l, .fn f [] [.ref 0 0]] [o] (bA (allO ok l)) [o] := by
  refine Does.runA Tryz.func74 b74 n74 Tryz.ntmps74 ?_; simp only [c74, go_sem, Nat.reduceAdd, Nat.reduceMul, Int.reduceToNat, Nat.reduceLeDiff, Int.reduceLE, Int.reduceLT, ↓reduceIte, Int.reduceBEq, Int.reduceBNe, Int.reduceAdd, Int.reduceSub, Int.reduceMul, o1s_length]; try refine okTr_and rfl ?_
  refine loop_of (α := Nat) (fun k => [slO l, .fn f [] [.ref 0 0], .any, .any, .any, .any, .any, slO l, iA l.length, iA k, .any, .any, .any, .any, .any, .any, .any, .any, .any, .any]) (fun _ => [o]) (fun k => k ≤ l.length ∧ ∀ i, i < k → ok i (l.getD i o10) = true) (fun k => l.length - k) 0 ⟨by simp, fun i hi => by omega⟩ (Wk.to (by simp) (by simp [leT])) ?_
  rintro k ⟨hk, hall⟩
  (simp only [go_sem, Nat.reduceAdd, Nat.reduceMul, Int.reduceToNat, Nat.reduceLeDiff, Int.reduceLE, Int.reduceLT, ↓reduceIte, Int.reduceBEq, Int.reduceBNe, Int.reduceAdd, Int.reduceSub, Int.reduceMul]; try refine okTr_and rfl ?_)
  by_cases hlt : k < l.length
  · have q1 : decide ((k : Int) < (l.length : Int)) = true := decide_eq_true (by omega)
    have ek := i64_succ k (by omega)
    have g := o1s_get l k hlt
    have hfx := hf k hlt 0
    (simp only [go_sem, Nat.reduceAdd, Nat.reduceMul, Int.reduceToNat, Nat.reduceLeDiff, Int.reduceLE, Int.reduceLT, ↓reduceIte, Int.reduceBEq, Int.reduceBNe, Int.reduceAdd, Int.reduceSub, Int.reduceMul, q1, g, o1s_length, Int.toNat_natCast]; try refine okTr_and rfl ?_)
    (repeat ((with_reducible refine And.intro ?_ ?_); (· exact sd)))
    refine CallK.r1 (hfx) rfl ?_
    cases hs : ok k (l.getD k o10) with
    | false =>
      have e : allO ok l = false := by
        cases ha : allO ok l with
        | false => rfl
        | true => rw [allO_iff.1 ha k hlt] at hs; cases hs
      (simp only [go_sem, Nat.reduceAdd, Nat.reduceMul, Int.reduceToNat, Nat.reduceLeDiff, Int.reduceLE, Int.reduceLT, ↓reduceIte, Int.reduceBEq, Int.reduceBNe, Int.reduceAdd, Int.reduceSub, Int.reduceMul, hs]; try refine okTr_and rfl ?_)
      ((refine FinK.finB r74 [0] ?_ ?_); (· first | with_reducible rfl | (simp [e, ho]; done) | rfl); (· simp [resAL, resA1, loadA, oneOr, e, ho]))
    | true =>
      (simp only [go_sem, Nat.reduceAdd, Nat.reduceMul, Int.reduceToNat, Nat.reduceLeDiff, Int.reduceLE, Int.reduceLT, ↓reduceIte, Int.reduceBEq, Int.reduceBNe, Int.reduceAdd, Int.reduceSub, Int.reduceMul, hs, ek]; try refine okTr_and rfl ?_)
      exact ⟨k + 1, ⟨hlt, fun i hi => by
        rcases Nat.lt_or_ge i k with h | h
        · exact hall i h
        · obtain rfl : i = k := by omega
          exact hs⟩, by omega, Wk.sel [0] (by simp) rfl (by simp) rfl (by simp [ho]) (by simp [selT, ixs_z])⟩
  · have q1 : decide ((k : Int) < (l.length : Int)) = false := decide_eq_false (by omega)
    have e : allO ok l = true := allO_iff.2 fun i hi => hall i (by omega)
    (simp only [go_sem, Nat.reduceAdd, Nat.reduceMul, Int.reduceToNat, Nat.reduceLeDiff, Int.reduceLE, Int.reduceLT, ↓reduceIte, Int.reduceBEq, Int.reduceBNe, Int.reduceAdd, Int.reduceSub, Int.reduceMul, q1]; try refine okTr_and rfl ?_)
    ((refine FinK.finB r74 [0] ?_ ?_); (· first | with_reducible rfl | (simp [e, ho]; done) | rfl); (· simp [resAL, resA1, loadA, oneOr, e, ho]))
theorem legacy_allO (f : FuncId) (o : AObj) (ok : Nat → O1 → Bool) (ho : ∀ ρ, o.ren ρ = o) (hd : o ≠ .dead) (l : List O1) (hf : ∀ k, k < l.length → ∀ i, Ct Tryz.prog f [iA k, oA (l.getD k o10), .ref i 0] [(i, o)] (fun _ => bA (ok k (l.getD k o10))) [] (fun _ => [])) (hn : l.length ≤ 1000000) (i : Nat) :
    Ct Tryz.prog 74 [slO l, .fn f [] [.ref i 0]] [(i, o)] (fun _ => bA (allO ok l)) [] (fun _ => []) := Ct.r1 (legacy_allO0 f o ok ho hd l hf hn) i cl ho hd clo
theorem right1_no {u : Sg1} (h : epRight u.ep = false ∨ 400 < u.en.length ∨ fitsB u.base u.en.length = false ∨ 1048576 < sumO u.en) : right1 u = false := by
  cases hr : right1 u with
  | false => rfl
  | true =>
    exfalso
    unfold right1 at hr
    simp only [Bool.and_eq_true, decide_eq_true_eq] at hr
    obtain ⟨⟨⟨⟨a, b⟩, c⟩, d⟩, e⟩ := hr
    rcases h with h | h | h | h
    · rw [h] at a; cases a
    · omega
    · rw [h] at c; cases c
    · omega
theorem right1_yes {u : Sg1} (b0 : 0 ≤ u.base) (h1 : epRight u.ep = true) (h2 : u.en.length ≤ 400) (h3 : fitsB u.base u.en.length = true) (h4 : sumO u.en ≤ 1048576) : right1 u = allO (goodAt u) u.en := by
  obtain ⟨f1, f2⟩ := fitsB_iff.1 h3
  have key : ∀ i, i < u.en.length → goodAt u i (u.en.getD i o10) = goodO (u.base + i) (u.en.getD i o10) := fun i hi => by
    unfold goodAt; rw [IntWalk.u64_in _ (by omega)]
  rw [Bool.eq_iff_iff, right1_iff, allO_iff]
  constructor
  · rintro ⟨_, _, _, _, h5⟩ i hi
    rw [key i hi]; exact h5 i hi
  · intro h5
    exact ⟨epRight_iff.1 h1, h2, ⟨f1, f2⟩, h4, fun i hi => by rw [← key i hi]; exact h5 i hi⟩
theorem legacy_Right10 (u : Sg1) (hs : Small1 u) : Does Tryz.prog 16 [sg1A u] [] (bA (right1 u)) [] := by
  obtain ⟨b0, b1, n1, s1⟩ := hs
  refine Does.runA Tryz.func16 b16 n16 Tryz.ntmps16 ?_; simp only [c16, go_sem, Nat.reduceAdd, Nat.reduceMul, Int.reduceToNat, Nat.reduceLeDiff, Int.reduceLE, Int.reduceLT, ↓reduceIte, Int.reduceBEq, Int.reduceBNe, Int.reduceAdd, Int.reduceSub, Int.reduceMul]; try refine okTr_and rfl ?_
  refine CallK.p (epoch_Right u.ep) ?_
  cases h1 : epRight u.ep with
  | false =>
    have e := right1_no (u := u) (.inl h1)
    (simp only [go_sem, Nat.reduceAdd, Nat.reduceMul, Int.reduceToNat, Nat.reduceLeDiff, Int.reduceLE, Int.reduceLT, ↓reduceIte, Int.reduceBEq, Int.reduceBNe, Int.reduceAdd, Int.reduceSub, Int.reduceMul, h1]; try refine okTr_and rfl ?_)
    ((refine FinK.finB r16 [] ?_ ?_); (· first | with_reducible rfl | (simp [e]; done) | rfl); (· simp [resAL, resA1, loadA, oneOr, e]))
  | true =>
    by_cases h2 : u.en.length ≤ 400
    · have q2 : decide (400 < (u.en.length : Int)) = false := decide_eq_false (by omega)
      (simp only [go_sem, Nat.reduceAdd, Nat.reduceMul, Int.reduceToNat, Nat.reduceLeDiff, Int.reduceLE, Int.reduceLT, ↓reduceIte, Int.reduceBEq, Int.reduceBNe, Int.reduceAdd, Int.reduceSub, Int.reduceMul, h1, o1s_length, q2]; try refine okTr_and rfl ?_)
      refine CallK.p (legacy_numbered u.base u.en.length b0 b1 (by omega) (by omega)) ?_
      cases h3 : fitsB u.base u.en.length with
      | false =>
        have e := right1_no (u := u) (.inr (.inr (.inl h3)))
        (simp only [go_sem, Nat.reduceAdd, Nat.reduceMul, Int.reduceToNat, Nat.reduceLeDiff, Int.reduceLE, Int.reduceLT, ↓reduceIte, Int.reduceBEq, Int.reduceBNe, Int.reduceAdd, Int.reduceSub, Int.reduceMul, h3]; try refine okTr_and rfl ?_)
        ((refine FinK.finB r16 [] ?_ ?_); (· first | with_reducible rfl | (simp [e]; done) | rfl); (· simp [resAL, resA1, loadA, oneOr, e]))
      | true =>
        (simp only [go_sem, Nat.reduceAdd, Nat.reduceMul, Int.reduceToNat, Nat.reduceLeDiff, Int.reduceLE, Int.reduceLT, ↓reduceIte, Int.reduceBEq, Int.reduceBNe, Int.reduceAdd, Int.reduceSub, Int.reduceMul, h3]; try refine okTr_and rfl ?_)
        refine CallK.p (legacy_total u.en n1 s1) ?_
        by_cases h4 : sumO u.en ≤ 1048576
        · have q4 : decide (1048576 < sumO u.en) = false := decide_eq_false (by omega)
          have e := right1_yes b0 h1 h2 h3 h4
          (simp only [go_sem, Nat.reduceAdd, Nat.reduceMul, Int.reduceToNat, Nat.reduceLeDiff, Int.reduceLE, Int.reduceLT, ↓reduceIte, Int.reduceBEq, Int.reduceBNe, Int.reduceAdd, Int.reduceSub, Int.reduceMul, q4]; try refine okTr_and rfl ?_)
          refine CallK.r1 (legacy_allO 75 (sg1O u) (goodAt u) (sg1O_ren u) (by simp) u.en (fun k hk i => legacy_Right11 u k _ (by omega) i) n1 _) rfl ?_; (simp only [go_sem, Nat.reduceAdd, Nat.reduceMul, Int.reduceToNat, Nat.reduceLeDiff, Int.reduceLE, Int.reduceLT, ↓reduceIte, Int.reduceBEq, Int.reduceBNe, Int.reduceAdd, Int.reduceSub, Int.reduceMul, ← e]; try refine okTr_and rfl ?_)
          exact FinK.finA r16 []
        · have q4 : decide (1048576 < sumO u.en) = true := decide_eq_true (by omega)
          have e := right1_no (u := u) (.inr (.inr (.inr (by omega))))
          (simp only [go_sem, Nat.reduceAdd, Nat.reduceMul, Int.reduceToNat, Nat.reduceLeDiff, Int.reduceLE, Int.reduceLT, ↓reduceIte, Int.reduceBEq, Int.reduceBNe, Int.reduceAdd, Int.reduceSub, Int.reduceMul, q4]; try refine okTr_and rfl ?_)
          ((refine FinK.finB r16 [] ?_ ?_); (· first | with_reducible rfl | (simp [e]; done) | rfl); (· simp [resAL, resA1, loadA, oneOr, e]))
    · have q2 : decide (400 < (u.en.length : Int)) = true := decide_eq_true (by omega)
      have e := right1_no (u := u) (.inr (.inl (by omega)))
      (simp only [go_sem, Nat.reduceAdd, Nat.reduceMul, Int.reduceToNat, Nat.reduceLeDiff, Int.reduceLE, Int.reduceLT, ↓reduceIte, Int.reduceBEq, Int.reduceBNe, Int.reduceAdd, Int.reduceSub, Int.reduceMul, h1, o1s_length, q2]; try refine okTr_and rfl ?_)
      ((refine FinK.finB r16 [] ?_ ?_); (· first | with_reducible rfl | (simp [e]; done) | rfl); (· simp [resAL, resA1, loadA, oneOr, e]))
theorem legacy_Right1 (u : Sg1) (hs : Small1 u) : Ct Tryz.prog 16 [sg1A u] [] (fun _ => bA (right1 u)) [] (fun _ => []) := (legacy_Right10 u hs).toCt cl cl
end Go.Proofs.YtnfagphepkeedaaGreat
end
section
namespace Go.Proofs.YtnfagphepkeedaaGreat
open Go.RowKit

end Go.Proofs.YtnfagphepkeedaaGreat
end
section
namespace Go.Proofs.YtnfagphepkeedaaGreat
variable {P : Program} {S : List AObj} {K : KT} {f : FuncId} {args args₀ : List AV}

theorem Wa.any1 {x : AV} (hx : x.cells = [x]) : Wa x .any := one_cel hx rfl fun _ v _ => .any v
theorem Wa.anyL (v : Value) : Wa (.lit v) .any := Wa.any1 rfl
theorem Wa.anyS (t : Tag) (k : Nat) (xs : List AV) : Wa (.sl t k xs) .any := Wa.any1 rfl
theorem Ct.u3 {o₀ p₀ q₀ o₁ p₁ q₁ o p q o' p' q' : AObj} {r : AV} (h : Does P f args₀ [o₀, p₀, q₀] r [o₁, p₁, q₁]) (i j k : Nat) (hn : [i, j, k].Nodup) (ha : ∀ N, args₀.map (fun x => x.ren (ixs [i, j, k] N)) = args)
    (ho : ∀ N, o₀.ren (ixs [i, j, k] N) = o) (hp : ∀ N, p₀.ren (ixs [i, j, k] N) = p) (hq : ∀ N, q₀.ren (ixs [i, j, k] N) = q) (ho' : ∀ N, o₁.ren (ixs [i, j, k] N) = o') (hp' : ∀ N, p₁.ren (ixs [i, j, k] N) = p') (hq' : ∀ N, q₁.ren (ixs [i, j, k] N) = q')
    (hd : ∀ x ∈ [o₀, p₀, q₀], x ≠ .dead) (hr : ∀ ρ, r.ren ρ = r) :
    Ct P f args [(i, o), (j, p), (k, q)] (fun _ => r) [(i, o'), (j, p'), (k, q')] (fun _ => []) :=
  Ct.mk h [i, j, k] hn rfl (by simp) hd (fun n N => by simpa using ha N) (fun n N => hr _) (fun n N => by simp [ho, hp, hq]) (.inl fun n N => by simp [ho', hp', hq']) (fun n N => rfl)
theorem CallK.u3 {r : AV} {i j k : Nat} {o p q o' p' q' : AObj} (h : Ct P f (args.map Proofs.YtnfagphepkeedaaGreat.untag) [(i, o), (j, p), (k, q)] (fun _ => r) [(i, o'), (j, p'), (k, q')] (fun _ => [])) (hS : S[i]? = some o) (hS' : S[j]? = some p) (hS'' : S[k]? = some q)
    (hK : K r [i, j, k] [(i, o'), (j, p'), (k, q')] []) : CallK P f args S K := CallK.of h.untag (by simp [hS, hS', hS'']) (by simp) hK
theorem Ct.u4 {o₀ p₀ q₀ s₀ o₁ p₁ q₁ s₁ o p q s o' p' q' s' : AObj} {r : AV} (h : Does P f args₀ [o₀, p₀, q₀, s₀] r [o₁, p₁, q₁, s₁]) (i j k l : Nat) (hn : [i, j, k, l].Nodup) (ha : ∀ N, args₀.map (fun x => x.ren (ixs [i, j, k, l] N)) = args)
    (ho : ∀ N, o₀.ren (ixs [i, j, k, l] N) = o) (hp : ∀ N, p₀.ren (ixs [i, j, k, l] N) = p) (hq : ∀ N, q₀.ren (ixs [i, j, k, l] N) = q) (hs : ∀ N, s₀.ren (ixs [i, j, k, l] N) = s) (ho' : ∀ N, o₁.ren (ixs [i, j, k, l] N) = o') (hp' : ∀ N, p₁.ren (ixs [i, j, k, l] N) = p') (hq' : ∀ N, q₁.ren (ixs [i, j, k, l] N) = q') (hs' : ∀ N, s₁.ren (ixs [i, j, k, l] N) = s')
    (hd : ∀ x ∈ [o₀, p₀, q₀, s₀], x ≠ .dead) (hr : ∀ ρ, r.ren ρ = r) :
    Ct P f args [(i, o), (j, p), (k, q), (l, s)] (fun _ => r) [(i, o'), (j, p'), (k, q'), (l, s')] (fun _ => []) :=
  Ct.mk h [i, j, k, l] hn rfl (by simp) hd (fun n N => by simpa using ha N) (fun n N => hr _) (fun n N => by simp [ho, hp, hq, hs]) (.inl fun n N => by simp [ho', hp', hq', hs']) (fun n N => rfl)
theorem CallK.u4 {r : AV} {i j k l : Nat} {o p q s o' p' q' s' : AObj} (h : Ct P f (args.map Proofs.YtnfagphepkeedaaGreat.untag) [(i, o), (j, p), (k, q), (l, s)] (fun _ => r) [(i, o'), (j, p'), (k, q'), (l, s')] (fun _ => [])) (hS : S[i]? = some o) (hS' : S[j]? = some p) (hS'' : S[k]? = some q) (hS3 : S[l]? = some s)
    (hK : K r [i, j, k, l] [(i, o'), (j, p'), (k, q'), (l, s')] []) : CallK P f args S K := CallK.of h.untag (by simp [hS, hS', hS'', hS3]) (by simp) hK
end Go.Proofs.YtnfagphepkeedaaGreat
end
section
namespace Go.Proofs.YtnfagphepkeedaaGreat
open Go.RowKit

abbrev wA (n : Nat) : AV := .lit (.int .u32 (n : Int))
theorem u32_nat (n : Nat) (h : n < 4294967296) : IntKind.u32.wrap (n : Int) = n := IntWalk.u32_in _ (by omega)
theorem step_eq (c : Nat) : cstep c = if c % 2 = 1 then (c / 2) ^^^ 2197175160 else c / 2 := rfl
theorem crc_step0 (c : Nat) (hc : c < 4294967296) : Does Tryz.prog 179 [wA c] [] (wA (cstep c)) [] := by
  have e1 := and1 c hc
  have e2 : (c : Int).fdiv (2 ^ min 1 32) = ((c / 2 : Nat) : Int) := shr32 c 1
  have e3 := xor32 (c / 2) 2197175160 (by omega) (by omega)
  refine Does.runA Tryz.func179 b179 n179 Tryz.ntmps179 ?_; simp only [c179, go_sem, Nat.reduceAdd, Nat.reduceMul, Int.reduceToNat, Nat.reduceLeDiff, Int.reduceLE, Int.reduceLT, ↓reduceIte, Int.reduceBEq, Int.reduceBNe, Int.reduceAdd, Int.reduceSub, Int.reduceMul, e1, e2]; try refine okTr_and rfl ?_
  by_cases h : c % 2 = 1
  · have q : (((c % 2 : Nat) : Int) == 1) = true := by rw [h]; rfl
    have e : cstep c = (c / 2) ^^^ 2197175160 := by rw [step_eq, if_pos h]
    have e3' : bitsI .xor .u32 ((c / 2 : Nat) : Int) 2197175160 = ((c / 2 ^^^ 2197175160 : Nat) : Int) := e3
    (simp only [go_sem, Nat.reduceAdd, Nat.reduceMul, Int.reduceToNat, Nat.reduceLeDiff, Int.reduceLE, Int.reduceLT, ↓reduceIte, Int.reduceBEq, Int.reduceBNe, Int.reduceAdd, Int.reduceSub, Int.reduceMul, q, e1, e2, e3']; try refine okTr_and rfl ?_)
    ((refine FinK.finB r179 [] ?_ ?_); (· first | with_reducible rfl | (simp [e]; done) | rfl); (· simp [resAL, resA1, loadA, oneOr, e]))
  · have q : (((c % 2 : Nat) : Int) == 1) = false := by simp only [beq_eq_false_iff_ne, ne_eq]; omega
    have e : cstep c = c / 2 := by rw [step_eq, if_neg h]
    (simp only [go_sem, Nat.reduceAdd, Nat.reduceMul, Int.reduceToNat, Nat.reduceLeDiff, Int.reduceLE, Int.reduceLT, ↓reduceIte, Int.reduceBEq, Int.reduceBNe, Int.reduceAdd, Int.reduceSub, Int.reduceMul, q, e1, e2]; try refine okTr_and rfl ?_)
    ((refine FinK.finB r179 [] ?_ ?_); (· first | with_reducible rfl | (simp [e]; done) | rfl); (· simp [resAL, resA1, loadA, oneOr, e]))
theorem crc_step (c : Nat) (hc : c < 4294967296) : Ct Tryz.prog 179 [wA c] [] (fun _ => wA (cstep c)) [] (fun _ => []) := (crc_step0 c hc).toCt cl cl
/-- What each half of a byte makes of the state, as far as it is filled in. -/
def tabN (k : Nat) : List AV := (List.range 16).map fun i => wA (if i < k then csteps 4 i else 0)
theorem tabN_len (k : Nat) : (tabN k).length = 16 := by simp [tabN]
theorem tabN_set (k : Nat) : (tabN k).set k (wA (csteps 4 k)) = tabN (k + 1) := by
  refine List.ext_getElem? fun i => ?_
  rw [List.getElem?_set]
  by_cases h : k = i
  · subst h
    rw [if_pos rfl]
    by_cases hk : k < 16
    · rw [if_pos (by simpa [tabN] using hk)]; simp [tabN, hk]
    · rw [if_neg (by simpa [tabN] using hk)]; simp [tabN, hk]
  · rw [if_neg h]
    by_cases hk : i < 16
    · have : (i < k + 1) = (i < k) := by rw [eq_iff_iff]; omega
      simp [tabN, hk, this]
    · simp [tabN, hk]
@[simp] theorem tabN_ren (ρ : Nat → Nat) (k : Nat) : (tabN k).map (fun x => x.ren ρ) = tabN k := by simp [tabN, ixs_z]
def tab : List AV := tabN 16
theorem tab_get (i : Nat) (h : i < 16) : tab[i]? = some (wA (csteps 4 i)) := by
  simp [tab, tabN, h]
theorem csteps_snoc (n : Nat) : ∀ c, csteps (n + 1) c = cstep (csteps n c) := by
  intro c
  have := csteps_add n 1 c
  rw [this]; rfl
theorem splice_eq (xs : List AV) (o : Nat) (cs : List AV) (h : o + cs.length ≤ xs.length) : splice xs o cs = xs.take o ++ cs ++ xs.drop (o + cs.length) := by
  refine List.ext_getElem? fun j => ?_
  rw [splice_get xs o cs h, List.append_assoc, List.getElem?_append, List.length_take, show min o xs.length = o by omega]
  by_cases h1 : j < o
  · rw [if_neg (by omega), if_pos h1, List.getElem?_take, if_pos h1]
  · rw [if_neg h1, List.getElem?_append]
    by_cases h2 : j - o < cs.length
    · rw [if_pos (by omega), if_pos h2]
    · rw [if_neg (by omega), if_neg h2, List.getElem?_drop]; congr 1; omega
@[simp] theorem tab_ren (ρ : Nat → Nat) : tab.map (fun x => x.ren ρ) = tab := tabN_ren ρ 16
set_option maxRecDepth 100000 in
theorem crc_table0 : Does Tryz.prog 159 [] [] (.agg tab) [] := by
  refine Does.runA Tryz.func159 b159 n159 Tryz.ntmps159 ?_; simp only [c159, go_sem, Nat.reduceAdd, Nat.reduceMul, Int.reduceToNat, Nat.reduceLeDiff, Int.reduceLE, Int.reduceLT, ↓reduceIte, Int.reduceBEq, Int.reduceBNe, Int.reduceAdd, Int.reduceSub, Int.reduceMul]; try refine okTr_and rfl ?_
  refine loop_of (α := Nat) (fun k => [.ref 0 0, .ref 1 0, .any, .any, iA k, .any, .any, .any, .any, .any, .any, .any, .any, .any, .any, .any, .any, .any, .any]) (fun k => [.cells (tabN 0), .cells (tabN k)]) (fun k => k ≤ 16) (fun k => 16 - k) 0 (by simp) (Wk.to (by rfl) (by simp [leT])) ?_
  intro k hk
  (simp only [go_sem, Nat.reduceAdd, Nat.reduceMul, Int.reduceToNat, Nat.reduceLeDiff, Int.reduceLE, Int.reduceLT, ↓reduceIte, Int.reduceBEq, Int.reduceBNe, Int.reduceAdd, Int.reduceSub, Int.reduceMul]; try refine okTr_and rfl ?_)
  refine cdK_split (fun h => ?_) (fun h => ?_)
  · have hlt : k < 16 := by simp at h; omega
    have ek := i64_succ k (by omega)
    have ec := u32_nat k (by omega)
    (simp only [go_sem, Nat.reduceAdd, Nat.reduceMul, Int.reduceToNat, Nat.reduceLeDiff, Int.reduceLE, Int.reduceLT, ↓reduceIte, Int.reduceBEq, Int.reduceBNe, Int.reduceAdd, Int.reduceSub, Int.reduceMul, ec]; try refine okTr_and rfl ?_)
    refine loop_of (α := Nat) (fun j => [.ref 0 0, .ref 1 0, iA k, wA (csteps j k), iA k, .any, .any, .any, .any, iA j, .any, .any, .any, .any, .any, .any, .any, .any, .any]) (fun j => [.cells (tabN 0), .cells (tabN k)]) (fun j => j ≤ 4) (fun j => 4 - j) 0 (by simp) (Wk.to (by rfl) (by simp [leT, csteps])) ?_
    intro j hj
    (simp only [go_sem, Nat.reduceAdd, Nat.reduceMul, Int.reduceToNat, Nat.reduceLeDiff, Int.reduceLE, Int.reduceLT, ↓reduceIte, Int.reduceBEq, Int.reduceBNe, Int.reduceAdd, Int.reduceSub, Int.reduceMul]; try refine okTr_and rfl ?_)
    refine cdK_split (fun h => ?_) (fun h => ?_)
    · have hj4 : j < 4 := by simp at h; omega
      have ej := i64_succ j (by omega)
      have hs := csteps_snoc j k
      (simp only [go_sem, Nat.reduceAdd, Nat.reduceMul, Int.reduceToNat, Nat.reduceLeDiff, Int.reduceLE, Int.reduceLT, ↓reduceIte, Int.reduceBEq, Int.reduceBNe, Int.reduceAdd, Int.reduceSub, Int.reduceMul]; try refine okTr_and rfl ?_)
      refine CallK.p (crc_step (csteps j k) (csteps_lt j (by omega))) ?_; (simp only [go_sem, Nat.reduceAdd, Nat.reduceMul, Int.reduceToNat, Nat.reduceLeDiff, Int.reduceLE, Int.reduceLT, ↓reduceIte, Int.reduceBEq, Int.reduceBNe, Int.reduceAdd, Int.reduceSub, Int.reduceMul, ej]; try refine okTr_and rfl ?_)
      exact ⟨j + 1, by omega, by omega, Wk.to (by rfl) (by simp [leT, hs])⟩
    · have ej : j = 4 := by simp at h; omega
      subst ej
      (simp only [go_sem, Nat.reduceAdd, Nat.reduceMul, Int.reduceToNat, Nat.reduceLeDiff, Int.reduceLE, Int.reduceLT, ↓reduceIte, Int.reduceBEq, Int.reduceBNe, Int.reduceAdd, Int.reduceSub, Int.reduceMul, Int.toNat_natCast, tabN_len, Nat.mul_one, ek, tabN_set]; try refine okTr_and rfl ?_)
      (repeat ((with_reducible refine And.intro ?_ ?_); (· exact sd)))
      exact ⟨k + 1, by omega, by omega, Wk.to (by simp) (by simp [leT])⟩
  · have ek : k = 16 := by simp at h; omega
    subst ek
    have etk : List.take 16 (tabN 16) = tabN 16 := List.take_of_length_le (by rw [tabN_len]; omega)
    have esp : splice (tabN 0) 0 (tabN 16) = tabN 16 := by
      rw [splice_eq _ 0 _ (by rw [tabN_len, tabN_len]; omega), tabN_len, List.drop_eq_nil_of_le (by rw [tabN_len]; omega)]; simp
    (simp only [go_sem, Nat.reduceAdd, Nat.reduceMul, Int.reduceToNat, Nat.reduceLeDiff, Int.reduceLE, Int.reduceLT, ↓reduceIte, Int.reduceBEq, Int.reduceBNe, Int.reduceAdd, Int.reduceSub, Int.reduceMul, tabN_len, etk, esp]; try refine okTr_and rfl ?_)
    (repeat ((with_reducible refine And.intro ?_ ?_); (· exact sd)))
    ((refine FinK.finB r159 [] ?_ ?_); (· first | with_reducible rfl | (simp [tab, tabN_len, etk]; done) | rfl); (· simp [resAL, resA1, loadA, oneOr, tab, tabN_len, etk]))
theorem crc_table : Ct Tryz.prog 159 [] [] (fun _ => .agg tab) [] (fun _ => []) := (crc_table0).toCt cl cl
theorem nats_take (l : List Int) (k : Nat) (h : k < l.length) : nats (l.take (k + 1)) = nats (l.take k) ++ [(l.getD k 0).toNat] := by
  rw [take_snoc l k h, nats_append]; rfl
theorem tab_len : tab.length = 16 := tabN_len 16
theorem tab_splice {xs : List AV} (h : xs.length = 16) : splice xs 0 tab = tab := by
  rw [splice_eq xs 0 tab (by rw [tab_len, h]; omega), tab_len, List.drop_eq_nil_of_le (by omega)]; simp
theorem half_eq (b : Nat) (hb : b < 4294967296) : bitsI .xor .u32 ((b / 16 : Nat) : Int) ((csteps 4 (b % 16) : Nat) : Int) = ((csteps 4 b : Nat) : Int) := by
  have := csteps_lt 4 (c := b % 16) (by omega)
  rw [xor32 (b / 16) (csteps 4 (b % 16)) (by omega) (by omega), ← csteps_half]
theorem xor_lt {a b : Nat} (ha : a < 4294967296) (hb : b < 4294967296) : a ^^^ b < 4294967296 := by
  have : a ^^^ b < 2 ^ 32 := Nat.xor_lt_two_pow (by omega) (by omega)
  omega
set_option maxRecDepth 100000 in
theorem crc_Add0 (c : Nat) (l : List Int) (hc : c < 4294967296) (hl : Bys l) (hn : l.length ≤ 140737488355328) : Does Tryz.prog 108 [wA c, slA .u8 l] [] (wA (crcA c (nats l))) [] := by
  refine Does.runA Tryz.func108 b108 n108 Tryz.ntmps108 ?_; simp only [c108, go_sem, Nat.reduceAdd, Nat.reduceMul, Int.reduceToNat, Nat.reduceLeDiff, Int.reduceLE, Int.reduceLT, ↓reduceIte, Int.reduceBEq, Int.reduceBNe, Int.reduceAdd, Int.reduceSub, Int.reduceMul]; try refine okTr_and rfl ?_
  refine CallK.p (crc_table) ?_; (simp only [go_sem, Nat.reduceAdd, Nat.reduceMul, Int.reduceToNat, Nat.reduceLeDiff, Int.reduceLE, Int.reduceLT, ↓reduceIte, Int.reduceBEq, Int.reduceBNe, Int.reduceAdd, Int.reduceSub, Int.reduceMul, ints_length, tab_len, tab_splice]; try refine okTr_and rfl ?_)
  (repeat ((with_reducible refine And.intro ?_ ?_); (· exact sd)))
  refine loop_of (α := Nat) (fun k => [wA (crcA c (nats (l.take k))), .any, .any, .any, .any, .ref 0 0, .any, .any, .any, slA .u8 l, iA l.length, iA k, .any, .any, .any, .any, .any, .any, .any, .any, .any, .any, .any, .any, .any, .any, .any, .any, .any, .any, .any, .any, .any, .any, .any]) (fun _ => [.cells tab]) (fun k => k ≤ l.length) (fun k => l.length - k) 0 (by simp) (Wk.to (by simp) (by simp [leT, nats, crcA])) ?_
  intro k hk
  (simp only [go_sem, Nat.reduceAdd, Nat.reduceMul, Int.reduceToNat, Nat.reduceLeDiff, Int.reduceLE, Int.reduceLT, ↓reduceIte, Int.reduceBEq, Int.reduceBNe, Int.reduceAdd, Int.reduceSub, Int.reduceMul]; try refine okTr_and rfl ?_)
  refine cdK_split (fun h => ?_) (fun h => ?_)
  · have hlt : k < l.length := by simpa using h
    have ek := i64_succ k (by omega)
    have g := u8_get l (k : Int) (by omega) (by omega)
    have hx := hl _ (getD_mem l k hlt)
    have hst := nats_take l k hlt
    have ha := crcA_lt hc (l := nats (l.take k)) (fun x hx => nats_lt hl x (by
      simp only [nats, List.mem_map] at hx ⊢
      obtain ⟨y, hy, rfl⟩ := hx
      exact ⟨y, List.mem_of_mem_take hy, rfl⟩))
    rw [Int.toNat_natCast] at g
    obtain ⟨x, hxe⟩ : ∃ x : Nat, l.getD k 0 = (x : Int) := ⟨(l.getD k 0).toNat, by omega⟩
    rw [hxe] at g hx hst
    rw [Int.toNat_natCast] at hst
    have he : crcA c (nats (l.take (k + 1))) = cinto (crcA c (nats (l.take k))) x := by rw [hst, crcA_snoc]
    obtain ⟨a, hae⟩ : ∃ a, crcA c (nats (l.take k)) = a := ⟨_, rfl⟩
    rw [hae] at ha he ⊢
    have hb := xor_lt ha (show x < 4294967296 by omega)
    have e0 := u32_nat x (by omega)
    have e1 := xor32 a x ha (by omega)
    obtain ⟨b, hbe⟩ : ∃ b, a ^^^ x = b := ⟨_, rfl⟩
    rw [hbe] at e1 hb
    have s1 : (b : Int).fdiv (2 ^ min 4 32) = ((b / 16 : Nat) : Int) := shr32 b 4
    have s2 := and15 b hb
    have s3 := half_eq b hb
    have t1 := tab_get (b % 16) (by omega)
    have hd := csteps_lt 4 hb
    obtain ⟨d, hde⟩ : ∃ d, csteps 4 b = d := ⟨_, rfl⟩
    rw [hde] at s3 hd
    have u1 : (d : Int).fdiv (2 ^ min 4 32) = ((d / 16 : Nat) : Int) := shr32 d 4
    have u2 := and15 d hd
    have u3 := half_eq d hd
    have t2 := tab_get (d % 16) (by omega)
    have hf : csteps 4 d = crcA c (nats (l.take (k + 1))) := by rw [he, cinto_half, hbe, hde]
    rw [hf] at u3
    (simp only [go_sem, Nat.reduceAdd, Nat.reduceMul, Int.reduceToNat, Nat.reduceLeDiff, Int.reduceLE, Int.reduceLT, ↓reduceIte, Int.reduceBEq, Int.reduceBNe, Int.reduceAdd, Int.reduceSub, Int.reduceMul, g, ints_length, Int.toNat_natCast, e0, e1, s1, s2, s3, t1, u1, u2, u3, t2, ek, Nat.mul_one]; try refine okTr_and rfl ?_)
    (repeat ((with_reducible refine And.intro ?_ ?_); (· exact sd)))
    exact ⟨k + 1, by omega, by omega, Wk.to (by simp) (by simp [leT])⟩
  · have ek : k = l.length := by simp at h; omega
    subst ek
    (simp only [go_sem, Nat.reduceAdd, Nat.reduceMul, Int.reduceToNat, Nat.reduceLeDiff, Int.reduceLE, Int.reduceLT, ↓reduceIte, Int.reduceBEq, Int.reduceBNe, Int.reduceAdd, Int.reduceSub, Int.reduceMul]; try refine okTr_and rfl ?_)
    ((refine FinK.finB r108 [] ?_ ?_); (· first | with_reducible rfl | (simp [List.take_length]; done) | rfl); (· simp [resAL, resA1, loadA, oneOr, List.take_length]))
theorem crc_Add (c : Nat) (l : List Int) (hc : c < 4294967296) (hl : Bys l) (hn : l.length ≤ 140737488355328) : Ct Tryz.prog 108 [wA c, slA .u8 l] [] (fun _ => wA (crcA c (nats l))) [] (fun _ => []) := (crc_Add0 c l hc hl hn).toCt cl cl
theorem crc_Begin0 : Does Tryz.prog 109 [] [] (wA 4294967295) [] := by
  refine Does.runA Tryz.func109 b109 n109 Tryz.ntmps109 ?_; simp only [c109, go_sem, Nat.reduceAdd, Nat.reduceMul, Int.reduceToNat, Nat.reduceLeDiff, Int.reduceLE, Int.reduceLT, ↓reduceIte, Int.reduceBEq, Int.reduceBNe, Int.reduceAdd, Int.reduceSub, Int.reduceMul]; try refine okTr_and rfl ?_
  exact FinK.finA r109 []
theorem crc_Begin : Ct Tryz.prog 109 [] [] (fun _ => wA 4294967295) [] (fun _ => []) := (crc_Begin0).toCt cl cl
theorem crc_End0 (c : Nat) (hc : c < 4294967296) : Does Tryz.prog 107 [wA c] [] (.lit (.int .u32 (4294967295 - (c : Int)))) [] := by
  have e : bitsI .xor .u32 (if IntKind.u32.signed then -1 else IntKind.u32.max) (c : Int) = 4294967295 - (c : Int) := not32 c hc
  refine Does.runA Tryz.func107 b107 n107 Tryz.ntmps107 ?_; simp only [c107, go_sem, Nat.reduceAdd, Nat.reduceMul, Int.reduceToNat, Nat.reduceLeDiff, Int.reduceLE, Int.reduceLT, ↓reduceIte, Int.reduceBEq, Int.reduceBNe, Int.reduceAdd, Int.reduceSub, Int.reduceMul, e]; try refine okTr_and rfl ?_
  exact FinK.finA r107 []
theorem crc_End (c : Nat) (hc : c < 4294967296) : Ct Tryz.prog 107 [wA c] [] (fun _ => .lit (.int .u32 (4294967295 - (c : Int)))) [] (fun _ => []) := (crc_End0 c hc).toCt cl cl
abbrev sumA (l : List Int) : AV := .lit (.int .u32 (crcI l))
theorem crc_Sum0 (l : List Int) (hl : Bys l) (hn : l.length ≤ 140737488355328) : Does Tryz.prog 37 [slA .u8 l] [] (sumA l) [] := by
  have h := crcA_lt (c := 4294967295) (by omega) (nats_lt hl)
  refine Does.runA Tryz.func37 b37 n37 Tryz.ntmps37 ?_; simp only [c37, go_sem, Nat.reduceAdd, Nat.reduceMul, Int.reduceToNat, Nat.reduceLeDiff, Int.reduceLE, Int.reduceLT, ↓reduceIte, Int.reduceBEq, Int.reduceBNe, Int.reduceAdd, Int.reduceSub, Int.reduceMul]; try refine okTr_and rfl ?_
  refine CallK.p (crc_Begin) ?_; (simp only [go_sem, Nat.reduceAdd, Nat.reduceMul, Int.reduceToNat, Nat.reduceLeDiff, Int.reduceLE, Int.reduceLT, ↓reduceIte, Int.reduceBEq, Int.reduceBNe, Int.reduceAdd, Int.reduceSub, Int.reduceMul]; try refine okTr_and rfl ?_)
  refine CallK.p (crc_Add 4294967295 l (by omega) hl hn) ?_; (simp only [go_sem, Nat.reduceAdd, Nat.reduceMul, Int.reduceToNat, Nat.reduceLeDiff, Int.reduceLE, Int.reduceLT, ↓reduceIte, Int.reduceBEq, Int.reduceBNe, Int.reduceAdd, Int.reduceSub, Int.reduceMul]; try refine okTr_and rfl ?_)
  refine CallK.p (crc_End (crcA 4294967295 (nats l)) h) ?_; (simp only [go_sem, Nat.reduceAdd, Nat.reduceMul, Int.reduceToNat, Nat.reduceLeDiff, Int.reduceLE, Int.reduceLT, ↓reduceIte, Int.reduceBEq, Int.reduceBNe, Int.reduceAdd, Int.reduceSub, Int.reduceMul]; try refine okTr_and rfl ?_)
  ((refine FinK.finB r37 [] ?_ ?_); (· first | with_reducible rfl | (simp [crcI]; done) | rfl); (· simp [resAL, resA1, loadA, oneOr, crcI]))
theorem crc_Sum (l : List Int) (hl : Bys l) (hn : l.length ≤ 140737488355328) : Ct Tryz.prog 37 [slA .u8 l] [] (fun _ => sumA l) [] (fun _ => []) := (crc_Sum0 l hl hn).toCt cl cl
set_option maxRecDepth 100000 in
theorem ref07_into0 (c x : Nat) (hc : c < 4294967296) (hx : x < 256) : Does Tryz.prog 161 [wA c, u8A (x : Int)] [] (wA (cinto c x)) [] := by
  have e0 := u32_nat x (by omega)
  have e1 := xor32 c x hc (by omega)
  have hb := xor_lt hc (show x < 4294967296 by omega)
  have hce : cinto c x = csteps 8 (c ^^^ x) := rfl
  obtain ⟨b, hbe⟩ : ∃ b, c ^^^ x = b := ⟨_, rfl⟩
  rw [hbe] at e1 hb hce
  refine Does.runA Tryz.func161 b161 n161 Tryz.ntmps161 ?_; simp only [c161, go_sem, Nat.reduceAdd, Nat.reduceMul, Int.reduceToNat, Nat.reduceLeDiff, Int.reduceLE, Int.reduceLT, ↓reduceIte, Int.reduceBEq, Int.reduceBNe, Int.reduceAdd, Int.reduceSub, Int.reduceMul, e0, e1]; try refine okTr_and rfl ?_
  refine loop_of (α := Nat) (fun j => [wA (csteps j b), .any, .any, .any, .any, iA j, .any, .any, .any, .any, .any, .any, .any, .any, .any, .any, .any, .any, .any, .any, .any, .any, .any, .any]) (fun _ => []) (fun j => j ≤ 8) (fun j => 8 - j) 0 (by simp) (Wk.to (by simp) (by simp [leT, csteps])) ?_
  intro j hj
  have hs := csteps_lt j hb
  have hsn := csteps_snoc j b
  (simp only [go_sem, Nat.reduceAdd, Nat.reduceMul, Int.reduceToNat, Nat.reduceLeDiff, Int.reduceLE, Int.reduceLT, ↓reduceIte, Int.reduceBEq, Int.reduceBNe, Int.reduceAdd, Int.reduceSub, Int.reduceMul]; try refine okTr_and rfl ?_)
  refine cdK_split (fun h => ?_) (fun h => ?_)
  · have hlt : j < 8 := by simp at h; omega
    have ej := i64_succ j (by omega)
    obtain ⟨d, hde⟩ : ∃ d, csteps j b = d := ⟨_, rfl⟩
    rw [hde] at hs hsn ⊢
    have em : (d : Int).tmod 2 = ((d % 2 : Nat) : Int) := by rw [Int.tmod_eq_emod_of_nonneg (by omega)]; omega
    have ed : IntKind.u32.wrap ((d : Int).tdiv 2) = ((d / 2 : Nat) : Int) := by rw [Int.tdiv_eq_ediv_of_nonneg (by omega), IntWalk.u32_in _ (by omega)]; omega
    have e3 : bitsI .xor .u32 ((d / 2 : Nat) : Int) 2197175160 = ((d / 2 ^^^ 2197175160 : Nat) : Int) := xor32 (d / 2) 2197175160 (by omega) (by omega)
    rw [step_eq] at hsn
    by_cases h1 : d % 2 = 1
    · have q : (((d % 2 : Nat) : Int) == 1) = true := by rw [h1]; rfl
      rw [if_pos h1] at hsn
      (simp only [go_sem, Nat.reduceAdd, Nat.reduceMul, Int.reduceToNat, Nat.reduceLeDiff, Int.reduceLE, Int.reduceLT, ↓reduceIte, Int.reduceBEq, Int.reduceBNe, Int.reduceAdd, Int.reduceSub, Int.reduceMul, em, ed, q, e3, ej]; try refine okTr_and rfl ?_)
      (repeat ((with_reducible refine And.intro ?_ ?_); (· exact sd)))
      exact ⟨j + 1, by omega, by omega, Wk.to (by simp) (by simp [leT, hsn])⟩
    · have q : (((d % 2 : Nat) : Int) == 1) = false := by simp only [beq_eq_false_iff_ne, ne_eq]; omega
      rw [if_neg h1] at hsn
      (simp only [go_sem, Nat.reduceAdd, Nat.reduceMul, Int.reduceToNat, Nat.reduceLeDiff, Int.reduceLE, Int.reduceLT, ↓reduceIte, Int.reduceBEq, Int.reduceBNe, Int.reduceAdd, Int.reduceSub, Int.reduceMul, em, ed, q, ej]; try refine okTr_and rfl ?_)
      (repeat ((with_reducible refine And.intro ?_ ?_); (· exact sd)))
      exact ⟨j + 1, by omega, by omega, Wk.to (by simp) (by simp [leT, hsn])⟩
  · have ej : j = 8 := by simp at h; omega
    subst ej
    (simp only [go_sem, Nat.reduceAdd, Nat.reduceMul, Int.reduceToNat, Nat.reduceLeDiff, Int.reduceLE, Int.reduceLT, ↓reduceIte, Int.reduceBEq, Int.reduceBNe, Int.reduceAdd, Int.reduceSub, Int.reduceMul]; try refine okTr_and rfl ?_)
    ((refine FinK.finB r161 [] ?_ ?_); (· first | with_reducible rfl | (simp [hce]; done) | rfl); (· simp [resAL, resA1, loadA, oneOr, hce]))
theorem ref07_into (c x : Nat) (hc : c < 4294967296) (hx : x < 256) : Ct Tryz.prog 161 [wA c, u8A (x : Int)] [] (fun _ => wA (cinto c x)) [] (fun _ => []) := (ref07_into0 c x hc hx).toCt cl cl
theorem ref07_Add0 (c : Nat) (l : List Int) (hc : c < 4294967296) (hl : Bys l) (hn : l.length ≤ 140737488355328) : Does Tryz.prog 115 [wA c, slA .u8 l] [] (wA (crcA c (nats l))) [] := by
  refine Does.runA Tryz.func115 b115 n115 Tryz.ntmps115 ?_; simp only [c115, go_sem, Nat.reduceAdd, Nat.reduceMul, Int.reduceToNat, Nat.reduceLeDiff, Int.reduceLE, Int.reduceLT, ↓reduceIte, Int.reduceBEq, Int.reduceBNe, Int.reduceAdd, Int.reduceSub, Int.reduceMul]; try refine okTr_and rfl ?_
  refine loop_of (α := Nat) (fun k => [wA (crcA c (nats (l.take k))), slA .u8 l, .any, .any, .any, iA k, .any, .any, .any, .any, .any, .any, .any, .any, .any, .any, .any, .any, .any]) (fun _ => []) (fun k => k ≤ l.length) (fun k => l.length - k) 0 (by simp) (Wk.to (by simp) (by simp [leT, nats, crcA])) ?_
  intro k hk
  (simp only [go_sem, Nat.reduceAdd, Nat.reduceMul, Int.reduceToNat, Nat.reduceLeDiff, Int.reduceLE, Int.reduceLT, ↓reduceIte, Int.reduceBEq, Int.reduceBNe, Int.reduceAdd, Int.reduceSub, Int.reduceMul, ints_length]; try refine okTr_and rfl ?_)
  refine cdK_split (fun h => ?_) (fun h => ?_)
  · have hlt : k < l.length := by simpa using h
    have ek := i64_succ k (by omega)
    have g := u8_get l (k : Int) (by omega) (by omega)
    have hx := hl _ (getD_mem l k hlt)
    have hst := nats_take l k hlt
    have ha := crcA_lt hc (l := nats (l.take k)) (fun x hx => nats_lt hl x (by
      simp only [nats, List.mem_map] at hx ⊢
      obtain ⟨y, hy, rfl⟩ := hx
      exact ⟨y, List.mem_of_mem_take hy, rfl⟩))
    rw [Int.toNat_natCast] at g
    obtain ⟨x, hxe⟩ : ∃ x : Nat, l.getD k 0 = (x : Int) := ⟨(l.getD k 0).toNat, by omega⟩
    rw [hxe] at g hx hst
    rw [Int.toNat_natCast] at hst
    have he : crcA c (nats (l.take (k + 1))) = cinto (crcA c (nats (l.take k))) x := by rw [hst, crcA_snoc]
    (simp only [go_sem, Nat.reduceAdd, Nat.reduceMul, Int.reduceToNat, Nat.reduceLeDiff, Int.reduceLE, Int.reduceLT, ↓reduceIte, Int.reduceBEq, Int.reduceBNe, Int.reduceAdd, Int.reduceSub, Int.reduceMul, g, ints_length, Int.toNat_natCast]; try refine okTr_and rfl ?_)
    (repeat ((with_reducible refine And.intro ?_ ?_); (· exact sd)))
    refine CallK.p (ref07_into (crcA c (nats (l.take k))) x ha (by omega)) ?_; (simp only [go_sem, Nat.reduceAdd, Nat.reduceMul, Int.reduceToNat, Nat.reduceLeDiff, Int.reduceLE, Int.reduceLT, ↓reduceIte, Int.reduceBEq, Int.reduceBNe, Int.reduceAdd, Int.reduceSub, Int.reduceMul, ek]; try refine okTr_and rfl ?_)
    exact ⟨k + 1, by omega, by omega, Wk.to (by simp) (by simp [leT, he])⟩
  · have ek : k = l.length := by simp at h; omega
    subst ek
    (simp only [go_sem, Nat.reduceAdd, Nat.reduceMul, Int.reduceToNat, Nat.reduceLeDiff, Int.reduceLE, Int.reduceLT, ↓reduceIte, Int.reduceBEq, Int.reduceBNe, Int.reduceAdd, Int.reduceSub, Int.reduceMul]; try refine okTr_and rfl ?_)
    ((refine FinK.finB r115 [] ?_ ?_); (· first | with_reducible rfl | (simp [List.take_length]; done) | rfl); (· simp [resAL, resA1, loadA, oneOr, List.take_length]))
theorem ref07_Add (c : Nat) (l : List Int) (hc : c < 4294967296) (hl : Bys l) (hn : l.length ≤ 140737488355328) : Ct Tryz.prog 115 [wA c, slA .u8 l] [] (fun _ => wA (crcA c (nats l))) [] (fun _ => []) := (ref07_Add0 c l hc hl hn).toCt cl cl
theorem ref07_Sum0 (l : List Int) (hl : Bys l) (hn : l.length ≤ 140737488355328) : Does Tryz.prog 47 [slA .u8 l] [] (sumA l) [] := by
  have h := crcI_range hl
  have e : IntKind.u32.wrap (4294967295 - ((crcA 4294967295 (nats l) : Nat) : Int)) = crcI l := IntWalk.u32_in _ (by unfold crcI at h; omega)
  refine Does.runA Tryz.func47 b47 n47 Tryz.ntmps47 ?_; simp only [c47, go_sem, Nat.reduceAdd, Nat.reduceMul, Int.reduceToNat, Nat.reduceLeDiff, Int.reduceLE, Int.reduceLT, ↓reduceIte, Int.reduceBEq, Int.reduceBNe, Int.reduceAdd, Int.reduceSub, Int.reduceMul]; try refine okTr_and rfl ?_
  refine CallK.p (ref07_Add 4294967295 l (by omega) hl hn) ?_; (simp only [go_sem, Nat.reduceAdd, Nat.reduceMul, Int.reduceToNat, Nat.reduceLeDiff, Int.reduceLE, Int.reduceLT, ↓reduceIte, Int.reduceBEq, Int.reduceBNe, Int.reduceAdd, Int.reduceSub, Int.reduceMul, e]; try refine okTr_and rfl ?_)
  exact FinK.finA r47 []
theorem ref07_Sum (l : List Int) (hl : Bys l) (hn : l.length ≤ 140737488355328) : Ct Tryz.prog 47 [slA .u8 l] [] (fun _ => sumA l) [] (fun _ => []) := (ref07_Sum0 l hl hn).toCt cl cl
theorem sum_u64 {l : List Int} (hl : Bys l) : IntKind.u64.wrap (crcI l) = crcI l := by
  have := crcI_range hl
  exact IntWalk.u64_in _ (by omega)
end Go.Proofs.YtnfagphepkeedaaGreat
end
section
namespace Go.Proofs.YtnfagphepkeedaaGreat
open Go.RowKit

theorem ref03_Fixed0 (x : Int) (n : Nat) (h0 : 0 ≤ x) (h1 : x < 18446744073709551616) (hn : n ≤ 8) : Does Tryz.prog 84 [uA x, iA n] [] (slA .u8 (lowBytes n x)) [] := by
  refine Does.runA Tryz.func84 b84 n84 Tryz.ntmps84 ?_; simp only [c84, go_sem, Nat.reduceAdd, Nat.reduceMul, Int.reduceToNat, Nat.reduceLeDiff, Int.reduceLE, Int.reduceLT, ↓reduceIte, Int.reduceBEq, Int.reduceBNe, Int.reduceAdd, Int.reduceSub, Int.reduceMul]; try refine okTr_and rfl ?_
  refine loop_of (α := Nat) (fun k => [uA x, iA n, .any, .any, .any, ownA 0 (lowBytes k x), iA k, .any, .any, .any, .any, .any, .any, .any, .any, .any, .any, .any, .any, .any, .any, .any, .any, .any, .any, .any]) (fun k => [.row 1 k]) (fun k => k ≤ n) (fun k => n - k) 0 (by simp) ((Wk.row 5 1 rfl (.inl rfl) (Nat.le_refl _)).trans (Wk.to (by simp) (by simp [leT, ints, lowBytes]))) ?_
  intro k hk
  have hs := lowBytes_snoc k x
  have hl := lowBytes_len k x
  by_cases hlt : k < n
  · have q1 : decide ((k : Int) < (n : Int)) = true := by simp; omega
    have q2 : decide ((k : Int) < 8) = true := by simp; omega
    have ei := i64_succ k (by omega)
    have em : IntKind.i64.wrap (8 * (k : Int)) = 8 * k := IntWalk.i64_in _ (by omega)
    have eu : IntKind.u64.wrap (8 * (k : Int)) = 8 * k := IntWalk.u64_in _ (by omega)
    have es : x.fdiv (2 ^ min (8 * (k : Int)).toNat 64) = x / 256 ^ k := by
      have : min (8 * (k : Int)).toNat 64 = 8 * k := by omega
      rw [this, Int.fdiv_eq_ediv_of_nonneg _ (Int.le_of_lt (Int.pow_pos (by omega))), Int.pow_mul]; rfl
    have e8 : IntKind.u8.wrap (x / 256 ^ k) = x / 256 ^ k % 256 := IntKind.wrap_u8 _
    (simp only [go_sem, Nat.reduceAdd, Nat.reduceMul, Int.reduceToNat, Nat.reduceLeDiff, Int.reduceLE, Int.reduceLT, ↓reduceIte, Int.reduceBEq, Int.reduceBNe, Int.reduceAdd, Int.reduceSub, Int.reduceMul, q1, q2, em, eu, es, e8, ei, ints_snoc, ← hs, ints_length, hl]; try refine okTr_and rfl ?_)
    (repeat ((with_reducible refine And.intro ?_ ?_); (· exact sd)))
    exact ⟨k + 1, hlt, by omega, Wk.to (by simp) (by simp [leT])⟩
  · have q1 : decide ((k : Int) < (n : Int)) = false := by simp; omega
    have ek : k = n := by omega
    (simp only [go_sem, Nat.reduceAdd, Nat.reduceMul, Int.reduceToNat, Nat.reduceLeDiff, Int.reduceLE, Int.reduceLT, ↓reduceIte, Int.reduceBEq, Int.reduceBNe, Int.reduceAdd, Int.reduceSub, Int.reduceMul, q1]; try refine okTr_and rfl ?_)
    (refine FinK.untag 4 rfl ?_; simp only [untag1_sl, List.set_cons_zero, List.set_cons_succ])
    ((refine FinK.finB r84 [] ?_ ?_); (· first | with_reducible rfl | (simp [ek]; done) | rfl); (· simp [resAL, resA1, loadA, oneOr, ek]))
theorem ref03_Fixed (x : Int) (n : Nat) (h0 : 0 ≤ x) (h1 : x < 18446744073709551616) (hn : n ≤ 8) : Ct Tryz.prog 84 [uA x, iA n] [] (fun _ => slA .u8 (lowBytes n x)) [] (fun _ => []) := (ref03_Fixed0 x n h0 h1 hn).toCt cl cl

theorem frame_Size0 (n : Int) (n1 : n ≤ 4611686018427387904) : Does Tryz.prog 133 [iA n] [] (iA (sizeF n)) [] := by
  have hv := (vb_len (max n 0)).2
  have e : IntKind.i64.wrap (((vb (max n 0)).length : Int) + max n 0 + 4) = sizeF n := IntWalk.i64_in _ (by omega)
  refine Does.runA Tryz.func133 b133 n133 Tryz.ntmps133 ?_; simp only [c133, go_sem, Nat.reduceAdd, Nat.reduceMul, Int.reduceToNat, Nat.reduceLeDiff, Int.reduceLE, Int.reduceLT, ↓reduceIte, Int.reduceBEq, Int.reduceBNe, Int.reduceAdd, Int.reduceSub, Int.reduceMul]; try refine okTr_and rfl ?_
  refine CallK.p (blob_Size n n1) ?_; (simp only [go_sem, Nat.reduceAdd, Nat.reduceMul, Int.reduceToNat, Nat.reduceLeDiff, Int.reduceLE, Int.reduceLT, ↓reduceIte, Int.reduceBEq, Int.reduceBNe, Int.reduceAdd, Int.reduceSub, Int.reduceMul, e]; try refine okTr_and rfl ?_)
  exact FinK.finA r133 []
theorem frame_Size (n : Int) (n1 : n ≤ 4611686018427387904) : Ct Tryz.prog 133 [iA n] [] (fun _ => iA (sizeF n)) [] (fun _ => []) := (frame_Size0 n n1).toCt cl cl
theorem frame_bound0 (m : Int) : Does Tryz.prog 117 [iA m] [] (iA (mfr m)) [] := by
  have e := mn m 2097152
  refine Does.runA Tryz.func117 b117 n117 Tryz.ntmps117 ?_; simp only [c117, go_sem, Nat.reduceAdd, Nat.reduceMul, Int.reduceToNat, Nat.reduceLeDiff, Int.reduceLE, Int.reduceLT, ↓reduceIte, Int.reduceBEq, Int.reduceBNe, Int.reduceAdd, Int.reduceSub, Int.reduceMul, e]; try refine okTr_and rfl ?_
  ((refine FinK.finB r117 [] ?_ ?_); (· first | with_reducible rfl | (simp [mfr]; done) | rfl); (· simp [resAL, resA1, loadA, oneOr, mfr]))
theorem frame_bound (m : Int) : Ct Tryz.prog 117 [iA m] [] (fun _ => iA (mfr m)) [] (fun _ => []) := (frame_bound0 m).toCt cl cl
/-- A writer behind a frame. -/
def WS.frame (s : WS) (p : List Int) : WS := if 2097152 < (p.length : Int) then s.fail 2 else ((s.put (vb p.length)).put p).put (lowBytes 4 (crcI p))
theorem WS.fine.frame {s : WS} (h : s.fine) (p : List Int) : (s.frame p).fine := by
  unfold WS.frame
  split
  · exact h.fail 2
  · exact ((h.put _).put _).put _
theorem frame_Put0 (s : WS) (p : List Int) (hs : s.fine) (hp : Bys p) (hn : p.length ≤ 140737488355328) : Does Tryz.prog 134 [.ref 0 0, slA .u8 p] [wob 1 s, wrow s] (.tup []) [wob 1 (s.frame p), wrow (s.frame p)] := by
  have hr := crcI_range hp
  have e := sum_u64 hp
  refine Does.runA Tryz.func134 b134 n134 Tryz.ntmps134 ?_; simp only [c134, go_sem, Nat.reduceAdd, Nat.reduceMul, Int.reduceToNat, Nat.reduceLeDiff, Int.reduceLE, Int.reduceLT, ↓reduceIte, Int.reduceBEq, Int.reduceBNe, Int.reduceAdd, Int.reduceSub, Int.reduceMul, ints_length]; try refine okTr_and rfl ?_
  by_cases h : 2097152 < (p.length : Int)
  · have q : decide (2097152 < (p.length : Int)) = true := by simpa using h
    (simp only [go_sem, Nat.reduceAdd, Nat.reduceMul, Int.reduceToNat, Nat.reduceLeDiff, Int.reduceLE, Int.reduceLT, ↓reduceIte, Int.reduceBEq, Int.reduceBNe, Int.reduceAdd, Int.reduceSub, Int.reduceMul, q]; try refine okTr_and rfl ?_)
    refine CallK.u2 (Writer_Fail s 2 0 1 (by decide)) rfl rfl ?_; (simp only [go_sem, Nat.reduceAdd, Nat.reduceMul, Int.reduceToNat, Nat.reduceLeDiff, Int.reduceLE, Int.reduceLT, ↓reduceIte, Int.reduceBEq, Int.reduceBNe, Int.reduceAdd, Int.reduceSub, Int.reduceMul]; try refine okTr_and rfl ?_)
    ((refine FinK.finB r134 [0, 1] ?_ ?_); (· first | with_reducible rfl | (simp [WS.frame, h]; done) | rfl); (· simp [resAL, resA1, loadA, oneOr, WS.frame, h]))
  · have q : decide (2097152 < (p.length : Int)) = false := by simpa using h
    have hf1 : ((s.put (vb p.length)).put p).fine := (hs.put _).put _
    (simp only [go_sem, Nat.reduceAdd, Nat.reduceMul, Int.reduceToNat, Nat.reduceLeDiff, Int.reduceLE, Int.reduceLT, ↓reduceIte, Int.reduceBEq, Int.reduceBNe, Int.reduceAdd, Int.reduceSub, Int.reduceMul, q]; try refine okTr_and rfl ?_)
    refine CallK.u2 (blob_Put s p 0 1 (by decide) hs hn) rfl rfl ?_; (simp only [go_sem, Nat.reduceAdd, Nat.reduceMul, Int.reduceToNat, Nat.reduceLeDiff, Int.reduceLE, Int.reduceLT, ↓reduceIte, Int.reduceBEq, Int.reduceBNe, Int.reduceAdd, Int.reduceSub, Int.reduceMul]; try refine okTr_and rfl ?_)
    refine CallK.p (crc_Sum p hp hn) ?_; (simp only [go_sem, Nat.reduceAdd, Nat.reduceMul, Int.reduceToNat, Nat.reduceLeDiff, Int.reduceLE, Int.reduceLT, ↓reduceIte, Int.reduceBEq, Int.reduceBNe, Int.reduceAdd, Int.reduceSub, Int.reduceMul, e]; try refine okTr_and rfl ?_)
    refine CallK.u2 (Writer_Fixed ((s.put (vb p.length)).put p) (crcI p) 4 0 1 (by decide) hr.1 (by omega) hf1) rfl rfl ?_; (simp only [go_sem, Nat.reduceAdd, Nat.reduceMul, Int.reduceToNat, Nat.reduceLeDiff, Int.reduceLE, Int.reduceLT, ↓reduceIte, Int.reduceBEq, Int.reduceBNe, Int.reduceAdd, Int.reduceSub, Int.reduceMul]; try refine okTr_and rfl ?_)
    ((refine FinK.finB r134 [0, 1] ?_ ?_); (· first | with_reducible rfl | (simp [WS.frame, h, show (min (max (4 : Int) 0) 8).toNat = 4 from rfl]; done) | rfl); (· simp [resAL, resA1, loadA, oneOr, WS.frame, h, show (min (max (4 : Int) 0) 8).toNat = 4 from rfl]))
theorem frame_Put (s : WS) (p : List Int) (i j : Nat) (h : i ≠ j) (hs : s.fine) (hp : Bys p) (hn : p.length ≤ 140737488355328) : Ct Tryz.prog 134 [.ref i 0, slA .u8 p] [(i, wob j s), (j, wrow s)] (fun _ => .tup []) [(i, wob j (s.frame p)), (j, wrow (s.frame p))] (fun _ => []) := Ct.u2 (frame_Put0 s p hs hp hn) i j h cl cl cl cl cl (wob_dead _ _) (wrow_dead _) clo
theorem frame_fit {s : WS} {p : List Int} (h : s.code = 0) (hp : p.length ≤ 2097152) (hm : (s.l.length : Int) + (frameB p).length ≤ s.most) : s.frame p = ⟨s.most, s.l ++ frameB p, 0⟩ := by
  have h4 := lowBytes_len 4 (crcI p)
  rw [frameB_len] at hm
  unfold blobB at hm
  rw [List.length_append] at hm
  unfold WS.frame
  rw [if_neg (by omega)]
  have e1 : s.put (vb p.length) = ⟨s.most, s.l ++ vb p.length, 0⟩ := by rw [WS.put_ok h (by omega)]; cases s; simp at h; simp [h]
  have e2 : (WS.mk s.most (s.l ++ vb p.length) 0).put p = ⟨s.most, s.l ++ vb p.length ++ p, 0⟩ := by rw [WS.put_ok rfl (by simp only [List.length_append]; omega)]
  have e3 : (WS.mk s.most (s.l ++ vb p.length ++ p) 0).put (lowBytes 4 (crcI p)) = ⟨s.most, s.l ++ vb p.length ++ p ++ lowBytes 4 (crcI p), 0⟩ := by rw [WS.put_ok rfl (by simp only [List.length_append]; omega)]
  rw [e1, e2, e3]
  simp [frameB, blobB]
theorem frame_Bytes0 (p : List Int) (hp : Bys p) (hn : p.length ≤ 2097152) : Does Tryz.prog 86 [slA .u8 p] [] (.tup [slA .u8 (frameB p), iA 0]) [] := by
  have hsz := sizeF_le p.length
  have hfr := sizeF_frame (p := p)
  have f0 : (WS.new (sizeF p.length)).fine := WS.fine.new (by omega)
  have hf := frame_fit (s := WS.new (sizeF p.length)) (p := p) rfl hn (by rw [WS.new_is (by omega)]; simp; omega)
  rw [WS.new_is (by omega)] at hf
  refine Does.runA Tryz.func86 b86 n86 Tryz.ntmps86 ?_; simp only [c86, go_sem, Nat.reduceAdd, Nat.reduceMul, Int.reduceToNat, Nat.reduceLeDiff, Int.reduceLE, Int.reduceLT, ↓reduceIte, Int.reduceBEq, Int.reduceBNe, Int.reduceAdd, Int.reduceSub, Int.reduceMul, ints_length]; try refine okTr_and rfl ?_
  refine CallK.p (frame_Size p.length (by omega)) ?_; (simp only [go_sem, Nat.reduceAdd, Nat.reduceMul, Int.reduceToNat, Nat.reduceLeDiff, Int.reduceLE, Int.reduceLT, ↓reduceIte, Int.reduceBEq, Int.reduceBNe, Int.reduceAdd, Int.reduceSub, Int.reduceMul]; try refine okTr_and rfl ?_)
  refine CallK.n (pen_New (sizeF p.length)) ?_; (simp only [go_sem, Nat.reduceAdd, Nat.reduceMul, Int.reduceToNat, Nat.reduceLeDiff, Int.reduceLE, Int.reduceLT, ↓reduceIte, Int.reduceBEq, Int.reduceBNe, Int.reduceAdd, Int.reduceSub, Int.reduceMul]; try refine okTr_and rfl ?_)
  refine CallK.u2 (frame_Put (WS.new (sizeF p.length)) p _ _ (by decide) f0 hp (by omega)) rfl rfl ?_; (simp only [go_sem, Nat.reduceAdd, Nat.reduceMul, Int.reduceToNat, Nat.reduceLeDiff, Int.reduceLE, Int.reduceLT, ↓reduceIte, Int.reduceBEq, Int.reduceBNe, Int.reduceAdd, Int.reduceSub, Int.reduceMul]; try refine okTr_and rfl ?_)
  have hfin := (f0.frame p).len
  refine CallK.r2 (Writer_Bytes ((WS.new (sizeF p.length)).frame p) _ _ (by decide) hfin) rfl rfl ?_; (simp only [go_sem, Nat.reduceAdd, Nat.reduceMul, Int.reduceToNat, Nat.reduceLeDiff, Int.reduceLE, Int.reduceLT, ↓reduceIte, Int.reduceBEq, Int.reduceBNe, Int.reduceAdd, Int.reduceSub, Int.reduceMul]; try refine okTr_and rfl ?_)
  rw [WS.new_is (by omega), hf]
  ((refine FinK.finB r86 [] ?_ ?_); (· first | with_reducible rfl | (simp [WS.bytes]; done) | rfl); (· simp [resAL, resA1, loadA, oneOr, WS.bytes]))
theorem frame_Bytes (p : List Int) (hp : Bys p) (hn : p.length ≤ 2097152) : Ct Tryz.prog 86 [slA .u8 p] [] (fun _ => .tup [slA .u8 (frameB p), iA 0]) [] (fun _ => []) := (frame_Bytes0 p hp hn).toCt cl cl
theorem frame_checked0 (s : RS) (b : List Int) (x a : Int) (hb : Bys b) (hn : b.length ≤ 140737488355328) : Does Tryz.prog 118 [slA .u8 b, uA x, .fn 38 [.ref 0 0] [], iA a] [rdr s] (.tup []) [rdr (if x = crcI b then s else s.fail 6 a)] := by
  have e := sum_u64 hb
  refine Does.runA Tryz.func118 b118 n118 Tryz.ntmps118 ?_; simp only [c118, go_sem, Nat.reduceAdd, Nat.reduceMul, Int.reduceToNat, Nat.reduceLeDiff, Int.reduceLE, Int.reduceLT, ↓reduceIte, Int.reduceBEq, Int.reduceBNe, Int.reduceAdd, Int.reduceSub, Int.reduceMul]; try refine okTr_and rfl ?_
  refine CallK.p (crc_Sum b hb hn) ?_; (simp only [go_sem, Nat.reduceAdd, Nat.reduceMul, Int.reduceToNat, Nat.reduceLeDiff, Int.reduceLE, Int.reduceLT, ↓reduceIte, Int.reduceBEq, Int.reduceBNe, Int.reduceAdd, Int.reduceSub, Int.reduceMul, e]; try refine okTr_and rfl ?_)
  by_cases h : x = crcI b
  · have q : (crcI b != x) = false := by simp [h]
    (simp only [go_sem, Nat.reduceAdd, Nat.reduceMul, Int.reduceToNat, Nat.reduceLeDiff, Int.reduceLE, Int.reduceLT, ↓reduceIte, Int.reduceBEq, Int.reduceBNe, Int.reduceAdd, Int.reduceSub, Int.reduceMul, q]; try refine okTr_and rfl ?_)
    ((refine FinK.finB r118 [0] ?_ ?_); (· first | with_reducible rfl | (simp [h]; done) | rfl); (· simp [resAL, resA1, loadA, oneOr, h]))
  · have q : (crcI b != x) = true := by simp; exact fun h' => h h'.symm
    (simp only [go_sem, Nat.reduceAdd, Nat.reduceMul, Int.reduceToNat, Nat.reduceLeDiff, Int.reduceLE, Int.reduceLT, ↓reduceIte, Int.reduceBEq, Int.reduceBNe, Int.reduceAdd, Int.reduceSub, Int.reduceMul, q]; try refine okTr_and rfl ?_)
    refine CallK.u1 (Reader_Fail s 6 a 0) rfl ?_; (simp only [go_sem, Nat.reduceAdd, Nat.reduceMul, Int.reduceToNat, Nat.reduceLeDiff, Int.reduceLE, Int.reduceLT, ↓reduceIte, Int.reduceBEq, Int.reduceBNe, Int.reduceAdd, Int.reduceSub, Int.reduceMul]; try refine okTr_and rfl ?_)
    ((refine FinK.finB r118 [0] ?_ ?_); (· first | with_reducible rfl | (simp [h]; done) | rfl); (· simp [resAL, resA1, loadA, oneOr, h]))
theorem frame_checked (s : RS) (b : List Int) (x a : Int) (i : Nat) (hb : Bys b) (hn : b.length ≤ 140737488355328) : Ct Tryz.prog 118 [slA .u8 b, uA x, .fn 38 [.ref i 0] [], iA a] [(i, rdr s)] (fun _ => .tup []) [(i, rdr (if x = crcI b then s else s.fail 6 a))] (fun _ => []) :=
  Ct.u1 (frame_checked0 s b x a hb hn) i cl (fun ρ => rdr_ren ρ _) (fun ρ => rdr_ren ρ _) (rdr_dead s) clo
theorem frame_Read0 (s : RS) (m : Int) (hs : ROk s) (m1 : m < 9223372036854775808) : Does Tryz.prog 52 [.ref 0 0, iA m] [rdr s] (slA .u8 (s.frame m).2) [rdr ((s.frame m).1)] := by
  obtain ⟨a1, a2⟩ := RS.ok.blob hs (mfr m)
  have hsh := blob_short hs (mfr m)
  have hlen := hs.len
  refine Does.runA Tryz.func52 b52 n52 Tryz.ntmps52 ?_; simp only [c52, go_sem, Nat.reduceAdd, Nat.reduceMul, Int.reduceToNat, Nat.reduceLeDiff, Int.reduceLE, Int.reduceLT, ↓reduceIte, Int.reduceBEq, Int.reduceBNe, Int.reduceAdd, Int.reduceSub, Int.reduceMul]; try refine okTr_and rfl ?_
  refine CallK.p (frame_bound m) ?_; (simp only [go_sem, Nat.reduceAdd, Nat.reduceMul, Int.reduceToNat, Nat.reduceLeDiff, Int.reduceLE, Int.reduceLT, ↓reduceIte, Int.reduceBEq, Int.reduceBNe, Int.reduceAdd, Int.reduceSub, Int.reduceMul]; try refine okTr_and rfl ?_)
  refine CallK.u1 (blob_Read s (mfr m) _ (by unfold mfr; omega) hs) rfl ?_; (simp only [go_sem, Nat.reduceAdd, Nat.reduceMul, Int.reduceToNat, Nat.reduceLeDiff, Int.reduceLE, Int.reduceLT, ↓reduceIte, Int.reduceBEq, Int.reduceBNe, Int.reduceAdd, Int.reduceSub, Int.reduceMul]; try refine okTr_and rfl ?_)
  generalize hB : s.blob (mfr m) = B at *
  obtain ⟨t, p⟩ := B
  simp only at a1 a2 hsh
  have e : s.frame m = if (t.fixed 4).1.code = 0 then (if (t.fixed 4).2 = crcI p then ((t.fixed 4).1, p) else ((t.fixed 4).1.fail 6 t.at_, [])) else ((t.fixed 4).1, []) := by
    unfold RS.frame; rw [hB]
  refine CallK.r1 (Reader_At t _) rfl ?_; (simp only [go_sem, Nat.reduceAdd, Nat.reduceMul, Int.reduceToNat, Nat.reduceLeDiff, Int.reduceLE, Int.reduceLT, ↓reduceIte, Int.reduceBEq, Int.reduceBNe, Int.reduceAdd, Int.reduceSub, Int.reduceMul]; try refine okTr_and rfl ?_)
  refine CallK.u1 (blob_ReadFixed t 4 _ a1) rfl ?_; (simp only [go_sem, Nat.reduceAdd, Nat.reduceMul, Int.reduceToNat, Nat.reduceLeDiff, Int.reduceLE, Int.reduceLT, ↓reduceIte, Int.reduceBEq, Int.reduceBNe, Int.reduceAdd, Int.reduceSub, Int.reduceMul]; try refine okTr_and rfl ?_)
  refine CallK.u1 (frame_checked (t.fixed 4).1 p (t.fixed 4).2 t.at_ _ hsh.2 (by omega)) rfl ?_; (simp only [go_sem, Nat.reduceAdd, Nat.reduceMul, Int.reduceToNat, Nat.reduceLeDiff, Int.reduceLE, Int.reduceLT, ↓reduceIte, Int.reduceBEq, Int.reduceBNe, Int.reduceAdd, Int.reduceSub, Int.reduceMul]; try refine okTr_and rfl ?_)
  by_cases hc : (t.fixed 4).1.code = 0
  · rw [if_pos hc] at e
    by_cases hx : (t.fixed 4).2 = crcI p
    · rw [if_pos hx] at e
      rw [if_pos hx]
      refine CallK.r1 (Reader_Good (t.fixed 4).1 _) rfl ?_; (simp only [go_sem, Nat.reduceAdd, Nat.reduceMul, Int.reduceToNat, Nat.reduceLeDiff, Int.reduceLE, Int.reduceLT, ↓reduceIte, Int.reduceBEq, Int.reduceBNe, Int.reduceAdd, Int.reduceSub, Int.reduceMul, good_true hc]; try refine okTr_and rfl ?_)
      ((refine FinK.finB r52 [0] ?_ ?_); (· first | with_reducible rfl | (simp [e]; done) | rfl); (· simp [resAL, resA1, loadA, oneOr, e]))
    · rw [if_neg hx] at e
      rw [if_neg hx]
      have hb : ¬ ((t.fixed 4).1.fail 6 t.at_).code = 0 := fail_not0 _ _ hc (by decide)
      refine CallK.r1 (Reader_Good ((t.fixed 4).1.fail 6 t.at_) _) rfl ?_; (simp only [go_sem, Nat.reduceAdd, Nat.reduceMul, Int.reduceToNat, Nat.reduceLeDiff, Int.reduceLE, Int.reduceLT, ↓reduceIte, Int.reduceBEq, Int.reduceBNe, Int.reduceAdd, Int.reduceSub, Int.reduceMul, good_false hb]; try refine okTr_and rfl ?_)
      (refine FinK.untag 4 rfl ?_; simp only [untag1_sl, List.set_cons_zero, List.set_cons_succ])
      ((refine FinK.finB r52 [0] ?_ ?_); (· first | with_reducible rfl | (simp [e]; done) | rfl); (· simp [resAL, resA1, loadA, oneOr, e]))
  · rw [if_neg hc] at e
    have hk : ((if (t.fixed 4).2 = crcI p then (t.fixed 4).1 else (t.fixed 4).1.fail 6 t.at_)) = (t.fixed 4).1 := by
      split
      · rfl
      · unfold RS.fail; rw [if_neg hc]
    rw [hk]
    refine CallK.r1 (Reader_Good (t.fixed 4).1 _) rfl ?_; (simp only [go_sem, Nat.reduceAdd, Nat.reduceMul, Int.reduceToNat, Nat.reduceLeDiff, Int.reduceLE, Int.reduceLT, ↓reduceIte, Int.reduceBEq, Int.reduceBNe, Int.reduceAdd, Int.reduceSub, Int.reduceMul, good_false hc]; try refine okTr_and rfl ?_)
    (refine FinK.untag 4 rfl ?_; simp only [untag1_sl, List.set_cons_zero, List.set_cons_succ])
    ((refine FinK.finB r52 [0] ?_ ?_); (· first | with_reducible rfl | (simp [e]; done) | rfl); (· simp [resAL, resA1, loadA, oneOr, e]))
theorem frame_Read (s : RS) (m : Int) (i : Nat) (hs : ROk s) (m1 : m < 9223372036854775808) : Ct Tryz.prog 52 [.ref i 0, iA m] [(i, rdr s)] (fun _ => slA .u8 (s.frame m).2) [(i, rdr ((s.frame m).1))] (fun _ => []) := Ct.u1 (frame_Read0 s m hs m1) i cl (fun ρ => rdr_ren ρ _) (fun ρ => rdr_ren ρ _) (rdr_dead _) cl
theorem ref08_Bytes0 (p : List Int) (hp : Bys p) (hn : p.length ≤ 100000000) : Does Tryz.prog 99 [slA .u8 p] [] (ownA 0 (frameB p)) [.row 1 (frameB p).length] := by
  have hr := crcI_range hp
  have e := sum_u64 hp
  have hl := lowBytes_len 4 (crcI p)
  have hbl : (blobB p).length ≤ p.length + 10 := by unfold blobB; rw [List.length_append]; have := (vb_len (p.length : Int)).2; omega
  have ef : blobB p ++ lowBytes 4 (crcI p) = frameB p := rfl
  have ef2 : (blobB p).length + (lowBytes 4 (crcI p)).length = (frameB p).length := by rw [frameB_len, hl]
  refine Does.runA Tryz.func99 b99 n99 Tryz.ntmps99 ?_; simp only [c99, go_sem, Nat.reduceAdd, Nat.reduceMul, Int.reduceToNat, Nat.reduceLeDiff, Int.reduceLE, Int.reduceLT, ↓reduceIte, Int.reduceBEq, Int.reduceBNe, Int.reduceAdd, Int.reduceSub, Int.reduceMul]; try refine okTr_and rfl ?_
  refine CallK.n (ref06_Bytes p (by omega)) ?_; (simp only [go_sem, Nat.reduceAdd, Nat.reduceMul, Int.reduceToNat, Nat.reduceLeDiff, Int.reduceLE, Int.reduceLT, ↓reduceIte, Int.reduceBEq, Int.reduceBNe, Int.reduceAdd, Int.reduceSub, Int.reduceMul]; try refine okTr_and rfl ?_)
  refine CallK.p (ref07_Sum p hp (by omega)) ?_; (simp only [go_sem, Nat.reduceAdd, Nat.reduceMul, Int.reduceToNat, Nat.reduceLeDiff, Int.reduceLE, Int.reduceLT, ↓reduceIte, Int.reduceBEq, Int.reduceBNe, Int.reduceAdd, Int.reduceSub, Int.reduceMul, e]; try refine okTr_and rfl ?_)
  refine CallK.p (ref03_Fixed (crcI p) 4 hr.1 (by omega) (by omega)) ?_; (simp only [go_sem, Nat.reduceAdd, Nat.reduceMul, Int.reduceToNat, Nat.reduceLeDiff, Int.reduceLE, Int.reduceLT, ↓reduceIte, Int.reduceBEq, Int.reduceBNe, Int.reduceAdd, Int.reduceSub, Int.reduceMul, ints_append, ints_length, ef, ef2]; try refine okTr_and rfl ?_)
  (repeat ((with_reducible refine And.intro ?_ ?_); (· exact sd)))
  exact FinK.finA r99 [0]
theorem ref08_Bytes (p : List Int) (hp : Bys p) (hn : p.length ≤ 100000000) : Ct Tryz.prog 99 [slA .u8 p] [] (fun n => ownA n (frameB p)) [] (fun _ => [.row 1 (frameB p).length]) := Ct.n (ref08_Bytes0 p hp hn) cl cl clo
end Go.Proofs.YtnfagphepkeedaaGreat
end
section
namespace Go.Proofs.YtnfagphepkeedaaGreat
open Go.RowKit

abbrev hdA (h : Hd) : AV := .agg [iA h.ver, uA h.ep, uA h.base]
abbrev tholS : ByteArray := ⟨#[84, 72, 79, 76]⟩
theorem thol_bys : Bys thol := by unfold Bys thol; decide
theorem text_is {l : List Int} (hl : Bys l) : ((bytesOf (ints .u8 l)).toList == tholS.toList) = sameB l thol := bytes_same hl thol_bys
theorem thol_text : (tholS.data.toList.map fun b => AV.lit (.int .u8 b.toNat)) = ints .u8 thol := rfl
theorem vb9 {x : Int} (h : x < 4611686018427387904) : (vb x).length ≤ 9 := by
  have h1 := vb_mono (x := x) (y := 4611686018427387903) (by omega)
  have h2 : (vb 4611686018427387903).length = 9 := by kernel_rfl
  omega
theorem hMost0 : Does Tryz.prog 101 [] [] (iA 27) [] := by
  have h2 : ((vb 4611686018427387903).length : Int) = 9 := by have : (vb 4611686018427387903).length = 9 := by kernel_rfl
                                                              omega
  have e1 : IntKind.i64.wrap 18 = 18 := by decide
  have e2 : IntKind.i64.wrap 23 = 23 := by decide
  have e3 : IntKind.i64.wrap 27 = 27 := by decide
  refine Does.runA Tryz.func101 b101 n101 Tryz.ntmps101 ?_; simp only [c101, go_sem, Nat.reduceAdd, Nat.reduceMul, Int.reduceToNat, Nat.reduceLeDiff, Int.reduceLE, Int.reduceLT, ↓reduceIte, Int.reduceBEq, Int.reduceBNe, Int.reduceAdd, Int.reduceSub, Int.reduceMul]; try refine okTr_and rfl ?_
  refine CallK.p (varint_Size 4611686018427387903 (by omega) (by omega)) ?_; (simp only [go_sem, Nat.reduceAdd, Nat.reduceMul, Int.reduceToNat, Nat.reduceLeDiff, Int.reduceLE, Int.reduceLT, ↓reduceIte, Int.reduceBEq, Int.reduceBNe, Int.reduceAdd, Int.reduceSub, Int.reduceMul, h2, e1, e2, e3]; try refine okTr_and rfl ?_)
  (repeat ((with_reducible refine And.intro ?_ ?_); (· exact sd)))
  exact FinK.finA r101 []
theorem hMost : Ct Tryz.prog 101 [] [] (fun _ => iA 27) [] (fun _ => []) := (hMost0).toCt cl cl
theorem header_based0 (v : Int) : Does Tryz.prog 156 [iA v] [] (bA (v == 1)) [] := by
  refine Does.runA Tryz.func156 b156 n156 Tryz.ntmps156 ?_; simp only [c156, go_sem, Nat.reduceAdd, Nat.reduceMul, Int.reduceToNat, Nat.reduceLeDiff, Int.reduceLE, Int.reduceLT, ↓reduceIte, Int.reduceBEq, Int.reduceBNe, Int.reduceAdd, Int.reduceSub, Int.reduceMul]; try refine okTr_and rfl ?_
  exact FinK.finA r156 []
theorem header_based (v : Int) : Ct Tryz.prog 156 [iA v] [] (fun _ => bA (v == 1)) [] (fun _ => []) := (header_based0 v).toCt cl cl
theorem header_Right0 (h : Hd) : Does Tryz.prog 151 [hdA h] [] (bA (rightH h)) [] := by
  refine Does.runA Tryz.func151 b151 n151 Tryz.ntmps151 ?_; simp only [c151, go_sem, Nat.reduceAdd, Nat.reduceMul, Int.reduceToNat, Nat.reduceLeDiff, Int.reduceLE, Int.reduceLT, ↓reduceIte, Int.reduceBEq, Int.reduceBNe, Int.reduceAdd, Int.reduceSub, Int.reduceMul]; try refine okTr_and rfl ?_
  by_cases h1 : 1 ≤ h.ver
  · have q1 : decide (1 ≤ h.ver) = true := decide_eq_true h1
    by_cases h2 : h.ver ≤ 3
    · have q2 : decide (h.ver ≤ 3) = true := decide_eq_true h2
      have q12 : decide (1 ≤ h.ver ∧ h.ver ≤ 3) = true := decide_eq_true ⟨h1, h2⟩
      (simp only [go_sem, Nat.reduceAdd, Nat.reduceMul, Int.reduceToNat, Nat.reduceLeDiff, Int.reduceLE, Int.reduceLT, ↓reduceIte, Int.reduceBEq, Int.reduceBNe, Int.reduceAdd, Int.reduceSub, Int.reduceMul, q1, q2]; try refine okTr_and rfl ?_)
      refine CallK.p (epoch_Right h.ep) ?_
      cases q3 : epRight h.ep
      · have e : rightH h = false := by unfold rightH; rw [q12, q3]; rfl
        (simp only [go_sem, Nat.reduceAdd, Nat.reduceMul, Int.reduceToNat, Nat.reduceLeDiff, Int.reduceLE, Int.reduceLT, ↓reduceIte, Int.reduceBEq, Int.reduceBNe, Int.reduceAdd, Int.reduceSub, Int.reduceMul, q3]; try refine okTr_and rfl ?_)
        ((refine FinK.finB r151 [] ?_ ?_); (· first | with_reducible rfl | (simp [e]; done) | rfl); (· simp [resAL, resA1, loadA, oneOr, e]))
      · (simp only [go_sem, Nat.reduceAdd, Nat.reduceMul, Int.reduceToNat, Nat.reduceLeDiff, Int.reduceLE, Int.reduceLT, ↓reduceIte, Int.reduceBEq, Int.reduceBNe, Int.reduceAdd, Int.reduceSub, Int.reduceMul, q3]; try refine okTr_and rfl ?_)
        refine CallK.p (epoch_Pos h.base) ?_
        cases q4 : epPos h.base
        · have e : rightH h = false := by unfold rightH; rw [q12, q3, q4]; rfl
          (simp only [go_sem, Nat.reduceAdd, Nat.reduceMul, Int.reduceToNat, Nat.reduceLeDiff, Int.reduceLE, Int.reduceLT, ↓reduceIte, Int.reduceBEq, Int.reduceBNe, Int.reduceAdd, Int.reduceSub, Int.reduceMul, q4]; try refine okTr_and rfl ?_)
          ((refine FinK.finB r151 [] ?_ ?_); (· first | with_reducible rfl | (simp [e]; done) | rfl); (· simp [resAL, resA1, loadA, oneOr, e]))
        · (simp only [go_sem, Nat.reduceAdd, Nat.reduceMul, Int.reduceToNat, Nat.reduceLeDiff, Int.reduceLE, Int.reduceLT, ↓reduceIte, Int.reduceBEq, Int.reduceBNe, Int.reduceAdd, Int.reduceSub, Int.reduceMul, q4]; try refine okTr_and rfl ?_)
          refine CallK.p (header_based h.ver) ?_
          by_cases h5 : h.ver = 1
          · have q5 : (h.ver == 1) = true := by simpa using h5
            have e : rightH h = true := by unfold rightH; rw [q12, q3, q4, decide_eq_true h5]; rfl
            (simp only [go_sem, Nat.reduceAdd, Nat.reduceMul, Int.reduceToNat, Nat.reduceLeDiff, Int.reduceLE, Int.reduceLT, ↓reduceIte, Int.reduceBEq, Int.reduceBNe, Int.reduceAdd, Int.reduceSub, Int.reduceMul, q5]; try refine okTr_and rfl ?_)
            ((refine FinK.finB r151 [] ?_ ?_); (· first | with_reducible rfl | (simp [e]; done) | rfl); (· simp [resAL, resA1, loadA, oneOr, e]))
          · have q5 : (h.ver == 1) = false := by simpa using h5
            have e : (h.base == 0) = rightH h := by
              unfold rightH; rw [q12, q3, q4, decide_eq_false h5, Bool.eq_iff_iff]; simp
            (simp only [go_sem, Nat.reduceAdd, Nat.reduceMul, Int.reduceToNat, Nat.reduceLeDiff, Int.reduceLE, Int.reduceLT, ↓reduceIte, Int.reduceBEq, Int.reduceBNe, Int.reduceAdd, Int.reduceSub, Int.reduceMul, q5, e]; try refine okTr_and rfl ?_)
            exact FinK.finA r151 []
    · have q2 : decide (h.ver ≤ 3) = false := decide_eq_false h2
      have e : rightH h = false := by unfold rightH; rw [decide_eq_false (by omega)]; rfl
      (simp only [go_sem, Nat.reduceAdd, Nat.reduceMul, Int.reduceToNat, Nat.reduceLeDiff, Int.reduceLE, Int.reduceLT, ↓reduceIte, Int.reduceBEq, Int.reduceBNe, Int.reduceAdd, Int.reduceSub, Int.reduceMul, q1, q2]; try refine okTr_and rfl ?_)
      ((refine FinK.finB r151 [] ?_ ?_); (· first | with_reducible rfl | (simp [e]; done) | rfl); (· simp [resAL, resA1, loadA, oneOr, e]))
  · have q1 : decide (1 ≤ h.ver) = false := decide_eq_false h1
    have e : rightH h = false := by unfold rightH; rw [decide_eq_false (by omega)]; rfl
    (simp only [go_sem, Nat.reduceAdd, Nat.reduceMul, Int.reduceToNat, Nat.reduceLeDiff, Int.reduceLE, Int.reduceLT, ↓reduceIte, Int.reduceBEq, Int.reduceBNe, Int.reduceAdd, Int.reduceSub, Int.reduceMul, q1]; try refine okTr_and rfl ?_)
    ((refine FinK.finB r151 [] ?_ ?_); (· first | with_reducible rfl | (simp [e]; done) | rfl); (· simp [resAL, resA1, loadA, oneOr, e]))
theorem header_Right (h : Hd) : Ct Tryz.prog 151 [hdA h] [] (fun _ => bA (rightH h)) [] (fun _ => []) := (header_Right0 h).toCt cl cl
theorem Writer_Thol0 (s : WS) (hs : s.fine) : Does Tryz.prog 178 [.ref 0 0, .lit (.string tholS)] [wob 1 s, wrow s] (.tup []) [wob 1 (s.put thol), wrow (s.put thol)] := by
  refine Does.runA Tryz.func178 b178 n178 Tryz.ntmps178 ?_; simp only [c178, go_sem, Nat.reduceAdd, Nat.reduceMul, Int.reduceToNat, Nat.reduceLeDiff, Int.reduceLE, Int.reduceLT, ↓reduceIte, Int.reduceBEq, Int.reduceBNe, Int.reduceAdd, Int.reduceSub, Int.reduceMul, thol_text]; try refine okTr_and rfl ?_
  (repeat ((with_reducible refine And.intro ?_ ?_); (· exact sd)))
  refine CallK.u2 (Writer_Put s thol 0 1 (by decide) hs.ok (hs.room _)) rfl rfl ?_; (simp only [go_sem, Nat.reduceAdd, Nat.reduceMul, Int.reduceToNat, Nat.reduceLeDiff, Int.reduceLE, Int.reduceLT, ↓reduceIte, Int.reduceBEq, Int.reduceBNe, Int.reduceAdd, Int.reduceSub, Int.reduceMul]; try refine okTr_and rfl ?_)
  exact FinK.finA r178 [0, 1]
theorem Writer_Thol (s : WS) (i j : Nat) (h : i ≠ j) (hs : s.fine) : Ct Tryz.prog 178 [.ref i 0, .lit (.string tholS)] [(i, wob j s), (j, wrow s)] (fun _ => .tup []) [(i, wob j (s.put thol)), (j, wrow (s.put thol))] (fun _ => []) := Ct.u2 (Writer_Thol0 s hs) i j h cl cl cl cl cl (wob_dead _ _) (wrow_dead _) clo
def WS.epput (s : WS) (x : Int) (b : Bool) : WS := if b = true then s.put (vb x) else s.fail 3
theorem epoch_put0 (s : WS) (x : Int) (b : Bool) (h0 : 0 ≤ x) (h1 : x < 18446744073709551616) (hs : s.fine) : Does Tryz.prog 169 [.ref 0 0, uA x, bA b] [wob 1 s, wrow s] (.tup []) [wob 1 (s.epput x b), wrow (s.epput x b)] := by
  refine Does.runA Tryz.func169 b169 n169 Tryz.ntmps169 ?_; simp only [c169, go_sem, Nat.reduceAdd, Nat.reduceMul, Int.reduceToNat, Nat.reduceLeDiff, Int.reduceLE, Int.reduceLT, ↓reduceIte, Int.reduceBEq, Int.reduceBNe, Int.reduceAdd, Int.reduceSub, Int.reduceMul]; try refine okTr_and rfl ?_
  cases b
  · (simp only [go_sem, Nat.reduceAdd, Nat.reduceMul, Int.reduceToNat, Nat.reduceLeDiff, Int.reduceLE, Int.reduceLT, ↓reduceIte, Int.reduceBEq, Int.reduceBNe, Int.reduceAdd, Int.reduceSub, Int.reduceMul]; try refine okTr_and rfl ?_)
    refine CallK.u2 (Writer_Fail s 3 0 1 (by decide)) rfl rfl ?_; (simp only [go_sem, Nat.reduceAdd, Nat.reduceMul, Int.reduceToNat, Nat.reduceLeDiff, Int.reduceLE, Int.reduceLT, ↓reduceIte, Int.reduceBEq, Int.reduceBNe, Int.reduceAdd, Int.reduceSub, Int.reduceMul]; try refine okTr_and rfl ?_)
    ((refine FinK.finB r169 [0, 1] ?_ ?_); (· first | with_reducible rfl | (simp [WS.epput]; done) | rfl); (· simp [resAL, resA1, loadA, oneOr, WS.epput]))
  · (simp only [go_sem, Nat.reduceAdd, Nat.reduceMul, Int.reduceToNat, Nat.reduceLeDiff, Int.reduceLE, Int.reduceLT, ↓reduceIte, Int.reduceBEq, Int.reduceBNe, Int.reduceAdd, Int.reduceSub, Int.reduceMul]; try refine okTr_and rfl ?_)
    refine CallK.u2 (varint_Put s x 0 1 (by decide) h0 h1 hs.ok (hs.room _)) rfl rfl ?_; (simp only [go_sem, Nat.reduceAdd, Nat.reduceMul, Int.reduceToNat, Nat.reduceLeDiff, Int.reduceLE, Int.reduceLT, ↓reduceIte, Int.reduceBEq, Int.reduceBNe, Int.reduceAdd, Int.reduceSub, Int.reduceMul]; try refine okTr_and rfl ?_)
    ((refine FinK.finB r169 [0, 1] ?_ ?_); (· first | with_reducible rfl | (simp [WS.epput]; done) | rfl); (· simp [resAL, resA1, loadA, oneOr, WS.epput]))
theorem epoch_put (s : WS) (x : Int) (b : Bool) (i j : Nat) (h : i ≠ j) (h0 : 0 ≤ x) (h1 : x < 18446744073709551616) (hs : s.fine) : Ct Tryz.prog 169 [.ref i 0, uA x, bA b] [(i, wob j s), (j, wrow s)] (fun _ => .tup []) [(i, wob j (s.epput x b)), (j, wrow (s.epput x b))] (fun _ => []) := Ct.u2 (epoch_put0 s x b h0 h1 hs) i j h cl cl cl cl cl (wob_dead _ _) (wrow_dead _) clo
theorem epoch_Put0 (s : WS) (x : Int) (h0 : 0 ≤ x) (h1 : x < 18446744073709551616) (hs : s.fine) : Does Tryz.prog 136 [.ref 0 0, uA x] [wob 1 s, wrow s] (.tup []) [wob 1 (s.epput x (epRight x)), wrow (s.epput x (epRight x))] := by
  refine Does.runA Tryz.func136 b136 n136 Tryz.ntmps136 ?_; simp only [c136, go_sem, Nat.reduceAdd, Nat.reduceMul, Int.reduceToNat, Nat.reduceLeDiff, Int.reduceLE, Int.reduceLT, ↓reduceIte, Int.reduceBEq, Int.reduceBNe, Int.reduceAdd, Int.reduceSub, Int.reduceMul]; try refine okTr_and rfl ?_
  refine CallK.p (epoch_Right x) ?_; (simp only [go_sem, Nat.reduceAdd, Nat.reduceMul, Int.reduceToNat, Nat.reduceLeDiff, Int.reduceLE, Int.reduceLT, ↓reduceIte, Int.reduceBEq, Int.reduceBNe, Int.reduceAdd, Int.reduceSub, Int.reduceMul]; try refine okTr_and rfl ?_)
  refine CallK.u2 (epoch_put s x (epRight x) 0 1 (by decide) h0 h1 hs) rfl rfl ?_; (simp only [go_sem, Nat.reduceAdd, Nat.reduceMul, Int.reduceToNat, Nat.reduceLeDiff, Int.reduceLE, Int.reduceLT, ↓reduceIte, Int.reduceBEq, Int.reduceBNe, Int.reduceAdd, Int.reduceSub, Int.reduceMul]; try refine okTr_and rfl ?_)
  exact FinK.finA r136 [0, 1]
theorem epoch_Put (s : WS) (x : Int) (i j : Nat) (h : i ≠ j) (h0 : 0 ≤ x) (h1 : x < 18446744073709551616) (hs : s.fine) : Ct Tryz.prog 136 [.ref i 0, uA x] [(i, wob j s), (j, wrow s)] (fun _ => .tup []) [(i, wob j (s.epput x (epRight x))), (j, wrow (s.epput x (epRight x)))] (fun _ => []) := Ct.u2 (epoch_Put0 s x h0 h1 hs) i j h cl cl cl cl cl (wob_dead _ _) (wrow_dead _) clo
theorem epoch_PutPos0 (s : WS) (x : Int) (h0 : 0 ≤ x) (h1 : x < 18446744073709551616) (hs : s.fine) : Does Tryz.prog 137 [.ref 0 0, uA x] [wob 1 s, wrow s] (.tup []) [wob 1 (s.epput x (epPos x)), wrow (s.epput x (epPos x))] := by
  refine Does.runA Tryz.func137 b137 n137 Tryz.ntmps137 ?_; simp only [c137, go_sem, Nat.reduceAdd, Nat.reduceMul, Int.reduceToNat, Nat.reduceLeDiff, Int.reduceLE, Int.reduceLT, ↓reduceIte, Int.reduceBEq, Int.reduceBNe, Int.reduceAdd, Int.reduceSub, Int.reduceMul]; try refine okTr_and rfl ?_
  refine CallK.p (epoch_Pos x) ?_; (simp only [go_sem, Nat.reduceAdd, Nat.reduceMul, Int.reduceToNat, Nat.reduceLeDiff, Int.reduceLE, Int.reduceLT, ↓reduceIte, Int.reduceBEq, Int.reduceBNe, Int.reduceAdd, Int.reduceSub, Int.reduceMul]; try refine okTr_and rfl ?_)
  refine CallK.u2 (epoch_put s x (epPos x) 0 1 (by decide) h0 h1 hs) rfl rfl ?_; (simp only [go_sem, Nat.reduceAdd, Nat.reduceMul, Int.reduceToNat, Nat.reduceLeDiff, Int.reduceLE, Int.reduceLT, ↓reduceIte, Int.reduceBEq, Int.reduceBNe, Int.reduceAdd, Int.reduceSub, Int.reduceMul]; try refine okTr_and rfl ?_)
  exact FinK.finA r137 [0, 1]
theorem epoch_PutPos (s : WS) (x : Int) (i j : Nat) (h : i ≠ j) (h0 : 0 ≤ x) (h1 : x < 18446744073709551616) (hs : s.fine) : Ct Tryz.prog 137 [.ref i 0, uA x] [(i, wob j s), (j, wrow s)] (fun _ => .tup []) [(i, wob j (s.epput x (epPos x))), (j, wrow (s.epput x (epPos x)))] (fun _ => []) := Ct.u2 (epoch_PutPos0 s x h0 h1 hs) i j h cl cl cl cl cl (wob_dead _ _) (wrow_dead _) clo
theorem headerB_27 {h : Hd} (hr : rightH h = true) : (plainB h).length ≤ 23 ∧ (headerB h).length ≤ 27 := by
  obtain ⟨h1, h2, h3, h4⟩ := rightH_iff.1 hr
  have a := vb9 h2.2
  have b := vb9 h3
  have c := headerB_len h
  have d : (plainB h).length ≤ 23 := by
    unfold plainB
    simp only [List.length_append, thol, List.length_cons, List.length_nil]
    split
    · omega
    · simp only [List.length_nil]; omega
  exact ⟨d, by omega⟩
theorem header_plain0 (h : Hd) (hr : rightH h = true) (hb : 0 ≤ h.base) : Does Tryz.prog 153 [hdA h] [] (slA .u8 (plainB h)) [] := by
  obtain ⟨h1, h2, h3, h4⟩ := rightH_iff.1 hr
  have a := vb9 h2.2
  have b := vb9 h3
  have ew : IntKind.u8.wrap h.ver = h.ver := IntWalk.u8_in _ (by omega)
  have f0 : (WS.new 27).fine := WS.fine.new (by omega)
  have f1 := f0.put thol
  have w1 : (WS.new 27).put thol = ⟨27, thol, 0⟩ := by kernel_rfl
  rw [w1] at f1
  have f2 := f1.put [h.ver]
  have w2 : (WS.mk 27 thol 0).put [h.ver] = ⟨27, thol ++ [h.ver], 0⟩ := put_fit rfl (by simp [thol])
  rw [w2] at f2
  have f3 := f2.put (vb h.ep)
  have w3 : (WS.mk 27 (thol ++ [h.ver]) 0).put (vb h.ep) = ⟨27, thol ++ [h.ver] ++ vb h.ep, 0⟩ := put_fit rfl (by simp [thol]; omega)
  rw [w3] at f3
  have w3' : (WS.mk 27 (thol ++ [h.ver]) 0).epput h.ep (epRight h.ep) = ⟨27, thol ++ [h.ver] ++ vb h.ep, 0⟩ := by unfold WS.epput; rw [if_pos (epRight_iff.2 h2), w3]
  have w4 : (WS.mk 27 (thol ++ [h.ver] ++ vb h.ep) 0).put (vb h.base) = ⟨27, thol ++ [h.ver] ++ vb h.ep ++ vb h.base, 0⟩ := put_fit rfl (by simp [thol]; omega)
  have w4' : (WS.mk 27 (thol ++ [h.ver] ++ vb h.ep) 0).epput h.base (epPos h.base) = ⟨27, thol ++ [h.ver] ++ vb h.ep ++ vb h.base, 0⟩ := by unfold WS.epput; rw [if_pos (epPos_iff.2 h3), w4]
  have e1 : ints .u8 [h.ver] = [u8A h.ver] := rfl
  have hl := (headerB_27 hr).1
  refine Does.runA Tryz.func153 b153 n153 Tryz.ntmps153 ?_; simp only [c153, go_sem, Nat.reduceAdd, Nat.reduceMul, Int.reduceToNat, Nat.reduceLeDiff, Int.reduceLE, Int.reduceLT, ↓reduceIte, Int.reduceBEq, Int.reduceBNe, Int.reduceAdd, Int.reduceSub, Int.reduceMul]; try refine okTr_and rfl ?_
  refine CallK.p (hMost) ?_; (simp only [go_sem, Nat.reduceAdd, Nat.reduceMul, Int.reduceToNat, Nat.reduceLeDiff, Int.reduceLE, Int.reduceLT, ↓reduceIte, Int.reduceBEq, Int.reduceBNe, Int.reduceAdd, Int.reduceSub, Int.reduceMul]; try refine okTr_and rfl ?_)
  refine CallK.n (pen_New 27) ?_; (simp only [go_sem, Nat.reduceAdd, Nat.reduceMul, Int.reduceToNat, Nat.reduceLeDiff, Int.reduceLE, Int.reduceLT, ↓reduceIte, Int.reduceBEq, Int.reduceBNe, Int.reduceAdd, Int.reduceSub, Int.reduceMul]; try refine okTr_and rfl ?_)
  refine CallK.u2 (Writer_Thol (WS.new 27) _ _ (by decide) f0) rfl rfl ?_; (simp only [go_sem, Nat.reduceAdd, Nat.reduceMul, Int.reduceToNat, Nat.reduceLeDiff, Int.reduceLE, Int.reduceLT, ↓reduceIte, Int.reduceBEq, Int.reduceBNe, Int.reduceAdd, Int.reduceSub, Int.reduceMul, w1, ew]; try refine okTr_and rfl ?_)
  (repeat ((with_reducible refine And.intro ?_ ?_); (· exact sd)))
  refine CallK.u2 (Writer_Put (WS.mk 27 thol 0) [h.ver] _ _ (by decide) f1.ok (f1.room _)) rfl rfl ?_; (simp only [go_sem, Nat.reduceAdd, Nat.reduceMul, Int.reduceToNat, Nat.reduceLeDiff, Int.reduceLE, Int.reduceLT, ↓reduceIte, Int.reduceBEq, Int.reduceBNe, Int.reduceAdd, Int.reduceSub, Int.reduceMul, w2]; try refine okTr_and rfl ?_)
  refine CallK.u2 (epoch_Put (WS.mk 27 (thol ++ [h.ver]) 0) h.ep _ _ (by decide) (by omega) (by omega) f2) rfl rfl ?_; (simp only [go_sem, Nat.reduceAdd, Nat.reduceMul, Int.reduceToNat, Nat.reduceLeDiff, Int.reduceLE, Int.reduceLT, ↓reduceIte, Int.reduceBEq, Int.reduceBNe, Int.reduceAdd, Int.reduceSub, Int.reduceMul, w3']; try refine okTr_and rfl ?_)
  refine CallK.p (header_based h.ver) ?_
  by_cases hv : h.ver = 1
  · have q5 : (h.ver == 1) = true := by simpa using hv
    have e : plainB h = thol ++ [h.ver] ++ vb h.ep ++ vb h.base := by unfold plainB; rw [if_pos hv]
    have hbs : (WS.mk 27 (plainB h) 0).bytes = plainB h := rfl
    rw [← e] at w4'
    (simp only [go_sem, Nat.reduceAdd, Nat.reduceMul, Int.reduceToNat, Nat.reduceLeDiff, Int.reduceLE, Int.reduceLT, ↓reduceIte, Int.reduceBEq, Int.reduceBNe, Int.reduceAdd, Int.reduceSub, Int.reduceMul, q5]; try refine okTr_and rfl ?_)
    refine CallK.u2 (epoch_PutPos (WS.mk 27 (thol ++ [h.ver] ++ vb h.ep) 0) h.base _ _ (by decide) hb (by omega) f3) rfl rfl ?_; (simp only [go_sem, Nat.reduceAdd, Nat.reduceMul, Int.reduceToNat, Nat.reduceLeDiff, Int.reduceLE, Int.reduceLT, ↓reduceIte, Int.reduceBEq, Int.reduceBNe, Int.reduceAdd, Int.reduceSub, Int.reduceMul, w4']; try refine okTr_and rfl ?_)
    refine CallK.r2 (Writer_Bytes (WS.mk 27 (plainB h) 0) _ _ (by decide) (by show (plainB h).length ≤ _; omega)) rfl rfl ?_; (simp only [go_sem, Nat.reduceAdd, Nat.reduceMul, Int.reduceToNat, Nat.reduceLeDiff, Int.reduceLE, Int.reduceLT, ↓reduceIte, Int.reduceBEq, Int.reduceBNe, Int.reduceAdd, Int.reduceSub, Int.reduceMul, hbs]; try refine okTr_and rfl ?_)
    exact FinK.finA r153 []
  · have q5 : (h.ver == 1) = false := by simpa using hv
    have e : plainB h = thol ++ [h.ver] ++ vb h.ep := by unfold plainB; rw [if_neg hv, List.append_nil]
    have hbs : (WS.mk 27 (plainB h) 0).bytes = plainB h := rfl
    rw [← e]
    (simp only [go_sem, Nat.reduceAdd, Nat.reduceMul, Int.reduceToNat, Nat.reduceLeDiff, Int.reduceLE, Int.reduceLT, ↓reduceIte, Int.reduceBEq, Int.reduceBNe, Int.reduceAdd, Int.reduceSub, Int.reduceMul, q5]; try refine okTr_and rfl ?_)
    refine CallK.r2 (Writer_Bytes (WS.mk 27 (plainB h) 0) _ _ (by decide) (by show (plainB h).length ≤ _; omega)) rfl rfl ?_; (simp only [go_sem, Nat.reduceAdd, Nat.reduceMul, Int.reduceToNat, Nat.reduceLeDiff, Int.reduceLE, Int.reduceLT, ↓reduceIte, Int.reduceBEq, Int.reduceBNe, Int.reduceAdd, Int.reduceSub, Int.reduceMul, hbs]; try refine okTr_and rfl ?_)
    exact FinK.finA r153 []
theorem header_plain (h : Hd) (hr : rightH h = true) (hb : 0 ≤ h.base) : Ct Tryz.prog 153 [hdA h] [] (fun _ => slA .u8 (plainB h)) [] (fun _ => []) := (header_plain0 h hr hb).toCt cl cl
def WS.header (s : WS) (h : Hd) : WS := if rightH h = true then (s.put (plainB h)).put (lowBytes 4 (crcI (plainB h))) else s.fail 3
theorem WS.fine.header {s : WS} (hs : s.fine) (h : Hd) : (s.header h).fine := by
  unfold WS.header; split
  · exact (hs.put _).put _
  · exact hs.fail 3
theorem header_fit {s : WS} {h : Hd} (hr : rightH h = true) (hc : s.code = 0) (hm : (s.l.length : Int) + (headerB h).length ≤ s.most) : s.header h = ⟨s.most, s.l ++ headerB h, 0⟩ := by
  rw [headerB_len] at hm
  have h4 := lowBytes_len 4 (crcI (plainB h))
  unfold WS.header
  rw [if_pos hr, put_fit hc (by omega), put_fit rfl (by simp only [List.length_append]; omega)]
  simp [headerB]
theorem header_Put0 (s : WS) (h : Hd) (hs : s.fine) (hb : 0 ≤ h.base) : Does Tryz.prog 102 [.ref 0 0, hdA h] [wob 1 s, wrow s] (.tup []) [wob 1 (s.header h), wrow (s.header h)] := by
  refine Does.runA Tryz.func102 b102 n102 Tryz.ntmps102 ?_; simp only [c102, go_sem, Nat.reduceAdd, Nat.reduceMul, Int.reduceToNat, Nat.reduceLeDiff, Int.reduceLE, Int.reduceLT, ↓reduceIte, Int.reduceBEq, Int.reduceBNe, Int.reduceAdd, Int.reduceSub, Int.reduceMul]; try refine okTr_and rfl ?_
  refine CallK.p (header_Right h) ?_
  by_cases hr : rightH h = true
  · have hp := plainB_bys hr hb
    have hl := (headerB_27 hr).1
    have hcr := crcI_range hp
    have e := sum_u64 hp
    (simp only [go_sem, Nat.reduceAdd, Nat.reduceMul, Int.reduceToNat, Nat.reduceLeDiff, Int.reduceLE, Int.reduceLT, ↓reduceIte, Int.reduceBEq, Int.reduceBNe, Int.reduceAdd, Int.reduceSub, Int.reduceMul, hr]; try refine okTr_and rfl ?_)
    refine CallK.p (header_plain h hr hb) ?_; (simp only [go_sem, Nat.reduceAdd, Nat.reduceMul, Int.reduceToNat, Nat.reduceLeDiff, Int.reduceLE, Int.reduceLT, ↓reduceIte, Int.reduceBEq, Int.reduceBNe, Int.reduceAdd, Int.reduceSub, Int.reduceMul]; try refine okTr_and rfl ?_)
    refine CallK.u2 (Writer_Put s (plainB h) 0 1 (by decide) hs.ok (hs.room _)) rfl rfl ?_; (simp only [go_sem, Nat.reduceAdd, Nat.reduceMul, Int.reduceToNat, Nat.reduceLeDiff, Int.reduceLE, Int.reduceLT, ↓reduceIte, Int.reduceBEq, Int.reduceBNe, Int.reduceAdd, Int.reduceSub, Int.reduceMul]; try refine okTr_and rfl ?_)
    refine CallK.p (crc_Sum (plainB h) hp (by omega)) ?_; (simp only [go_sem, Nat.reduceAdd, Nat.reduceMul, Int.reduceToNat, Nat.reduceLeDiff, Int.reduceLE, Int.reduceLT, ↓reduceIte, Int.reduceBEq, Int.reduceBNe, Int.reduceAdd, Int.reduceSub, Int.reduceMul, e]; try refine okTr_and rfl ?_)
    refine CallK.u2 (Writer_Fixed (s.put (plainB h)) (crcI (plainB h)) 4 0 1 (by decide) hcr.1 (by omega) (hs.put _)) rfl rfl ?_; (simp only [go_sem, Nat.reduceAdd, Nat.reduceMul, Int.reduceToNat, Nat.reduceLeDiff, Int.reduceLE, Int.reduceLT, ↓reduceIte, Int.reduceBEq, Int.reduceBNe, Int.reduceAdd, Int.reduceSub, Int.reduceMul]; try refine okTr_and rfl ?_)
    ((refine FinK.finB r102 [0, 1] ?_ ?_); (· first | with_reducible rfl | (simp [WS.header, hr, show (min (max (4 : Int) 0) 8).toNat = 4 from rfl]; done) | rfl); (· simp [resAL, resA1, loadA, oneOr, WS.header, hr, show (min (max (4 : Int) 0) 8).toNat = 4 from rfl]))
  · have hr' : rightH h = false := by simpa using hr
    (simp only [go_sem, Nat.reduceAdd, Nat.reduceMul, Int.reduceToNat, Nat.reduceLeDiff, Int.reduceLE, Int.reduceLT, ↓reduceIte, Int.reduceBEq, Int.reduceBNe, Int.reduceAdd, Int.reduceSub, Int.reduceMul, hr']; try refine okTr_and rfl ?_)
    refine CallK.u2 (Writer_Fail s 3 0 1 (by decide)) rfl rfl ?_; (simp only [go_sem, Nat.reduceAdd, Nat.reduceMul, Int.reduceToNat, Nat.reduceLeDiff, Int.reduceLE, Int.reduceLT, ↓reduceIte, Int.reduceBEq, Int.reduceBNe, Int.reduceAdd, Int.reduceSub, Int.reduceMul]; try refine okTr_and rfl ?_)
    ((refine FinK.finB r102 [0, 1] ?_ ?_); (· first | with_reducible rfl | (simp [WS.header, hr']; done) | rfl); (· simp [resAL, resA1, loadA, oneOr, WS.header, hr']))
theorem header_Put (s : WS) (d : Hd) (i j : Nat) (h : i ≠ j) (hs : s.fine) (hb : 0 ≤ d.base) : Ct Tryz.prog 102 [.ref i 0, hdA d] [(i, wob j s), (j, wrow s)] (fun _ => .tup []) [(i, wob j (s.header d)), (j, wrow (s.header d))] (fun _ => []) := Ct.u2 (header_Put0 s d hs hb) i j h cl cl cl cl cl (wob_dead _ _) (wrow_dead _) clo
def bytesH (h : Hd) : List Int := if rightH h = true then headerB h else []
def errH (h : Hd) : Int := if rightH h = true then 0 else 3
theorem new_header (h : Hd) {n : Int} (hn : 27 ≤ n) : (WS.new n).header h = ⟨n, bytesH h, errH h⟩ ∧ ((WS.new n).header h).bytes = bytesH h := by
  by_cases hr : rightH h = true
  · have hl := (headerB_27 hr).2
    have e := header_fit (s := WS.new n) hr rfl (by rw [WS.new_is (by omega)]; simp; omega)
    rw [e, WS.new_is (by omega)]
    unfold bytesH errH
    rw [if_pos hr, if_pos hr]
    exact ⟨by simp, by simp [WS.bytes]⟩
  · unfold WS.header bytesH errH
    rw [if_neg hr, if_neg hr, if_neg hr, WS.new_is (by omega)]
    exact ⟨rfl, rfl⟩
theorem header_Bytes0 (h : Hd) (hb : 0 ≤ h.base) : Does Tryz.prog 27 [hdA h] [] (.tup [slA .u8 (bytesH h), iA (errH h)]) [] := by
  have f0 : (WS.new 27).fine := WS.fine.new (by omega)
  have hff := (f0.header h).len
  obtain ⟨e1, e2⟩ := new_header h (n := 27) (by omega)
  have e3 : ((WS.new 27).header h).code = errH h := by rw [e1]
  refine Does.runA Tryz.func27 b27 n27 Tryz.ntmps27 ?_; simp only [c27, go_sem, Nat.reduceAdd, Nat.reduceMul, Int.reduceToNat, Nat.reduceLeDiff, Int.reduceLE, Int.reduceLT, ↓reduceIte, Int.reduceBEq, Int.reduceBNe, Int.reduceAdd, Int.reduceSub, Int.reduceMul]; try refine okTr_and rfl ?_
  refine CallK.p (hMost) ?_; (simp only [go_sem, Nat.reduceAdd, Nat.reduceMul, Int.reduceToNat, Nat.reduceLeDiff, Int.reduceLE, Int.reduceLT, ↓reduceIte, Int.reduceBEq, Int.reduceBNe, Int.reduceAdd, Int.reduceSub, Int.reduceMul]; try refine okTr_and rfl ?_)
  refine CallK.n (pen_New 27) ?_; (simp only [go_sem, Nat.reduceAdd, Nat.reduceMul, Int.reduceToNat, Nat.reduceLeDiff, Int.reduceLE, Int.reduceLT, ↓reduceIte, Int.reduceBEq, Int.reduceBNe, Int.reduceAdd, Int.reduceSub, Int.reduceMul]; try refine okTr_and rfl ?_)
  refine CallK.u2 (header_Put (WS.new 27) h _ _ (by decide) f0 hb) rfl rfl ?_; (simp only [go_sem, Nat.reduceAdd, Nat.reduceMul, Int.reduceToNat, Nat.reduceLeDiff, Int.reduceLE, Int.reduceLT, ↓reduceIte, Int.reduceBEq, Int.reduceBNe, Int.reduceAdd, Int.reduceSub, Int.reduceMul]; try refine okTr_and rfl ?_)
  refine CallK.r2 (Writer_Bytes ((WS.new 27).header h) _ _ (by decide) hff) rfl rfl ?_; (simp only [go_sem, Nat.reduceAdd, Nat.reduceMul, Int.reduceToNat, Nat.reduceLeDiff, Int.reduceLE, Int.reduceLT, ↓reduceIte, Int.reduceBEq, Int.reduceBNe, Int.reduceAdd, Int.reduceSub, Int.reduceMul, e2, e3]; try refine okTr_and rfl ?_)
  exact FinK.finA r27 []
theorem header_Bytes (h : Hd) (hb : 0 ≤ h.base) : Ct Tryz.prog 27 [hdA h] [] (fun _ => .tup [slA .u8 (bytesH h), iA (errH h)]) [] (fun _ => []) := (header_Bytes0 h hb).toCt cl cl
end Go.Proofs.YtnfagphepkeedaaGreat
end
section
namespace Go.Proofs.YtnfagphepkeedaaGreat
open Go.RowKit

theorem byte_take (s : RS) (h0 : 0 ≤ s.at_) : s.byte = ((s.take 1).1, (s.take 1).2.getD 0 0) := by
  unfold RS.byte RS.take
  split
  · simp [List.getD_eq_getElem?_getD, List.getElem?_take, List.getElem?_drop]
  · rfl
theorem lets_eq (s : RS) : s.lets = if sameB (s.take 4).2 thol = true then (s.take 4).1 else (s.take 4).1.fail 14 s.at_ := by
  unfold RS.lets sameB
  by_cases h : (s.take 4).2 = thol
  · rw [if_neg (by rintro ⟨_, h'⟩; exact h' h), if_pos (by simpa using h)]
  · rw [if_neg (c := decide ((s.take 4).2 = thol) = true) (by simpa using h)]
    by_cases hc : (s.take 4).1.code = 0
    · rw [if_pos ⟨hc, h⟩]
    · rw [if_neg (by rintro ⟨h', _⟩; exact hc h'), fail_bad hc]
set_option maxRecDepth 100000 in
theorem header_begin0 (s : RS) (hs : ROk s) : Does Tryz.prog 155 [.ref 0 0] [rdr s] (iA s.hbegin.2) [rdr (s.hbegin.1)] := by
  obtain ⟨hk, hkl⟩ := lets_keep hs
  have hTb := take_bys hs.bys 4
  have hl := lets_eq s
  have hbt := byte_take s.lets hk.at0
  have hvr := byte_u8 hk.ok hk.bys
  have hv2 : s.hbegin = if (s.lets.take 1).1.code = 0 then (if 1 ≤ (s.lets.take 1).2.getD 0 0 ∧ (s.lets.take 1).2.getD 0 0 ≤ 3 then ((s.lets.take 1).1, (s.lets.take 1).2.getD 0 0) else ((s.lets.take 1).1.fail 8 s.lets.at_, 0)) else ((s.lets.take 1).1, 0) := rfl
  have hv0 : ¬ (s.lets.take 1).1.code = 0 → (s.lets.take 1).2.getD 0 0 = 0 := fun h => by rw [take_bad h]; rfl
  have hat : (s.lets.take 1).1.code = 0 → IntKind.i64.wrap ((s.lets.take 1).1.at_ - 1) = s.lets.at_ := fun h => by
    have h4 := (take_bytes hk h).2.2.2.1
    have h0 := hk.at0
    have h1 := hk.at1
    have h2 := hk.len
    rw [h4, IntWalk.i64_in _ (by omega)]; omega
  rw [hbt] at hvr
  obtain ⟨t, ht⟩ : ∃ t, (s.lets.take 1).1 = t := ⟨_, rfl⟩
  obtain ⟨v, hv⟩ : ∃ v, (s.lets.take 1).2.getD 0 0 = v := ⟨_, rfl⟩
  rw [ht, hv] at hbt
  rw [ht, hv] at hv2
  rw [ht, hv] at hv0
  rw [ht] at hat
  simp only [hv] at hvr
  have ev : IntKind.i64.wrap v = v := IntWalk.i64_in _ (by omega)
  refine Does.runA Tryz.func155 b155 n155 Tryz.ntmps155 ?_; simp only [c155, go_sem, Nat.reduceAdd, Nat.reduceMul, Int.reduceToNat, Nat.reduceLeDiff, Int.reduceLE, Int.reduceLT, ↓reduceIte, Int.reduceBEq, Int.reduceBNe, Int.reduceAdd, Int.reduceSub, Int.reduceMul]; try refine okTr_and rfl ?_
  refine CallK.r1 (Reader_At s 0) rfl ?_; (simp only [go_sem, Nat.reduceAdd, Nat.reduceMul, Int.reduceToNat, Nat.reduceLeDiff, Int.reduceLE, Int.reduceLT, ↓reduceIte, Int.reduceBEq, Int.reduceBNe, Int.reduceAdd, Int.reduceSub, Int.reduceMul]; try refine okTr_and rfl ?_)
  refine CallK.u1 (Reader_Take s 4 0 hs.ok) rfl ?_; (simp only [go_sem, Nat.reduceAdd, Nat.reduceMul, Int.reduceToNat, Nat.reduceLeDiff, Int.reduceLE, Int.reduceLT, ↓reduceIte, Int.reduceBEq, Int.reduceBNe, Int.reduceAdd, Int.reduceSub, Int.reduceMul, ints_u8, text_is hTb]; try refine okTr_and rfl ?_)
  by_cases hT : sameB (s.take 4).2 thol = true
  · rw [if_pos hT] at hl
    rw [← hl]
    (simp only [go_sem, Nat.reduceAdd, Nat.reduceMul, Int.reduceToNat, Nat.reduceLeDiff, Int.reduceLE, Int.reduceLT, ↓reduceIte, Int.reduceBEq, Int.reduceBNe, Int.reduceAdd, Int.reduceSub, Int.reduceMul, hT]; try refine okTr_and rfl ?_)
    refine CallK.u1 (Reader_Byte s.lets 0 hk.ok) rfl ?_; (simp only [go_sem, Nat.reduceAdd, Nat.reduceMul, Int.reduceToNat, Nat.reduceLeDiff, Int.reduceLE, Int.reduceLT, ↓reduceIte, Int.reduceBEq, Int.reduceBNe, Int.reduceAdd, Int.reduceSub, Int.reduceMul, hbt, ev]; try refine okTr_and rfl ?_)
    by_cases hc : t.code = 0
    · rw [if_pos hc] at hv2
      by_cases h1 : 1 ≤ v
      · have q1 : decide (v < 1) = false := decide_eq_false (by omega)
        by_cases h3 : v ≤ 3
        · have q3 : decide (3 < v) = false := decide_eq_false (by omega)
          rw [if_pos ⟨h1, h3⟩] at hv2
          (simp only [go_sem, Nat.reduceAdd, Nat.reduceMul, Int.reduceToNat, Nat.reduceLeDiff, Int.reduceLE, Int.reduceLT, ↓reduceIte, Int.reduceBEq, Int.reduceBNe, Int.reduceAdd, Int.reduceSub, Int.reduceMul, q1, q3]; try refine okTr_and rfl ?_)
          refine CallK.r1 (Reader_Good t 0) rfl ?_; (simp only [go_sem, Nat.reduceAdd, Nat.reduceMul, Int.reduceToNat, Nat.reduceLeDiff, Int.reduceLE, Int.reduceLT, ↓reduceIte, Int.reduceBEq, Int.reduceBNe, Int.reduceAdd, Int.reduceSub, Int.reduceMul, good_true hc]; try refine okTr_and rfl ?_)
          ((refine FinK.finB r155 [0] ?_ ?_); (· first | with_reducible rfl | (simp [hv2]; done) | rfl); (· simp [resAL, resA1, loadA, oneOr, hv2]))
        · have q3 : decide (3 < v) = true := decide_eq_true (by omega)
          rw [if_neg (by omega)] at hv2
          (simp only [go_sem, Nat.reduceAdd, Nat.reduceMul, Int.reduceToNat, Nat.reduceLeDiff, Int.reduceLE, Int.reduceLT, ↓reduceIte, Int.reduceBEq, Int.reduceBNe, Int.reduceAdd, Int.reduceSub, Int.reduceMul, q1, q3]; try refine okTr_and rfl ?_)
          refine CallK.r1 (Reader_At t 0) rfl ?_; (simp only [go_sem, Nat.reduceAdd, Nat.reduceMul, Int.reduceToNat, Nat.reduceLeDiff, Int.reduceLE, Int.reduceLT, ↓reduceIte, Int.reduceBEq, Int.reduceBNe, Int.reduceAdd, Int.reduceSub, Int.reduceMul, hat hc]; try refine okTr_and rfl ?_)
          refine CallK.u1 (Reader_Fail t 8 s.lets.at_ 0) rfl ?_; (simp only [go_sem, Nat.reduceAdd, Nat.reduceMul, Int.reduceToNat, Nat.reduceLeDiff, Int.reduceLE, Int.reduceLT, ↓reduceIte, Int.reduceBEq, Int.reduceBNe, Int.reduceAdd, Int.reduceSub, Int.reduceMul]; try refine okTr_and rfl ?_)
          refine CallK.r1 (Reader_Good (t.fail 8 s.lets.at_) 0) rfl ?_; (simp only [go_sem, Nat.reduceAdd, Nat.reduceMul, Int.reduceToNat, Nat.reduceLeDiff, Int.reduceLE, Int.reduceLT, ↓reduceIte, Int.reduceBEq, Int.reduceBNe, Int.reduceAdd, Int.reduceSub, Int.reduceMul, good_false (fail_not0 8 s.lets.at_ hc (by decide))]; try refine okTr_and rfl ?_)
          ((refine FinK.finB r155 [0] ?_ ?_); (· first | with_reducible rfl | (simp [hv2]; done) | rfl); (· simp [resAL, resA1, loadA, oneOr, hv2]))
      · have q1 : decide (v < 1) = true := decide_eq_true (by omega)
        rw [if_neg (by omega)] at hv2
        (simp only [go_sem, Nat.reduceAdd, Nat.reduceMul, Int.reduceToNat, Nat.reduceLeDiff, Int.reduceLE, Int.reduceLT, ↓reduceIte, Int.reduceBEq, Int.reduceBNe, Int.reduceAdd, Int.reduceSub, Int.reduceMul, q1]; try refine okTr_and rfl ?_)
        refine CallK.r1 (Reader_At t 0) rfl ?_; (simp only [go_sem, Nat.reduceAdd, Nat.reduceMul, Int.reduceToNat, Nat.reduceLeDiff, Int.reduceLE, Int.reduceLT, ↓reduceIte, Int.reduceBEq, Int.reduceBNe, Int.reduceAdd, Int.reduceSub, Int.reduceMul, hat hc]; try refine okTr_and rfl ?_)
        refine CallK.u1 (Reader_Fail t 8 s.lets.at_ 0) rfl ?_; (simp only [go_sem, Nat.reduceAdd, Nat.reduceMul, Int.reduceToNat, Nat.reduceLeDiff, Int.reduceLE, Int.reduceLT, ↓reduceIte, Int.reduceBEq, Int.reduceBNe, Int.reduceAdd, Int.reduceSub, Int.reduceMul]; try refine okTr_and rfl ?_)
        refine CallK.r1 (Reader_Good (t.fail 8 s.lets.at_) 0) rfl ?_; (simp only [go_sem, Nat.reduceAdd, Nat.reduceMul, Int.reduceToNat, Nat.reduceLeDiff, Int.reduceLE, Int.reduceLT, ↓reduceIte, Int.reduceBEq, Int.reduceBNe, Int.reduceAdd, Int.reduceSub, Int.reduceMul, good_false (fail_not0 8 s.lets.at_ hc (by decide))]; try refine okTr_and rfl ?_)
        ((refine FinK.finB r155 [0] ?_ ?_); (· first | with_reducible rfl | (simp [hv2]; done) | rfl); (· simp [resAL, resA1, loadA, oneOr, hv2]))
    · rw [if_neg hc] at hv2
      have q0 := hv0 hc
      have q1 : decide (v < 1) = true := decide_eq_true (by omega)
      (simp only [go_sem, Nat.reduceAdd, Nat.reduceMul, Int.reduceToNat, Nat.reduceLeDiff, Int.reduceLE, Int.reduceLT, ↓reduceIte, Int.reduceBEq, Int.reduceBNe, Int.reduceAdd, Int.reduceSub, Int.reduceMul, q1]; try refine okTr_and rfl ?_)
      refine CallK.r1 (Reader_At t 0) rfl ?_; (simp only [go_sem, Nat.reduceAdd, Nat.reduceMul, Int.reduceToNat, Nat.reduceLeDiff, Int.reduceLE, Int.reduceLT, ↓reduceIte, Int.reduceBEq, Int.reduceBNe, Int.reduceAdd, Int.reduceSub, Int.reduceMul]; try refine okTr_and rfl ?_)
      refine CallK.u1 (Reader_Fail t 8 _ 0) rfl ?_; (simp only [go_sem, Nat.reduceAdd, Nat.reduceMul, Int.reduceToNat, Nat.reduceLeDiff, Int.reduceLE, Int.reduceLT, ↓reduceIte, Int.reduceBEq, Int.reduceBNe, Int.reduceAdd, Int.reduceSub, Int.reduceMul, fail_bad hc]; try refine okTr_and rfl ?_)
      refine CallK.r1 (Reader_Good t 0) rfl ?_; (simp only [go_sem, Nat.reduceAdd, Nat.reduceMul, Int.reduceToNat, Nat.reduceLeDiff, Int.reduceLE, Int.reduceLT, ↓reduceIte, Int.reduceBEq, Int.reduceBNe, Int.reduceAdd, Int.reduceSub, Int.reduceMul, good_false hc]; try refine okTr_and rfl ?_)
      ((refine FinK.finB r155 [0] ?_ ?_); (· first | with_reducible rfl | (simp [hv2]; done) | rfl); (· simp [resAL, resA1, loadA, oneOr, hv2]))
  · have hT' : sameB (s.take 4).2 thol = false := by simpa using hT
    rw [if_neg hT] at hl
    (simp only [go_sem, Nat.reduceAdd, Nat.reduceMul, Int.reduceToNat, Nat.reduceLeDiff, Int.reduceLE, Int.reduceLT, ↓reduceIte, Int.reduceBEq, Int.reduceBNe, Int.reduceAdd, Int.reduceSub, Int.reduceMul, hT']; try refine okTr_and rfl ?_)
    refine CallK.u1 (Reader_Fail (s.take 4).1 14 s.at_ 0) rfl ?_; (simp only [go_sem, Nat.reduceAdd, Nat.reduceMul, Int.reduceToNat, Nat.reduceLeDiff, Int.reduceLE, Int.reduceLT, ↓reduceIte, Int.reduceBEq, Int.reduceBNe, Int.reduceAdd, Int.reduceSub, Int.reduceMul, ← hl]; try refine okTr_and rfl ?_)
    refine CallK.u1 (Reader_Byte s.lets 0 hk.ok) rfl ?_; (simp only [go_sem, Nat.reduceAdd, Nat.reduceMul, Int.reduceToNat, Nat.reduceLeDiff, Int.reduceLE, Int.reduceLT, ↓reduceIte, Int.reduceBEq, Int.reduceBNe, Int.reduceAdd, Int.reduceSub, Int.reduceMul, hbt, ev]; try refine okTr_and rfl ?_)
    by_cases hc : t.code = 0
    · rw [if_pos hc] at hv2
      by_cases h1 : 1 ≤ v
      · have q1 : decide (v < 1) = false := decide_eq_false (by omega)
        by_cases h3 : v ≤ 3
        · have q3 : decide (3 < v) = false := decide_eq_false (by omega)
          rw [if_pos ⟨h1, h3⟩] at hv2
          (simp only [go_sem, Nat.reduceAdd, Nat.reduceMul, Int.reduceToNat, Nat.reduceLeDiff, Int.reduceLE, Int.reduceLT, ↓reduceIte, Int.reduceBEq, Int.reduceBNe, Int.reduceAdd, Int.reduceSub, Int.reduceMul, q1, q3]; try refine okTr_and rfl ?_)
          refine CallK.r1 (Reader_Good t 0) rfl ?_; (simp only [go_sem, Nat.reduceAdd, Nat.reduceMul, Int.reduceToNat, Nat.reduceLeDiff, Int.reduceLE, Int.reduceLT, ↓reduceIte, Int.reduceBEq, Int.reduceBNe, Int.reduceAdd, Int.reduceSub, Int.reduceMul, good_true hc]; try refine okTr_and rfl ?_)
          ((refine FinK.finB r155 [0] ?_ ?_); (· first | with_reducible rfl | (simp [hv2]; done) | rfl); (· simp [resAL, resA1, loadA, oneOr, hv2]))
        · have q3 : decide (3 < v) = true := decide_eq_true (by omega)
          rw [if_neg (by omega)] at hv2
          (simp only [go_sem, Nat.reduceAdd, Nat.reduceMul, Int.reduceToNat, Nat.reduceLeDiff, Int.reduceLE, Int.reduceLT, ↓reduceIte, Int.reduceBEq, Int.reduceBNe, Int.reduceAdd, Int.reduceSub, Int.reduceMul, q1, q3]; try refine okTr_and rfl ?_)
          refine CallK.r1 (Reader_At t 0) rfl ?_; (simp only [go_sem, Nat.reduceAdd, Nat.reduceMul, Int.reduceToNat, Nat.reduceLeDiff, Int.reduceLE, Int.reduceLT, ↓reduceIte, Int.reduceBEq, Int.reduceBNe, Int.reduceAdd, Int.reduceSub, Int.reduceMul, hat hc]; try refine okTr_and rfl ?_)
          refine CallK.u1 (Reader_Fail t 8 s.lets.at_ 0) rfl ?_; (simp only [go_sem, Nat.reduceAdd, Nat.reduceMul, Int.reduceToNat, Nat.reduceLeDiff, Int.reduceLE, Int.reduceLT, ↓reduceIte, Int.reduceBEq, Int.reduceBNe, Int.reduceAdd, Int.reduceSub, Int.reduceMul]; try refine okTr_and rfl ?_)
          refine CallK.r1 (Reader_Good (t.fail 8 s.lets.at_) 0) rfl ?_; (simp only [go_sem, Nat.reduceAdd, Nat.reduceMul, Int.reduceToNat, Nat.reduceLeDiff, Int.reduceLE, Int.reduceLT, ↓reduceIte, Int.reduceBEq, Int.reduceBNe, Int.reduceAdd, Int.reduceSub, Int.reduceMul, good_false (fail_not0 8 s.lets.at_ hc (by decide))]; try refine okTr_and rfl ?_)
          ((refine FinK.finB r155 [0] ?_ ?_); (· first | with_reducible rfl | (simp [hv2]; done) | rfl); (· simp [resAL, resA1, loadA, oneOr, hv2]))
      · have q1 : decide (v < 1) = true := decide_eq_true (by omega)
        rw [if_neg (by omega)] at hv2
        (simp only [go_sem, Nat.reduceAdd, Nat.reduceMul, Int.reduceToNat, Nat.reduceLeDiff, Int.reduceLE, Int.reduceLT, ↓reduceIte, Int.reduceBEq, Int.reduceBNe, Int.reduceAdd, Int.reduceSub, Int.reduceMul, q1]; try refine okTr_and rfl ?_)
        refine CallK.r1 (Reader_At t 0) rfl ?_; (simp only [go_sem, Nat.reduceAdd, Nat.reduceMul, Int.reduceToNat, Nat.reduceLeDiff, Int.reduceLE, Int.reduceLT, ↓reduceIte, Int.reduceBEq, Int.reduceBNe, Int.reduceAdd, Int.reduceSub, Int.reduceMul, hat hc]; try refine okTr_and rfl ?_)
        refine CallK.u1 (Reader_Fail t 8 s.lets.at_ 0) rfl ?_; (simp only [go_sem, Nat.reduceAdd, Nat.reduceMul, Int.reduceToNat, Nat.reduceLeDiff, Int.reduceLE, Int.reduceLT, ↓reduceIte, Int.reduceBEq, Int.reduceBNe, Int.reduceAdd, Int.reduceSub, Int.reduceMul]; try refine okTr_and rfl ?_)
        refine CallK.r1 (Reader_Good (t.fail 8 s.lets.at_) 0) rfl ?_; (simp only [go_sem, Nat.reduceAdd, Nat.reduceMul, Int.reduceToNat, Nat.reduceLeDiff, Int.reduceLE, Int.reduceLT, ↓reduceIte, Int.reduceBEq, Int.reduceBNe, Int.reduceAdd, Int.reduceSub, Int.reduceMul, good_false (fail_not0 8 s.lets.at_ hc (by decide))]; try refine okTr_and rfl ?_)
        ((refine FinK.finB r155 [0] ?_ ?_); (· first | with_reducible rfl | (simp [hv2]; done) | rfl); (· simp [resAL, resA1, loadA, oneOr, hv2]))
    · rw [if_neg hc] at hv2
      have q0 := hv0 hc
      have q1 : decide (v < 1) = true := decide_eq_true (by omega)
      (simp only [go_sem, Nat.reduceAdd, Nat.reduceMul, Int.reduceToNat, Nat.reduceLeDiff, Int.reduceLE, Int.reduceLT, ↓reduceIte, Int.reduceBEq, Int.reduceBNe, Int.reduceAdd, Int.reduceSub, Int.reduceMul, q1]; try refine okTr_and rfl ?_)
      refine CallK.r1 (Reader_At t 0) rfl ?_; (simp only [go_sem, Nat.reduceAdd, Nat.reduceMul, Int.reduceToNat, Nat.reduceLeDiff, Int.reduceLE, Int.reduceLT, ↓reduceIte, Int.reduceBEq, Int.reduceBNe, Int.reduceAdd, Int.reduceSub, Int.reduceMul]; try refine okTr_and rfl ?_)
      refine CallK.u1 (Reader_Fail t 8 _ 0) rfl ?_; (simp only [go_sem, Nat.reduceAdd, Nat.reduceMul, Int.reduceToNat, Nat.reduceLeDiff, Int.reduceLE, Int.reduceLT, ↓reduceIte, Int.reduceBEq, Int.reduceBNe, Int.reduceAdd, Int.reduceSub, Int.reduceMul, fail_bad hc]; try refine okTr_and rfl ?_)
      refine CallK.r1 (Reader_Good t 0) rfl ?_; (simp only [go_sem, Nat.reduceAdd, Nat.reduceMul, Int.reduceToNat, Nat.reduceLeDiff, Int.reduceLE, Int.reduceLT, ↓reduceIte, Int.reduceBEq, Int.reduceBNe, Int.reduceAdd, Int.reduceSub, Int.reduceMul, good_false hc]; try refine okTr_and rfl ?_)
      ((refine FinK.finB r155 [0] ?_ ?_); (· first | with_reducible rfl | (simp [hv2]; done) | rfl); (· simp [resAL, resA1, loadA, oneOr, hv2]))
theorem header_begin (s : RS) (i : Nat) (hs : ROk s) : Ct Tryz.prog 155 [.ref i 0] [(i, rdr s)] (fun _ => iA s.hbegin.2) [(i, rdr (s.hbegin.1))] (fun _ => []) := Ct.u1 (header_begin0 s hs) i cl (fun ρ => rdr_ren ρ _) (fun ρ => rdr_ren ρ _) (rdr_dead _) cl
set_option maxRecDepth 100000 in
theorem header_Read0 (s : RS) (hs : ROk s) : Does Tryz.prog 103 [.ref 0 0] [rdr s] (hdA s.header.2) [rdr (s.header.1)] := by
  obtain ⟨ka, _⟩ := hbegin_keep hs
  obtain ⟨kb, _⟩ := epo_keep ka epRight
  obtain ⟨kc, kl⟩ := hplain_keep hs
  have e0 : s.hplain = (((s.hbegin.1.epo epRight).1.hbase s.hbegin.2).1, ⟨s.hbegin.2, (s.hbegin.1.epo epRight).2, ((s.hbegin.1.epo epRight).1.hbase s.hbegin.2).2⟩) := rfl
  have hgood : (s.hplain.1.fixed 4).1.code = 0 → rightH s.hplain.2 = true ∧ 0 ≤ s.hplain.2.base ∧ s.from s.hplain.1 = plainB s.hplain.2 := fun h => by
    obtain ⟨t1, t2, t3, t4, t5⟩ := take_bytes kc (n := 4) h
    obtain ⟨p1, p2, p3, p4, p5⟩ := hplain_is hs t1
    exact ⟨p2, p3, from_take hs.at0 (by omega) p5 hs.at1⟩
  have e : s.header = if (s.hplain.1.fixed 4).1.code = 0 then (if (s.hplain.1.fixed 4).2 = crcI (s.from s.hplain.1) then ((s.hplain.1.fixed 4).1, s.hplain.2) else ((s.hplain.1.fixed 4).1.fail 6 s.hplain.1.at_, hd0)) else ((s.hplain.1.fixed 4).1, hd0) := rfl
  obtain ⟨A, hA⟩ : ∃ A, s.hbegin = A := ⟨_, rfl⟩
  rw [hA] at e0 ka kb
  obtain ⟨B, hB⟩ : ∃ B, A.1.epo epRight = B := ⟨_, rfl⟩
  rw [hB] at e0 kb
  refine Does.runA Tryz.func103 b103 n103 Tryz.ntmps103 ?_; simp only [c103, go_sem, Nat.reduceAdd, Nat.reduceMul, Int.reduceToNat, Nat.reduceLeDiff, Int.reduceLE, Int.reduceLT, ↓reduceIte, Int.reduceBEq, Int.reduceBNe, Int.reduceAdd, Int.reduceSub, Int.reduceMul]; try refine okTr_and rfl ?_
  refine CallK.u1 (header_begin s 0 hs) rfl ?_; (simp only [go_sem, Nat.reduceAdd, Nat.reduceMul, Int.reduceToNat, Nat.reduceLeDiff, Int.reduceLE, Int.reduceLT, ↓reduceIte, Int.reduceBEq, Int.reduceBNe, Int.reduceAdd, Int.reduceSub, Int.reduceMul, hA]; try refine okTr_and rfl ?_)
  refine CallK.u1 (epoch_Read A.1 0 ka) rfl ?_; (simp only [go_sem, Nat.reduceAdd, Nat.reduceMul, Int.reduceToNat, Nat.reduceLeDiff, Int.reduceLE, Int.reduceLT, ↓reduceIte, Int.reduceBEq, Int.reduceBNe, Int.reduceAdd, Int.reduceSub, Int.reduceMul, hB]; try refine okTr_and rfl ?_)
  refine CallK.p (header_based A.2) ?_
  by_cases hv : A.2 = 1
  · have qv : (A.2 == 1) = true := by simpa using hv
    obtain ⟨C, hC⟩ : ∃ C, B.1.epo epPos = C := ⟨_, rfl⟩
    have hC' : B.1.hbase A.2 = C := by unfold RS.hbase; rw [if_pos hv, hC]
    rw [hC'] at e0
    rw [e0] at kc
    rw [e0] at hgood
    rw [e0] at e
    simp only at kc hgood e
    obtain ⟨F, hF⟩ : ∃ F, C.1.fixed 4 = F := ⟨_, rfl⟩
    have hF' : C.1.fixed (min (max 4 0) 8) = F := hF
    rw [hF] at hgood
    rw [hF] at e
    (simp only [go_sem, Nat.reduceAdd, Nat.reduceMul, Int.reduceToNat, Nat.reduceLeDiff, Int.reduceLE, Int.reduceLT, ↓reduceIte, Int.reduceBEq, Int.reduceBNe, Int.reduceAdd, Int.reduceSub, Int.reduceMul, qv]; try refine okTr_and rfl ?_)
    refine CallK.u1 (epoch_ReadPos B.1 0 kb) rfl ?_; (simp only [go_sem, Nat.reduceAdd, Nat.reduceMul, Int.reduceToNat, Nat.reduceLeDiff, Int.reduceLE, Int.reduceLT, ↓reduceIte, Int.reduceBEq, Int.reduceBNe, Int.reduceAdd, Int.reduceSub, Int.reduceMul, hC]; try refine okTr_and rfl ?_)
    refine CallK.r1 (Reader_At C.1 0) rfl ?_; (simp only [go_sem, Nat.reduceAdd, Nat.reduceMul, Int.reduceToNat, Nat.reduceLeDiff, Int.reduceLE, Int.reduceLT, ↓reduceIte, Int.reduceBEq, Int.reduceBNe, Int.reduceAdd, Int.reduceSub, Int.reduceMul]; try refine okTr_and rfl ?_)
    refine CallK.u1 (blob_ReadFixed C.1 4 0 kc) rfl ?_; (simp only [go_sem, Nat.reduceAdd, Nat.reduceMul, Int.reduceToNat, Nat.reduceLeDiff, Int.reduceLE, Int.reduceLT, ↓reduceIte, Int.reduceBEq, Int.reduceBNe, Int.reduceAdd, Int.reduceSub, Int.reduceMul, hF']; try refine okTr_and rfl ?_)
    by_cases hc : F.1.code = 0
    · obtain ⟨hr, hb, hfr⟩ := hgood hc
      rw [if_pos hc, hfr] at e
      have hp := plainB_bys hr hb
      have hpl := (headerB_27 hr).1
      have eb := sum_u64 hp
      refine CallK.r1 (Reader_Good F.1 0) rfl ?_; (simp only [go_sem, Nat.reduceAdd, Nat.reduceMul, Int.reduceToNat, Nat.reduceLeDiff, Int.reduceLE, Int.reduceLT, ↓reduceIte, Int.reduceBEq, Int.reduceBNe, Int.reduceAdd, Int.reduceSub, Int.reduceMul, good_true hc]; try refine okTr_and rfl ?_)
      refine CallK.p (header_plain ⟨A.2, B.2, C.2⟩ hr hb) ?_; (simp only [go_sem, Nat.reduceAdd, Nat.reduceMul, Int.reduceToNat, Nat.reduceLeDiff, Int.reduceLE, Int.reduceLT, ↓reduceIte, Int.reduceBEq, Int.reduceBNe, Int.reduceAdd, Int.reduceSub, Int.reduceMul]; try refine okTr_and rfl ?_)
      refine CallK.p (crc_Sum (plainB ⟨A.2, B.2, C.2⟩) hp (by omega)) ?_; (simp only [go_sem, Nat.reduceAdd, Nat.reduceMul, Int.reduceToNat, Nat.reduceLeDiff, Int.reduceLE, Int.reduceLT, ↓reduceIte, Int.reduceBEq, Int.reduceBNe, Int.reduceAdd, Int.reduceSub, Int.reduceMul, eb]; try refine okTr_and rfl ?_)
      by_cases hx : F.2 = crcI (plainB ⟨A.2, B.2, C.2⟩)
      · have q2 : (F.2 != crcI (plainB ⟨A.2, B.2, C.2⟩)) = false := by simpa using hx
        rw [if_pos hx] at e
        (simp only [go_sem, Nat.reduceAdd, Nat.reduceMul, Int.reduceToNat, Nat.reduceLeDiff, Int.reduceLE, Int.reduceLT, ↓reduceIte, Int.reduceBEq, Int.reduceBNe, Int.reduceAdd, Int.reduceSub, Int.reduceMul, q2]; try refine okTr_and rfl ?_)
        ((refine FinK.finB r103 [0] ?_ ?_); (· first | with_reducible rfl | (simp [e]; done) | rfl); (· simp [resAL, resA1, loadA, oneOr, e]))
      · have q2 : (F.2 != crcI (plainB ⟨A.2, B.2, C.2⟩)) = true := by simpa using hx
        rw [if_neg hx] at e
        (simp only [go_sem, Nat.reduceAdd, Nat.reduceMul, Int.reduceToNat, Nat.reduceLeDiff, Int.reduceLE, Int.reduceLT, ↓reduceIte, Int.reduceBEq, Int.reduceBNe, Int.reduceAdd, Int.reduceSub, Int.reduceMul, q2]; try refine okTr_and rfl ?_)
        refine CallK.u1 (Reader_Fail F.1 6 C.1.at_ 0) rfl ?_; (simp only [go_sem, Nat.reduceAdd, Nat.reduceMul, Int.reduceToNat, Nat.reduceLeDiff, Int.reduceLE, Int.reduceLT, ↓reduceIte, Int.reduceBEq, Int.reduceBNe, Int.reduceAdd, Int.reduceSub, Int.reduceMul]; try refine okTr_and rfl ?_)
        ((refine FinK.finB r103 [0] ?_ ?_); (· first | with_reducible rfl | (simp [e, hd0]; done) | rfl); (· simp [resAL, resA1, loadA, oneOr, e, hd0]))
    · rw [if_neg hc] at e
      refine CallK.r1 (Reader_Good F.1 0) rfl ?_; (simp only [go_sem, Nat.reduceAdd, Nat.reduceMul, Int.reduceToNat, Nat.reduceLeDiff, Int.reduceLE, Int.reduceLT, ↓reduceIte, Int.reduceBEq, Int.reduceBNe, Int.reduceAdd, Int.reduceSub, Int.reduceMul, good_false hc]; try refine okTr_and rfl ?_)
      ((refine FinK.finB r103 [0] ?_ ?_); (· first | with_reducible rfl | (simp [e, hd0]; done) | rfl); (· simp [resAL, resA1, loadA, oneOr, e, hd0]))
  · have qv : (A.2 == 1) = false := by simpa using hv
    have hC' : B.1.hbase A.2 = (B.1, 0) := by unfold RS.hbase; rw [if_neg hv]
    rw [hC'] at e0
    rw [e0] at kc
    rw [e0] at hgood
    rw [e0] at e
    simp only at kc hgood e
    obtain ⟨F, hF⟩ : ∃ F, B.1.fixed 4 = F := ⟨_, rfl⟩
    have hF' : B.1.fixed (min (max 4 0) 8) = F := hF
    rw [hF] at hgood
    rw [hF] at e
    (simp only [go_sem, Nat.reduceAdd, Nat.reduceMul, Int.reduceToNat, Nat.reduceLeDiff, Int.reduceLE, Int.reduceLT, ↓reduceIte, Int.reduceBEq, Int.reduceBNe, Int.reduceAdd, Int.reduceSub, Int.reduceMul, qv]; try refine okTr_and rfl ?_)
    refine CallK.r1 (Reader_At B.1 0) rfl ?_; (simp only [go_sem, Nat.reduceAdd, Nat.reduceMul, Int.reduceToNat, Nat.reduceLeDiff, Int.reduceLE, Int.reduceLT, ↓reduceIte, Int.reduceBEq, Int.reduceBNe, Int.reduceAdd, Int.reduceSub, Int.reduceMul]; try refine okTr_and rfl ?_)
    refine CallK.u1 (blob_ReadFixed B.1 4 0 kc) rfl ?_; (simp only [go_sem, Nat.reduceAdd, Nat.reduceMul, Int.reduceToNat, Nat.reduceLeDiff, Int.reduceLE, Int.reduceLT, ↓reduceIte, Int.reduceBEq, Int.reduceBNe, Int.reduceAdd, Int.reduceSub, Int.reduceMul, hF']; try refine okTr_and rfl ?_)
    by_cases hc : F.1.code = 0
    · obtain ⟨hr, hb, hfr⟩ := hgood hc
      rw [if_pos hc, hfr] at e
      have hp := plainB_bys hr hb
      have hpl := (headerB_27 hr).1
      have eb := sum_u64 hp
      refine CallK.r1 (Reader_Good F.1 0) rfl ?_; (simp only [go_sem, Nat.reduceAdd, Nat.reduceMul, Int.reduceToNat, Nat.reduceLeDiff, Int.reduceLE, Int.reduceLT, ↓reduceIte, Int.reduceBEq, Int.reduceBNe, Int.reduceAdd, Int.reduceSub, Int.reduceMul, good_true hc]; try refine okTr_and rfl ?_)
      refine CallK.p (header_plain ⟨A.2, B.2, 0⟩ hr hb) ?_; (simp only [go_sem, Nat.reduceAdd, Nat.reduceMul, Int.reduceToNat, Nat.reduceLeDiff, Int.reduceLE, Int.reduceLT, ↓reduceIte, Int.reduceBEq, Int.reduceBNe, Int.reduceAdd, Int.reduceSub, Int.reduceMul]; try refine okTr_and rfl ?_)
      refine CallK.p (crc_Sum (plainB ⟨A.2, B.2, 0⟩) hp (by omega)) ?_; (simp only [go_sem, Nat.reduceAdd, Nat.reduceMul, Int.reduceToNat, Nat.reduceLeDiff, Int.reduceLE, Int.reduceLT, ↓reduceIte, Int.reduceBEq, Int.reduceBNe, Int.reduceAdd, Int.reduceSub, Int.reduceMul, eb]; try refine okTr_and rfl ?_)
      by_cases hx : F.2 = crcI (plainB ⟨A.2, B.2, 0⟩)
      · have q2 : (F.2 != crcI (plainB ⟨A.2, B.2, 0⟩)) = false := by simpa using hx
        rw [if_pos hx] at e
        (simp only [go_sem, Nat.reduceAdd, Nat.reduceMul, Int.reduceToNat, Nat.reduceLeDiff, Int.reduceLE, Int.reduceLT, ↓reduceIte, Int.reduceBEq, Int.reduceBNe, Int.reduceAdd, Int.reduceSub, Int.reduceMul, q2]; try refine okTr_and rfl ?_)
        ((refine FinK.finB r103 [0] ?_ ?_); (· first | with_reducible rfl | (simp [e]; done) | rfl); (· simp [resAL, resA1, loadA, oneOr, e]))
      · have q2 : (F.2 != crcI (plainB ⟨A.2, B.2, 0⟩)) = true := by simpa using hx
        rw [if_neg hx] at e
        (simp only [go_sem, Nat.reduceAdd, Nat.reduceMul, Int.reduceToNat, Nat.reduceLeDiff, Int.reduceLE, Int.reduceLT, ↓reduceIte, Int.reduceBEq, Int.reduceBNe, Int.reduceAdd, Int.reduceSub, Int.reduceMul, q2]; try refine okTr_and rfl ?_)
        refine CallK.u1 (Reader_Fail F.1 6 B.1.at_ 0) rfl ?_; (simp only [go_sem, Nat.reduceAdd, Nat.reduceMul, Int.reduceToNat, Nat.reduceLeDiff, Int.reduceLE, Int.reduceLT, ↓reduceIte, Int.reduceBEq, Int.reduceBNe, Int.reduceAdd, Int.reduceSub, Int.reduceMul]; try refine okTr_and rfl ?_)
        ((refine FinK.finB r103 [0] ?_ ?_); (· first | with_reducible rfl | (simp [e, hd0]; done) | rfl); (· simp [resAL, resA1, loadA, oneOr, e, hd0]))
    · rw [if_neg hc] at e
      refine CallK.r1 (Reader_Good F.1 0) rfl ?_; (simp only [go_sem, Nat.reduceAdd, Nat.reduceMul, Int.reduceToNat, Nat.reduceLeDiff, Int.reduceLE, Int.reduceLT, ↓reduceIte, Int.reduceBEq, Int.reduceBNe, Int.reduceAdd, Int.reduceSub, Int.reduceMul, good_false hc]; try refine okTr_and rfl ?_)
      ((refine FinK.finB r103 [0] ?_ ?_); (· first | with_reducible rfl | (simp [e, hd0]; done) | rfl); (· simp [resAL, resA1, loadA, oneOr, e, hd0]))
theorem header_Read (s : RS) (i : Nat) (hs : ROk s) : Ct Tryz.prog 103 [.ref i 0] [(i, rdr s)] (fun _ => hdA s.header.2) [(i, rdr (s.header.1))] (fun _ => []) := Ct.u1 (header_Read0 s hs) i cl (fun ρ => rdr_ren ρ _) (fun ρ => rdr_ren ρ _) (rdr_dead _) cl
end Go.Proofs.YtnfagphepkeedaaGreat
end
section
namespace Go.Proofs.YtnfagphepkeedaaGreat
open Go.RowKit

set_option maxRecDepth 100000 in
theorem ref31_Bytes0 (h : Hd) (hr : rightH h = true) (hb : 0 ≤ h.base) : Does Tryz.prog 81 [hdA h] [] (ownA 0 (headerB h)) [.row 1 (headerB h).length] := by
  obtain ⟨h1, h2, h3, h4⟩ := rightH_iff.1 hr
  have ew : IntKind.u8.wrap h.ver = h.ver := IntWalk.u8_in _ (by omega)
  have e1 : [u8A 84, u8A 72, u8A 79, u8A 76, u8A h.ver] = ints .u8 (thol ++ [h.ver]) := rfl
  have l1 : (thol ++ [h.ver]).length = 5 := rfl
  have l2 : (thol ++ [h.ver] ++ vb h.ep).length = 5 + (vb h.ep).length := by rw [List.length_append, l1]
  have hp := plainB_bys hr hb
  have hcr := crcI_range hp
  have eb := sum_u64 hp
  have hpl := headerB_27 hr
  have vl := (vb_len h.ep).2
  have vl2 := (vb_len h.base).2
  have l4 := lowBytes_len 4 (crcI (plainB h))
  have ef : plainB h ++ lowBytes 4 (crcI (plainB h)) = headerB h := rfl
  have ef2 : (plainB h).length + 4 = (headerB h).length := (headerB_len h).symm
  refine Does.runA Tryz.func81 b81 n81 Tryz.ntmps81 ?_; simp only [c81, go_sem, Nat.reduceAdd, Nat.reduceMul, Int.reduceToNat, Nat.reduceLeDiff, Int.reduceLE, Int.reduceLT, ↓reduceIte, Int.reduceBEq, Int.reduceBNe, Int.reduceAdd, Int.reduceSub, Int.reduceMul]; try refine okTr_and rfl ?_
  (repeat ((with_reducible refine And.intro ?_ ?_); (· exact sd)))
  (simp only [go_sem, Nat.reduceAdd, Nat.reduceMul, Int.reduceToNat, Nat.reduceLeDiff, Int.reduceLE, Int.reduceLT, ↓reduceIte, Int.reduceBEq, Int.reduceBNe, Int.reduceAdd, Int.reduceSub, Int.reduceMul, ew, e1]; try refine okTr_and rfl ?_)
  refine CallK.p (ref04_Bytes h.ep (by omega) (by omega)) ?_; (simp only [go_sem, Nat.reduceAdd, Nat.reduceMul, Int.reduceToNat, Nat.reduceLeDiff, Int.reduceLE, Int.reduceLT, ↓reduceIte, Int.reduceBEq, Int.reduceBNe, Int.reduceAdd, Int.reduceSub, Int.reduceMul, ints_append, ints_length, ← List.length_append]; try refine okTr_and rfl ?_)
  (repeat ((with_reducible refine And.intro ?_ ?_); (· exact sd)))
  by_cases hv : h.ver = 1
  · have q5 : (h.ver == 1) = true := by simpa using hv
    have e : thol ++ [h.ver] ++ vb h.ep ++ vb h.base = plainB h := by unfold plainB; rw [if_pos hv]
    (simp only [go_sem, Nat.reduceAdd, Nat.reduceMul, Int.reduceToNat, Nat.reduceLeDiff, Int.reduceLE, Int.reduceLT, ↓reduceIte, Int.reduceBEq, Int.reduceBNe, Int.reduceAdd, Int.reduceSub, Int.reduceMul, q5]; try refine okTr_and rfl ?_)
    (repeat ((with_reducible refine And.intro ?_ ?_); (· exact sd)))
    refine CallK.p (ref04_Bytes h.base hb (by omega)) ?_; (simp only [go_sem, Nat.reduceAdd, Nat.reduceMul, Int.reduceToNat, Nat.reduceLeDiff, Int.reduceLE, Int.reduceLT, ↓reduceIte, Int.reduceBEq, Int.reduceBNe, Int.reduceAdd, Int.reduceSub, Int.reduceMul, ints_append, ints_length, e, ← List.length_append]; try refine okTr_and rfl ?_)
    (repeat ((with_reducible refine And.intro ?_ ?_); (· exact sd)))
    refine CallK.p (ref07_Sum (plainB h) hp (by omega)) ?_; (simp only [go_sem, Nat.reduceAdd, Nat.reduceMul, Int.reduceToNat, Nat.reduceLeDiff, Int.reduceLE, Int.reduceLT, ↓reduceIte, Int.reduceBEq, Int.reduceBNe, Int.reduceAdd, Int.reduceSub, Int.reduceMul, eb]; try refine okTr_and rfl ?_)
    refine CallK.p (ref03_Fixed (crcI (plainB h)) 4 hcr.1 (by omega) (by omega)) ?_; (simp only [go_sem, Nat.reduceAdd, Nat.reduceMul, Int.reduceToNat, Nat.reduceLeDiff, Int.reduceLE, Int.reduceLT, ↓reduceIte, Int.reduceBEq, Int.reduceBNe, Int.reduceAdd, Int.reduceSub, Int.reduceMul, ints_append, ints_length, ef, l4, ef2]; try refine okTr_and rfl ?_)
    (repeat ((with_reducible refine And.intro ?_ ?_); (· exact sd)))
    exact FinK.finA r81 [1]
  · have q5 : (h.ver == 1) = false := by simpa using hv
    have e : thol ++ [h.ver] ++ vb h.ep = plainB h := by unfold plainB; rw [if_neg hv, List.append_nil]
    (simp only [go_sem, Nat.reduceAdd, Nat.reduceMul, Int.reduceToNat, Nat.reduceLeDiff, Int.reduceLE, Int.reduceLT, ↓reduceIte, Int.reduceBEq, Int.reduceBNe, Int.reduceAdd, Int.reduceSub, Int.reduceMul, q5, e]; try refine okTr_and rfl ?_)
    (repeat ((with_reducible refine And.intro ?_ ?_); (· exact sd)))
    refine CallK.p (ref07_Sum (plainB h) hp (by omega)) ?_; (simp only [go_sem, Nat.reduceAdd, Nat.reduceMul, Int.reduceToNat, Nat.reduceLeDiff, Int.reduceLE, Int.reduceLT, ↓reduceIte, Int.reduceBEq, Int.reduceBNe, Int.reduceAdd, Int.reduceSub, Int.reduceMul, eb]; try refine okTr_and rfl ?_)
    refine CallK.p (ref03_Fixed (crcI (plainB h)) 4 hcr.1 (by omega) (by omega)) ?_; (simp only [go_sem, Nat.reduceAdd, Nat.reduceMul, Int.reduceToNat, Nat.reduceLeDiff, Int.reduceLE, Int.reduceLT, ↓reduceIte, Int.reduceBEq, Int.reduceBNe, Int.reduceAdd, Int.reduceSub, Int.reduceMul, ints_append, ints_length, ef, l4, ef2]; try refine okTr_and rfl ?_)
    (repeat ((with_reducible refine And.intro ?_ ?_); (· exact sd)))
    exact FinK.finA r81 [1]
theorem ref31_Bytes (h : Hd) (hr : rightH h = true) (hb : 0 ≤ h.base) : Ct Tryz.prog 81 [hdA h] [] (fun n => ownA n (headerB h)) [] (fun _ => [.row 1 (headerB h).length]) := Ct.n (ref31_Bytes0 h hr hb) cl cl clo
end Go.Proofs.YtnfagphepkeedaaGreat
end
section
namespace Go.Proofs.YtnfagphepkeedaaGreat
open Go.RowKit

end Go.Proofs.YtnfagphepkeedaaGreat
end
section
namespace Go.Proofs.YtnfagphepkeedaaGreat
open Go.RowKit

theorem Reader_End0 (s : RS) (hs : ROk s) : Does Tryz.prog 39 [.ref 0 0] [rdr s] (.tup []) [rdr (s.rest9)] := by
  refine Does.runA Tryz.func39 b39 n39 Tryz.ntmps39 ?_; simp only [c39, go_sem, Nat.reduceAdd, Nat.reduceMul, Int.reduceToNat, Nat.reduceLeDiff, Int.reduceLE, Int.reduceLT, ↓reduceIte, Int.reduceBEq, Int.reduceBNe, Int.reduceAdd, Int.reduceSub, Int.reduceMul]; try refine okTr_and rfl ?_
  refine CallK.r1 (Reader_Left s 0 hs.ok) rfl ?_
  by_cases h : 0 < s.left
  · have q : decide (0 < s.left) = true := decide_eq_true h
    have e : s.rest9 = s.fail 9 s.at_ := by unfold RS.rest9; rw [if_pos h]
    (simp only [go_sem, Nat.reduceAdd, Nat.reduceMul, Int.reduceToNat, Nat.reduceLeDiff, Int.reduceLE, Int.reduceLT, ↓reduceIte, Int.reduceBEq, Int.reduceBNe, Int.reduceAdd, Int.reduceSub, Int.reduceMul, q]; try refine okTr_and rfl ?_)
    refine CallK.u1 (Reader_Fail s 9 s.at_ 0) rfl ?_; (simp only [go_sem, Nat.reduceAdd, Nat.reduceMul, Int.reduceToNat, Nat.reduceLeDiff, Int.reduceLE, Int.reduceLT, ↓reduceIte, Int.reduceBEq, Int.reduceBNe, Int.reduceAdd, Int.reduceSub, Int.reduceMul]; try refine okTr_and rfl ?_)
    ((refine FinK.finB r39 [0] ?_ ?_); (· first | with_reducible rfl | (simp [e]; done) | rfl); (· simp [resAL, resA1, loadA, oneOr, e]))
  · have q : decide (0 < s.left) = false := decide_eq_false h
    have e : s.rest9 = s := by unfold RS.rest9; rw [if_neg h]
    (simp only [go_sem, Nat.reduceAdd, Nat.reduceMul, Int.reduceToNat, Nat.reduceLeDiff, Int.reduceLE, Int.reduceLT, ↓reduceIte, Int.reduceBEq, Int.reduceBNe, Int.reduceAdd, Int.reduceSub, Int.reduceMul, q]; try refine okTr_and rfl ?_)
    ((refine FinK.finB r39 [0] ?_ ?_); (· first | with_reducible rfl | (simp [e]; done) | rfl); (· simp [resAL, resA1, loadA, oneOr, e]))
theorem Reader_End (s : RS) (i : Nat) (hs : ROk s) : Ct Tryz.prog 39 [.ref i 0] [(i, rdr s)] (fun _ => .tup []) [(i, rdr (s.rest9))] (fun _ => []) := Ct.u1 (Reader_End0 s hs) i cl (fun ρ => rdr_ren ρ _) (fun ρ => rdr_ren ρ _) (rdr_dead _) cl
theorem ROk.rest9 {s : RS} (h : ROk s) : ROk s.rest9 := by
  unfold RS.rest9; split
  · exact h.fail _ _
  · exact h
end Go.Proofs.YtnfagphepkeedaaGreat
end
section
namespace Go.Proofs.YtnfagphepkeedaaGreat
open Go.RowKit

theorem Reader_Since0 (s : RS) (a : Int) (hs : s.ok) (a0 : 0 ≤ a) (a1 : a ≤ s.at_) : Does Tryz.prog 35 [.ref 0 0, iA a] [rdr s] (slA .u8 ((s.l.drop a.toNat).take (s.at_ - a).toNat)) [rdr (s)] := by
  obtain ⟨h0, h1, h2⟩ := hs
  have q1 : decide (a < 0) = false := decide_eq_false (by omega)
  have q2 : decide (s.at_ < a) = false := decide_eq_false (by omega)
  have e1 : ((s.l.drop a.toNat).take (s.at_ - a).toNat).length ≤ s.l.length := by simp; omega
  unfold rdr
  refine Does.runA Tryz.func35 b35 n35 Tryz.ntmps35 ?_; simp only [c35, go_sem, Nat.reduceAdd, Nat.reduceMul, Int.reduceToNat, Nat.reduceLeDiff, Int.reduceLE, Int.reduceLT, ↓reduceIte, Int.reduceBEq, Int.reduceBNe, Int.reduceAdd, Int.reduceSub, Int.reduceMul, q1, q2, ints_length, ints_drop, ints_take]; try refine okTr_and rfl ?_
  (repeat ((with_reducible refine And.intro ?_ ?_); (· exact sd)))
  (refine FinK.untag 4 rfl ?_; simp only [untag1_sl, List.set_cons_zero, List.set_cons_succ])
  exact FinK.finA r35 [0]
theorem Reader_Since (s : RS) (a : Int) (i : Nat) (hs : s.ok) (a0 : 0 ≤ a) (a1 : a ≤ s.at_) : Ct Tryz.prog 35 [.ref i 0, iA a] [(i, rdr s)] (fun _ => slA .u8 ((s.l.drop a.toNat).take (s.at_ - a).toNat)) [] (fun _ => []) :=
  Ct.r1 (Reader_Since0 s a hs a0 a1) i cl (fun ρ => rdr_ren ρ s) (rdr_dead s) cl
theorem legacy_begin0 (s : RS) (v : Int) (hs : ROk s) (hv : ¬ v = 0) : Does Tryz.prog 29 [.ref 0 0, iA v] [rdr s] (hdA s.header.2) [rdr (s.begin v)] := by
  have hbad := fun hc => header_bad (s := s) hc
  obtain ⟨F, hF⟩ : ∃ F, s.header = F := ⟨_, rfl⟩
  have e : s.begin v = if F.1.code = 0 ∧ ¬ F.2.ver = v then F.1.fail 8 4 else F.1 := by unfold RS.begin; rw [hF]
  rw [e, hF]
  rw [hF] at hbad
  refine Does.runA Tryz.func29 b29 n29 Tryz.ntmps29 ?_; simp only [c29, go_sem, Nat.reduceAdd, Nat.reduceMul, Int.reduceToNat, Nat.reduceLeDiff, Int.reduceLE, Int.reduceLT, ↓reduceIte, Int.reduceBEq, Int.reduceBNe, Int.reduceAdd, Int.reduceSub, Int.reduceMul]; try refine okTr_and rfl ?_
  refine CallK.u1 (header_Read s 0 hs) rfl ?_; (simp only [go_sem, Nat.reduceAdd, Nat.reduceMul, Int.reduceToNat, Nat.reduceLeDiff, Int.reduceLE, Int.reduceLT, ↓reduceIte, Int.reduceBEq, Int.reduceBNe, Int.reduceAdd, Int.reduceSub, Int.reduceMul, hF]; try refine okTr_and rfl ?_)
  by_cases h : F.2.ver = v
  · have q : (F.2.ver != v) = false := by simpa using h
    rw [if_neg (fun hh => hh.2 h)]
    (simp only [go_sem, Nat.reduceAdd, Nat.reduceMul, Int.reduceToNat, Nat.reduceLeDiff, Int.reduceLE, Int.reduceLT, ↓reduceIte, Int.reduceBEq, Int.reduceBNe, Int.reduceAdd, Int.reduceSub, Int.reduceMul, q]; try refine okTr_and rfl ?_)
    exact FinK.finA r29 [0]
  · have q : (F.2.ver != v) = true := by simpa using h
    have e2 : (if F.1.code = 0 ∧ ¬ F.2.ver = v then F.1.fail 8 4 else F.1) = F.1.fail 8 4 := by
      by_cases hc : F.1.code = 0
      · rw [if_pos ⟨hc, h⟩]
      · rw [if_neg (fun hh => hc hh.1), fail_stays hc]
    rw [e2]
    (simp only [go_sem, Nat.reduceAdd, Nat.reduceMul, Int.reduceToNat, Nat.reduceLeDiff, Int.reduceLE, Int.reduceLT, ↓reduceIte, Int.reduceBEq, Int.reduceBNe, Int.reduceAdd, Int.reduceSub, Int.reduceMul, q]; try refine okTr_and rfl ?_)
    refine CallK.u1 (Reader_Fail F.1 8 4 0) rfl ?_; (simp only [go_sem, Nat.reduceAdd, Nat.reduceMul, Int.reduceToNat, Nat.reduceLeDiff, Int.reduceLE, Int.reduceLT, ↓reduceIte, Int.reduceBEq, Int.reduceBNe, Int.reduceAdd, Int.reduceSub, Int.reduceMul]; try refine okTr_and rfl ?_)
    exact FinK.finA r29 [0]
theorem legacy_begin (s : RS) (v : Int) (i : Nat) (hs : ROk s) (hv : ¬ v = 0) : Ct Tryz.prog 29 [.ref i 0, iA v] [(i, rdr s)] (fun _ => hdA s.header.2) [(i, rdr (s.begin v))] (fun _ => []) := Ct.u1 (legacy_begin0 s v hs hv) i cl (fun ρ => rdr_ren ρ _) (fun ρ => rdr_ren ρ _) (rdr_dead _) cl
theorem legacy_counted0 (s : RS) (base least most : Int) (hs : ROk s) (b0 : 0 ≤ base) (b1 : base < 18446744073709551616) (m1 : most ≤ 1000000) : Does Tryz.prog 31 [.ref 0 0, uA base, iA least, iA most] [rdr s] (iA (s.cnt base least most).2) [rdr ((s.cnt base least most).1)] := by
  have hr := int_range (s := s) (m := most) hs.bys
  have hsnd := cnt_snd s base least most
  have hz := fun hc => int_zero (s := s) (m := most) hc
  obtain ⟨F, hF⟩ : ∃ F, s.int most = F := ⟨_, rfl⟩
  have e : s.cnt base least most = if F.1.code = 0 ∧ (F.2 < least ∨ fitsB base F.2 = false) then (F.1.fail 3 s.at_, F.2) else F := by unfold RS.cnt; rw [hF]
  rw [hsnd, e, hF]
  rw [hF] at hr hz
  have yes : F.2 < least ∨ fitsB base F.2 = false → (if F.1.code = 0 ∧ (F.2 < least ∨ fitsB base F.2 = false) then (F.1.fail 3 s.at_, F.2) else F).1 = F.1.fail 3 s.at_ := fun h => by
    by_cases hc : F.1.code = 0
    · rw [if_pos ⟨hc, h⟩]
    · rw [if_neg (fun hh => hc hh.1), fail_stays hc]
  have no : ¬ (F.2 < least ∨ fitsB base F.2 = false) → (if F.1.code = 0 ∧ (F.2 < least ∨ fitsB base F.2 = false) then (F.1.fail 3 s.at_, F.2) else F).1 = F.1 := fun h => by
    rw [if_neg (fun hh => h hh.2)]
  refine Does.runA Tryz.func31 b31 n31 Tryz.ntmps31 ?_; simp only [c31, go_sem, Nat.reduceAdd, Nat.reduceMul, Int.reduceToNat, Nat.reduceLeDiff, Int.reduceLE, Int.reduceLT, ↓reduceIte, Int.reduceBEq, Int.reduceBNe, Int.reduceAdd, Int.reduceSub, Int.reduceMul]; try refine okTr_and rfl ?_
  refine CallK.r1 (Reader_At s 0) rfl ?_; (simp only [go_sem, Nat.reduceAdd, Nat.reduceMul, Int.reduceToNat, Nat.reduceLeDiff, Int.reduceLE, Int.reduceLT, ↓reduceIte, Int.reduceBEq, Int.reduceBNe, Int.reduceAdd, Int.reduceSub, Int.reduceMul]; try refine okTr_and rfl ?_)
  refine CallK.u1 (varint_ReadInt s most 0 (by omega) hs.ok hs.bys) rfl ?_; (simp only [go_sem, Nat.reduceAdd, Nat.reduceMul, Int.reduceToNat, Nat.reduceLeDiff, Int.reduceLE, Int.reduceLT, ↓reduceIte, Int.reduceBEq, Int.reduceBNe, Int.reduceAdd, Int.reduceSub, Int.reduceMul, hF]; try refine okTr_and rfl ?_)
  by_cases h1 : F.2 < least
  · have q1 : decide (F.2 < least) = true := decide_eq_true h1
    rw [yes (.inl h1)]
    (simp only [go_sem, Nat.reduceAdd, Nat.reduceMul, Int.reduceToNat, Nat.reduceLeDiff, Int.reduceLE, Int.reduceLT, ↓reduceIte, Int.reduceBEq, Int.reduceBNe, Int.reduceAdd, Int.reduceSub, Int.reduceMul, q1]; try refine okTr_and rfl ?_)
    refine CallK.u1 (Reader_Fail F.1 3 s.at_ 0) rfl ?_; (simp only [go_sem, Nat.reduceAdd, Nat.reduceMul, Int.reduceToNat, Nat.reduceLeDiff, Int.reduceLE, Int.reduceLT, ↓reduceIte, Int.reduceBEq, Int.reduceBNe, Int.reduceAdd, Int.reduceSub, Int.reduceMul]; try refine okTr_and rfl ?_)
    exact FinK.finA r31 [0]
  · have q1 : decide (F.2 < least) = false := decide_eq_false h1
    (simp only [go_sem, Nat.reduceAdd, Nat.reduceMul, Int.reduceToNat, Nat.reduceLeDiff, Int.reduceLE, Int.reduceLT, ↓reduceIte, Int.reduceBEq, Int.reduceBNe, Int.reduceAdd, Int.reduceSub, Int.reduceMul, q1]; try refine okTr_and rfl ?_)
    refine CallK.p (legacy_numbered base F.2 b0 b1 hr.1 (by omega)) ?_
    cases h2 : fitsB base F.2 with
    | false =>
      rw [h2] at yes
      rw [yes (.inr rfl)]
      (simp only [go_sem, Nat.reduceAdd, Nat.reduceMul, Int.reduceToNat, Nat.reduceLeDiff, Int.reduceLE, Int.reduceLT, ↓reduceIte, Int.reduceBEq, Int.reduceBNe, Int.reduceAdd, Int.reduceSub, Int.reduceMul]; try refine okTr_and rfl ?_)
      refine CallK.u1 (Reader_Fail F.1 3 s.at_ 0) rfl ?_; (simp only [go_sem, Nat.reduceAdd, Nat.reduceMul, Int.reduceToNat, Nat.reduceLeDiff, Int.reduceLE, Int.reduceLT, ↓reduceIte, Int.reduceBEq, Int.reduceBNe, Int.reduceAdd, Int.reduceSub, Int.reduceMul]; try refine okTr_and rfl ?_)
      exact FinK.finA r31 [0]
    | true =>
      rw [h2] at no
      rw [no (by rintro (h | h); exact h1 h; cases h)]
      (simp only [go_sem, Nat.reduceAdd, Nat.reduceMul, Int.reduceToNat, Nat.reduceLeDiff, Int.reduceLE, Int.reduceLT, ↓reduceIte, Int.reduceBEq, Int.reduceBNe, Int.reduceAdd, Int.reduceSub, Int.reduceMul]; try refine okTr_and rfl ?_)
      exact FinK.finA r31 [0]
theorem legacy_counted (s : RS) (base least most : Int) (i : Nat) (hs : ROk s) (b0 : 0 ≤ base) (b1 : base < 18446744073709551616) (m1 : most ≤ 1000000) : Ct Tryz.prog 31 [.ref i 0, uA base, iA least, iA most] [(i, rdr s)] (fun _ => iA (s.cnt base least most).2) [(i, rdr ((s.cnt base least most).1))] (fun _ => []) := Ct.u1 (legacy_counted0 s base least most hs b0 b1 m1) i cl (fun ρ => rdr_ren ρ _) (fun ρ => rdr_ren ρ _) (rdr_dead _) cl
theorem oback_fail {s : RS} (hs : ROk s) (pos : Int) (p0 : 0 ≤ pos) : (pos < s.vint.1.vint.2 → s.oback pos = s.vint.1.vint.1.fail 3 s.vint.1.at_) ∧ (¬ pos < s.vint.1.vint.2 → s.oback pos = s.vint.1.vint.1) := by
  unfold RS.oback
  refine ⟨fun h => ?_, fun h => by rw [if_neg (fun hh => h hh.2)]⟩
  by_cases hc : s.vint.1.vint.1.code = 0
  · rw [if_pos ⟨hc, h⟩]
  · have := vint_zero hc
    omega
theorem oldV_ok {s : RS} (hs : ROk s) {pos : Int} (p0 : 0 ≤ pos) {d : List Int} : (oldV s pos d).data = d := by unfold oldV; split <;> rfl
set_option maxHeartbeats 1000000 in
theorem legacy_old0 (s : RS) (pos m : Int) (hs : ROk s) (p0 : 0 ≤ pos) (p1 : pos < 18446744073709551616) (m1 : m < 9223372036854775808) : Does Tryz.prog 34 [.ref 0 0, uA pos, iA m] [rdr s] (oA (oldV s pos ((s.oback pos).blob m).2)) [rdr (((s.oback pos).blob m).1)] := by
  obtain ⟨v1, v2⟩ := hs.vint
  obtain ⟨w1, w2⟩ := v1.vint
  have r1 := vint_range (s := s) hs.bys
  have r2 := vint_range (s := s.vint.1) v1.bys
  obtain ⟨ok1, ok2⟩ := oback_keep hs pos
  obtain ⟨of1, of2⟩ := oback_fail hs pos p0
  have hV : oldV s pos ((s.oback pos).blob m).2 = if 0 < s.vint.1.vint.2 ∧ (s.oback pos).code = 0 then ⟨s.vint.2, pos - s.vint.1.vint.2, true, ((s.oback pos).blob m).2⟩ else ⟨s.vint.2, 0, false, ((s.oback pos).blob m).2⟩ := rfl
  have hpos : (s.oback pos).code = 0 → s.vint.1.vint.2 ≤ pos := fun h => (oback_is h).2.1
  obtain ⟨B, hB⟩ : ∃ B, s.oback pos = B := ⟨_, rfl⟩
  rw [hB] at ok1 hV hpos of1 of2
  rw [hB, hV]
  obtain ⟨D, hD⟩ : ∃ D, B.blob m = D := ⟨_, rfl⟩
  rw [hD]
  have key : ∀ (tail : Prop), tail → tail := fun _ h => h
  refine Does.runA Tryz.func34 b34 n34 Tryz.ntmps34 ?_; simp only [c34, go_sem, Nat.reduceAdd, Nat.reduceMul, Int.reduceToNat, Nat.reduceLeDiff, Int.reduceLE, Int.reduceLT, ↓reduceIte, Int.reduceBEq, Int.reduceBNe, Int.reduceAdd, Int.reduceSub, Int.reduceMul]; try refine okTr_and rfl ?_
  refine CallK.u1 (varint_Read s 0 hs.ok hs.bys) rfl ?_; (simp only [go_sem, Nat.reduceAdd, Nat.reduceMul, Int.reduceToNat, Nat.reduceLeDiff, Int.reduceLE, Int.reduceLT, ↓reduceIte, Int.reduceBEq, Int.reduceBNe, Int.reduceAdd, Int.reduceSub, Int.reduceMul]; try refine okTr_and rfl ?_)
  refine CallK.r1 (Reader_At s.vint.1 0) rfl ?_; (simp only [go_sem, Nat.reduceAdd, Nat.reduceMul, Int.reduceToNat, Nat.reduceLeDiff, Int.reduceLE, Int.reduceLT, ↓reduceIte, Int.reduceBEq, Int.reduceBNe, Int.reduceAdd, Int.reduceSub, Int.reduceMul]; try refine okTr_and rfl ?_)
  refine CallK.u1 (varint_Read s.vint.1 0 v1.ok v1.bys) rfl ?_; (simp only [go_sem, Nat.reduceAdd, Nat.reduceMul, Int.reduceToNat, Nat.reduceLeDiff, Int.reduceLE, Int.reduceLT, ↓reduceIte, Int.reduceBEq, Int.reduceBNe, Int.reduceAdd, Int.reduceSub, Int.reduceMul]; try refine okTr_and rfl ?_)
  by_cases hp : pos < s.vint.1.vint.2
  · have q1 : decide (pos < s.vint.1.vint.2) = true := decide_eq_true hp
    have q2 : decide (0 < s.vint.1.vint.2) = true := decide_eq_true (by omega)
    have hc : ¬ B.code = 0 := fun h => by have := hpos h; omega
    have hg : B.good = false := by unfold RS.good; simpa using hc
    rw [if_neg (fun hh => hc hh.2)]
    have e := of1 hp
    (simp only [go_sem, Nat.reduceAdd, Nat.reduceMul, Int.reduceToNat, Nat.reduceLeDiff, Int.reduceLE, Int.reduceLT, ↓reduceIte, Int.reduceBEq, Int.reduceBNe, Int.reduceAdd, Int.reduceSub, Int.reduceMul, q1]; try refine okTr_and rfl ?_)
    refine CallK.u1 (Reader_Fail s.vint.1.vint.1 3 s.vint.1.at_ 0) rfl ?_; (simp only [go_sem, Nat.reduceAdd, Nat.reduceMul, Int.reduceToNat, Nat.reduceLeDiff, Int.reduceLE, Int.reduceLT, ↓reduceIte, Int.reduceBEq, Int.reduceBNe, Int.reduceAdd, Int.reduceSub, Int.reduceMul, q2, ← e]; try refine okTr_and rfl ?_)
    refine CallK.r1 (Reader_Good B 0) rfl ?_; (simp only [go_sem, Nat.reduceAdd, Nat.reduceMul, Int.reduceToNat, Nat.reduceLeDiff, Int.reduceLE, Int.reduceLT, ↓reduceIte, Int.reduceBEq, Int.reduceBNe, Int.reduceAdd, Int.reduceSub, Int.reduceMul, hg]; try refine okTr_and rfl ?_)
    refine CallK.u1 (blob_Read B m 0 m1 ok1) rfl ?_; (simp only [go_sem, Nat.reduceAdd, Nat.reduceMul, Int.reduceToNat, Nat.reduceLeDiff, Int.reduceLE, Int.reduceLT, ↓reduceIte, Int.reduceBEq, Int.reduceBNe, Int.reduceAdd, Int.reduceSub, Int.reduceMul, hD]; try refine okTr_and rfl ?_)
    exact FinK.finA r34 [0]
  · have q1 : decide (pos < s.vint.1.vint.2) = false := decide_eq_false hp
    have e := of2 hp
    by_cases h0 : 0 < s.vint.1.vint.2
    · have q2 : decide (0 < s.vint.1.vint.2) = true := decide_eq_true h0
      (simp only [go_sem, Nat.reduceAdd, Nat.reduceMul, Int.reduceToNat, Nat.reduceLeDiff, Int.reduceLE, Int.reduceLT, ↓reduceIte, Int.reduceBEq, Int.reduceBNe, Int.reduceAdd, Int.reduceSub, Int.reduceMul, q1, q2, ← e]; try refine okTr_and rfl ?_)
      refine CallK.r1 (Reader_Good B 0) rfl ?_; (simp only [go_sem, Nat.reduceAdd, Nat.reduceMul, Int.reduceToNat, Nat.reduceLeDiff, Int.reduceLE, Int.reduceLT, ↓reduceIte, Int.reduceBEq, Int.reduceBNe, Int.reduceAdd, Int.reduceSub, Int.reduceMul]; try refine okTr_and rfl ?_)
      by_cases hc : B.code = 0
      · have hg : B.good = true := by unfold RS.good; simpa using hc
        have w : IntKind.u64.wrap (pos - s.vint.1.vint.2) = pos - s.vint.1.vint.2 := IntWalk.u64_in _ (by omega)
        rw [if_pos ⟨h0, hc⟩]
        (simp only [go_sem, Nat.reduceAdd, Nat.reduceMul, Int.reduceToNat, Nat.reduceLeDiff, Int.reduceLE, Int.reduceLT, ↓reduceIte, Int.reduceBEq, Int.reduceBNe, Int.reduceAdd, Int.reduceSub, Int.reduceMul, hg, w]; try refine okTr_and rfl ?_)
        refine CallK.u1 (blob_Read B m 0 m1 ok1) rfl ?_; (simp only [go_sem, Nat.reduceAdd, Nat.reduceMul, Int.reduceToNat, Nat.reduceLeDiff, Int.reduceLE, Int.reduceLT, ↓reduceIte, Int.reduceBEq, Int.reduceBNe, Int.reduceAdd, Int.reduceSub, Int.reduceMul, hD]; try refine okTr_and rfl ?_)
        exact FinK.finA r34 [0]
      · have hg : B.good = false := by unfold RS.good; simpa using hc
        rw [if_neg (fun hh => hc hh.2)]
        (simp only [go_sem, Nat.reduceAdd, Nat.reduceMul, Int.reduceToNat, Nat.reduceLeDiff, Int.reduceLE, Int.reduceLT, ↓reduceIte, Int.reduceBEq, Int.reduceBNe, Int.reduceAdd, Int.reduceSub, Int.reduceMul, hg]; try refine okTr_and rfl ?_)
        refine CallK.u1 (blob_Read B m 0 m1 ok1) rfl ?_; (simp only [go_sem, Nat.reduceAdd, Nat.reduceMul, Int.reduceToNat, Nat.reduceLeDiff, Int.reduceLE, Int.reduceLT, ↓reduceIte, Int.reduceBEq, Int.reduceBNe, Int.reduceAdd, Int.reduceSub, Int.reduceMul, hD]; try refine okTr_and rfl ?_)
        exact FinK.finA r34 [0]
    · have q2 : decide (0 < s.vint.1.vint.2) = false := decide_eq_false h0
      rw [if_neg (fun hh => h0 hh.1)]
      (simp only [go_sem, Nat.reduceAdd, Nat.reduceMul, Int.reduceToNat, Nat.reduceLeDiff, Int.reduceLE, Int.reduceLT, ↓reduceIte, Int.reduceBEq, Int.reduceBNe, Int.reduceAdd, Int.reduceSub, Int.reduceMul, q1, q2, ← e]; try refine okTr_and rfl ?_)
      refine CallK.u1 (blob_Read B m 0 m1 ok1) rfl ?_; (simp only [go_sem, Nat.reduceAdd, Nat.reduceMul, Int.reduceToNat, Nat.reduceLeDiff, Int.reduceLE, Int.reduceLT, ↓reduceIte, Int.reduceBEq, Int.reduceBNe, Int.reduceAdd, Int.reduceSub, Int.reduceMul, hD]; try refine okTr_and rfl ?_)
      exact FinK.finA r34 [0]
theorem legacy_old (s : RS) (pos m : Int) (i : Nat) (hs : ROk s) (p0 : 0 ≤ pos) (p1 : pos < 18446744073709551616) (m1 : m < 9223372036854775808) : Ct Tryz.prog 34 [.ref i 0, uA pos, iA m] [(i, rdr s)] (fun _ => oA (oldV s pos ((s.oback pos).blob m).2)) [(i, rdr (((s.oback pos).blob m).1))] (fun _ => []) := Ct.u1 (legacy_old0 s pos m hs p0 p1 m1) i cl (fun ρ => rdr_ren ρ _) (fun ρ => rdr_ren ρ _) (rdr_dead _) cl
end Go.Proofs.YtnfagphepkeedaaGreat
end
section
namespace Go.Proofs.YtnfagphepkeedaaGreat
open Go.RowKit

abbrev hdO (h : Hd) : AObj := .cells [iA h.ver, uA h.ep, uA h.base]
abbrev ptO (r : Nat) : AObj := .cells [.ref r 0]
abbrev inO (n : Int) : AObj := .cells [iA n]
def got1 (s : RS) (u : Sg1) : Sg1 × (Int × Int) := if s.code = 0 then (u, (0, 0)) else (sg10, (s.code, s.fat))
theorem legacy_got10 (s : RS) (u : Sg1) : Does Tryz.prog 40 [.ref 0 0, sg1A u] [rdr s] (.tup [sg1A (got1 s u).1, fltA (got1 s u).2]) [rdr (s)] := by
  refine Does.runA Tryz.func40 b40 n40 Tryz.ntmps40 ?_; simp only [c40, go_sem, Nat.reduceAdd, Nat.reduceMul, Int.reduceToNat, Nat.reduceLeDiff, Int.reduceLE, Int.reduceLT, ↓reduceIte, Int.reduceBEq, Int.reduceBNe, Int.reduceAdd, Int.reduceSub, Int.reduceMul]; try refine okTr_and rfl ?_
  refine CallK.r1 (Reader_Fault s 0) rfl ?_; (simp only [go_sem, Nat.reduceAdd, Nat.reduceMul, Int.reduceToNat, Nat.reduceLeDiff, Int.reduceLE, Int.reduceLT, ↓reduceIte, Int.reduceBEq, Int.reduceBNe, Int.reduceAdd, Int.reduceSub, Int.reduceMul]; try refine okTr_and rfl ?_)
  refine CallK.p (fault_Good s.code s.fat) ?_
  by_cases hc : s.code = 0
  · have q : (s.code == 0) = true := by simpa using hc
    have e : got1 s u = (u, (0, 0)) := by unfold got1; rw [if_pos hc]
    rw [e]
    (simp only [go_sem, Nat.reduceAdd, Nat.reduceMul, Int.reduceToNat, Nat.reduceLeDiff, Int.reduceLE, Int.reduceLT, ↓reduceIte, Int.reduceBEq, Int.reduceBNe, Int.reduceAdd, Int.reduceSub, Int.reduceMul, q]; try refine okTr_and rfl ?_)
    exact FinK.finA r40 [0]
  · have q : (s.code == 0) = false := by simpa using hc
    have e : got1 s u = (sg10, (s.code, s.fat)) := by unfold got1; rw [if_neg hc]
    rw [e]
    (simp only [go_sem, Nat.reduceAdd, Nat.reduceMul, Int.reduceToNat, Nat.reduceLeDiff, Int.reduceLE, Int.reduceLT, ↓reduceIte, Int.reduceBEq, Int.reduceBNe, Int.reduceAdd, Int.reduceSub, Int.reduceMul, q]; try refine okTr_and rfl ?_)
    (refine FinK.wao (ys := [uA 0, uA 0, slO []]) 2 rfl (by repeat (first | exact Wa.refl _ | exact WaL.nil | exact Wa.nil | exact Wa.none | refine WaL.cons ?_ ?_ | refine Wa.agg ?_ | refine Wa.slN ?_ | refine Wa.slS ?_ | exact WaL.refl _)) ?_; simp only [List.set_cons_zero, List.set_cons_succ])
    ((refine FinK.finB r40 [0] ?_ ?_); (· first | with_reducible rfl | (simp [sg10, o1s_nil]; done) | rfl); (· simp [resAL, resA1, loadA, oneOr, sg10, o1s_nil]))
theorem legacy_got1 (s : RS) (u : Sg1) (i : Nat) : Ct Tryz.prog 40 [.ref i 0, sg1A u] [(i, rdr s)] (fun _ => .tup [sg1A (got1 s u).1, fltA (got1 s u).2]) [] (fun _ => []) :=
  Ct.r1 (legacy_got10 s u) i cl (fun ρ => rdr_ren ρ s) (rdr_dead s) cl
theorem blob_len2 {s : RS} (hs : ROk s) {m : Int} (m0 : 0 ≤ m) : ((s.blob m).2.length : Int) ≤ m := by
  by_cases hc : (s.blob m).1.code = 0
  · exact (blob_is hs hc).2.1
  · rw [blob_bad hc]; simpa using m0
theorem legacy_Decode110 (t : RS) (h : Hd) (k : Nat) (left pos : Int) (ht : ROk t) (hp : IntKind.u64.wrap (h.base + k) = pos) (hk : k ≤ 1000000) (p0 : 0 ≤ pos) (p1 : pos < 18446744073709551616) (l0 : 0 ≤ left) (l1 : left ≤ 1048576) :
    Does Tryz.prog 33 [iA k, .ref 1 0, .ref 2 0, .ref 3 0] [rdr t, ptO 0, hdO h, inO left] (oA (oldV t pos ((t.oback pos).blob left).2)) [rdr ((t.oback pos).blob left).1, ptO 0, hdO h, inO (left - ((t.oback pos).blob left).2.length)] := by
  have w0 : IntKind.u64.wrap (k : Int) = k := IntWalk.u64_in _ (by omega)
  have hl := blob_len2 (oback_keep ht pos).1 (m := left) l0
  have hd := oldV_ok ht p0 (d := ((t.oback pos).blob left).2)
  obtain ⟨D, hD⟩ : ∃ D, (t.oback pos).blob left = D := ⟨_, rfl⟩
  have hol := legacy_old t pos left 0 ht p0 p1 (by omega)
  rw [hD] at hl hd hol ⊢
  obtain ⟨V, hV⟩ : ∃ V, oldV t pos D.2 = V := ⟨_, rfl⟩
  rw [hV] at hd hol ⊢
  have w1 : IntKind.i64.wrap (left - (V.data.length : Int)) = left - (D.2.length : Int) := by rw [hd, IntWalk.i64_in _ (by omega)]
  refine Does.runA Tryz.func33 b33 n33 Tryz.ntmps33 ?_; simp only [c33, go_sem, Nat.reduceAdd, Nat.reduceMul, Int.reduceToNat, Nat.reduceLeDiff, Int.reduceLE, Int.reduceLT, ↓reduceIte, Int.reduceBEq, Int.reduceBNe, Int.reduceAdd, Int.reduceSub, Int.reduceMul, w0, hp]; try refine okTr_and rfl ?_
  refine CallK.u1 (hol) rfl ?_; (simp only [go_sem, Nat.reduceAdd, Nat.reduceMul, Int.reduceToNat, Nat.reduceLeDiff, Int.reduceLE, Int.reduceLT, ↓reduceIte, Int.reduceBEq, Int.reduceBNe, Int.reduceAdd, Int.reduceSub, Int.reduceMul, ints_length, w1]; try refine okTr_and rfl ?_)
  exact FinK.finA r33 [0, 1, 2, 3]
theorem legacy_Decode11 (t : RS) (h : Hd) (k : Nat) (left pos : Int) (r b c d : Nat) (hn : [r, b, c, d].Nodup) (ht : ROk t) (hp : IntKind.u64.wrap (h.base + k) = pos) (hk : k ≤ 1000000) (p0 : 0 ≤ pos) (p1 : pos < 18446744073709551616) (l0 : 0 ≤ left) (l1 : left ≤ 1048576) :
    Ct Tryz.prog 33 [iA k, .ref b 0, .ref c 0, .ref d 0] [(r, rdr t), (b, ptO r), (c, hdO h), (d, inO left)] (fun _ => oA (oldV t pos ((t.oback pos).blob left).2)) [(r, rdr ((t.oback pos).blob left).1), (b, ptO r), (c, hdO h), (d, inO (left - ((t.oback pos).blob left).2.length))] (fun _ => []) :=
  Ct.u4 (legacy_Decode110 t h k left pos ht hp hk p0 p1 l0 l1) r b c d hn cl cl cl cl cl cl cl cl cl (by simp [rdr]) cl
set_option maxHeartbeats 1000000 in
set_option maxRecDepth 100000 in
theorem legacy_many10 (u : RS) (h : Hd) (N : Nat) (hu : ROk u) (b0 : 0 ≤ h.base) (b1 : h.base < 18446744073709551616) (hN : N ≤ 1000000) (hf : u.code = 0 → h.base + N ≤ 4611686018427387904) (hn : u.l.length * 48 ≤ 100000000000000) :
    Does Tryz.prog 32 [.ref 0 0, iA N, .fn 33 [] [.ref 1 0, .ref 2 0, .ref 3 0]] [rdr u, ptO 0, hdO h, inO 1048576] (slO ((oldF h.base).many N u []).2) [rdr ((oldF h.base).many N u []).1, ptO 0, hdO h, .cells [.any]] := by
  have hF := oldF_ok b0
  refine Does.runA Tryz.func32 b32 n32 Tryz.ntmps32 ?_; simp only [c32, go_sem, Nat.reduceAdd, Nat.reduceMul, Int.reduceToNat, Nat.reduceLeDiff, Int.reduceLE, Int.reduceLT, ↓reduceIte, Int.reduceBEq, Int.reduceBNe, Int.reduceAdd, Int.reduceSub, Int.reduceMul]; try refine okTr_and rfl ?_
  refine loop_of (α := RS × List O1) (fun a => [.ref 0 0, .any, .fn 33 [] [.ref 1 0, .ref 2 0, .ref 3 0], .any, .any, .any, .any, .sl (.row 4) 4 (o1s a.2), .any, .any, iA N, iA a.2.length, .any, .any, .any, .any, .any, .any, .any, .any, .any, .any, .any, .any, .any, .any]) (fun a => [rdr a.1, ptO 0, hdO h, inO (1048576 - sumO a.2), .row 4 a.2.length]) (fun a => (oldF h.base).On u N a ∧ (a.1.code = 0 → u.code = 0)) (fun a => N - a.2.length) (u, []) ⟨Fmt.On.start hu N, fun h => h⟩ ((Wk.row 7 4 rfl (.inr rfl) (by decide)).trans (Wk.to (by simp [sumO]) (by simp [leT, o1s]))) ?_
  rintro ⟨t, acc⟩ ⟨ho, hor⟩
  have hla := ho.len
  have h1 := ho.ok
  have h2 := ho.l
  have h6 := ho.res
  have hwf := ho.wf
  simp only at h1 h2 h6 hwf hor
  have hsum := old_sum hwf
  have hs0 := sumO_ge acc
  (simp only [go_sem, Nat.reduceAdd, Nat.reduceMul, Int.reduceToNat, Nat.reduceLeDiff, Int.reduceLE, Int.reduceLT, ↓reduceIte, Int.reduceBEq, Int.reduceBNe, Int.reduceAdd, Int.reduceSub, Int.reduceMul]; try refine okTr_and rfl ?_)
  by_cases hlt : acc.length < N
  · have q0 : decide ((acc.length : Int) < (N : Int)) = true := decide_eq_true (by omega)
    have ei := i64_succ acc.length (by omega)
    obtain ⟨pos, hpos⟩ : ∃ pos, IntKind.u64.wrap (h.base + (acc.length : Int)) = pos := ⟨_, rfl⟩
    have hpr : 0 ≤ pos ∧ pos < 18446744073709551616 := by
      rw [← hpos, IntKind.wrap_u64]; omega
    have hcl := legacy_Decode11 t h acc.length (1048576 - sumO acc) pos 0 1 2 3 (by decide) h1 hpos (by omega) hpr.1 hpr.2 (by omega) (by omega)
    have hff : ((oldF h.base).f t acc).1 = ((t.oback pos).blob (1048576 - sumO acc)).1 ∧ (((t.oback pos).blob (1048576 - sumO acc)).1.code = 0 → ((oldF h.base).f t acc).2 = oldV t pos ((t.oback pos).blob (1048576 - sumO acc)).2) := by
      by_cases hc0 : t.code = 0
      · have hg : h.base + (acc.length : Int) < 4611686018427387904 := by
          have := hf (hor hc0)
          omega
        have hpe : pos = h.base + (acc.length : Int) := by rw [← hpos]; exact IntWalk.u64_in _ (by omega)
        rw [oldF_f hg, ← hpe]
        exact ⟨rfl, fun _ => rfl⟩
      · rw [oldF_code h.base t acc hc0]
        have ho2 : t.oback pos = t := by
          unfold RS.oback
          rw [vint_bad hc0]; simp only
          rw [vint_bad hc0]; simp only
          rw [if_neg (fun h => hc0 h.1)]
        rw [ho2, blob_code hc0]
        exact ⟨rfl, fun hh => absurd hh hc0⟩
    have hdt := oldV_ok h1 hpr.1 (d := ((t.oback pos).blob (1048576 - sumO acc)).2)
    obtain ⟨D, hD⟩ : ∃ D, (t.oback pos).blob (1048576 - sumO acc) = D := ⟨_, rfl⟩
    rw [hD] at hff hcl hdt
    obtain ⟨V, hV⟩ : ∃ V, oldV t pos D.2 = V := ⟨_, rfl⟩
    rw [hV] at hff hcl hdt
    obtain ⟨hf1, hf2⟩ := hff
    (simp only [go_sem, Nat.reduceAdd, Nat.reduceMul, Int.reduceToNat, Nat.reduceLeDiff, Int.reduceLE, Int.reduceLT, ↓reduceIte, Int.reduceBEq, Int.reduceBNe, Int.reduceAdd, Int.reduceSub, Int.reduceMul, q0]; try refine okTr_and rfl ?_)
    refine CallK.u4 hcl rfl rfl rfl rfl ?_
    (simp only [go_sem, Nat.reduceAdd, Nat.reduceMul, Int.reduceToNat, Nat.reduceLeDiff, Int.reduceLE, Int.reduceLT, ↓reduceIte, Int.reduceBEq, Int.reduceBNe, Int.reduceAdd, Int.reduceSub, Int.reduceMul]; try refine okTr_and rfl ?_)
    refine CallK.r1 (Reader_Good D.1 0) rfl ?_; (simp only [go_sem, Nat.reduceAdd, Nat.reduceMul, Int.reduceToNat, Nat.reduceLeDiff, Int.reduceLE, Int.reduceLT, ↓reduceIte, Int.reduceBEq, Int.reduceBNe, Int.reduceAdd, Int.reduceSub, Int.reduceMul]; try refine okTr_and rfl ?_)
    by_cases hc : D.1.code = 0
    · have hg : D.1.good = true := by unfold RS.good; simpa using hc
      have hnx := ho.next hF hlt (by rw [hf1]; exact hc)
      rw [hf1, hf2 hc] at hnx
      have hrd := (hF.read t acc h1 hwf (by rw [hf1]; exact hc)).1
      have hss := sumO_snoc acc V
      have e1 : 1048576 - sumO acc - (D.2.length : Int) = 1048576 - sumO (acc ++ [V]) := by rw [hss, hdt]; omega
      (simp only [go_sem, Nat.reduceAdd, Nat.reduceMul, Int.reduceToNat, Nat.reduceLeDiff, Int.reduceLE, Int.reduceLT, ↓reduceIte, Int.reduceBEq, Int.reduceBNe, Int.reduceAdd, Int.reduceSub, Int.reduceMul, hg, o1s_snoc, o1s_length, ei, e1]; try refine okTr_and rfl ?_)
      (repeat ((with_reducible refine And.intro ?_ ?_); (· exact sd)))
      exact ⟨(D.1, acc ++ [V]), ⟨hnx, fun _ => hor hrd⟩, by simp; omega, Wk.sel [0, 1, 2, 3, 4] (by simp) rfl (by simp) rfl (by simp [ixs_z, rdr_ren]) (by simp [selT, ixs_z, ixs])⟩
    · have hg : D.1.good = false := by unfold RS.good; simpa using hc
      have hb := many_bad (F := oldF h.base) (s := t) hlt (by rw [hf1]; exact hc)
      rw [h6, hf1] at hb
      rw [hb]
      (simp only [go_sem, Nat.reduceAdd, Nat.reduceMul, Int.reduceToNat, Nat.reduceLeDiff, Int.reduceLE, Int.reduceLT, ↓reduceIte, Int.reduceBEq, Int.reduceBNe, Int.reduceAdd, Int.reduceSub, Int.reduceMul, hg]; try refine okTr_and rfl ?_)
      (refine FinK.nilk 6 4 rfl ?_; simp only [List.set_cons_zero, List.set_cons_succ])
      refine FinK.wao (ys := [.any]) 3 rfl (WaL.cons (Wa.anyL _) WaL.nil) ?_
      simp only [List.set_cons_zero, List.set_cons_succ]
      ((refine FinK.finB r32 [0, 1, 2, 3] ?_ ?_); (· first | with_reducible rfl | (simp [o1s_nil]; done) | rfl); (· simp [resAL, resA1, loadA, oneOr, o1s_nil]))
  · have q0 : decide ((acc.length : Int) < (N : Int)) = false := decide_eq_false (by omega)
    have he := many_end (F := oldF h.base) (s := t) (acc := acc) (N := N) (by omega)
    rw [h6] at he
    rw [he]
    (simp only [go_sem, Nat.reduceAdd, Nat.reduceMul, Int.reduceToNat, Nat.reduceLeDiff, Int.reduceLE, Int.reduceLT, ↓reduceIte, Int.reduceBEq, Int.reduceBNe, Int.reduceAdd, Int.reduceSub, Int.reduceMul, q0]; try refine okTr_and rfl ?_)
    (refine FinK.untag 6 rfl ?_; simp only [untag1_sl, List.set_cons_zero, List.set_cons_succ])
    refine FinK.wao (ys := [.any]) 3 rfl (WaL.cons (Wa.anyL _) WaL.nil) ?_
    simp only [List.set_cons_zero, List.set_cons_succ]
    exact FinK.finA r32 [0, 1, 2, 3]
theorem legacy_many1 (u : RS) (h : Hd) (N : Nat) (hu : ROk u) (b0 : 0 ≤ h.base) (b1 : h.base < 18446744073709551616) (hN : N ≤ 1000000) (hf : u.code = 0 → h.base + N ≤ 4611686018427387904) (hn : u.l.length * 48 ≤ 100000000000000) (r b c d : Nat) (hnd : [r, b, c, d].Nodup) :
    Ct Tryz.prog 32 [.ref r 0, iA N, .fn 33 [] [.ref b 0, .ref c 0, .ref d 0]] [(r, rdr u), (b, ptO r), (c, hdO h), (d, inO 1048576)] (fun _ => slO ((oldF h.base).many N u []).2) [(r, rdr ((oldF h.base).many N u []).1), (b, ptO r), (c, hdO h), (d, .cells [.any])] (fun _ => []) :=
  Ct.u4 (legacy_many10 u h N hu b0 b1 hN hf hn) r b c d hnd cl cl cl cl cl cl cl cl cl (by simp [rdr]) cl
theorem crcI_nonneg {l : List Int} (h : Bys l) : 0 ≤ crcI l ∧ crcI l < 4294967296 := by
  have := crcI_range h
  exact ⟨this.1, by simpa using this.2⟩
theorem header_base {s : RS} (hs : ROk s) : 0 ≤ s.header.2.base ∧ s.header.2.base < 18446744073709551616 := by
  by_cases hc : s.header.1.code = 0
  · obtain ⟨i1, i2, i3, i4, i5⟩ := header_is hs hc
    have := (rightH_iff.1 i2).2.2.1
    exact ⟨i3, by omega⟩
  · rw [header_bad hc]; exact ⟨by decide, by decide⟩
theorem from_sub {s t : RS} (h0 : 0 ≤ s.at_) (h1 : s.at_ ≤ t.at_) (hl : t.l = s.l) : (t.l.drop s.at_.toNat).take (t.at_ - s.at_).toNat = s.from t := by
  unfold RS.from
  rw [hl, show (t.at_ - s.at_).toNat = t.at_.toNat - s.at_.toNat by omega]
theorem many_at {β : Type} {F : Fmt β} (hF : ∀ s acc, ROk s → s.at_ ≤ (F.f s acc).1.at_ ∧ ROk (F.f s acc).1) : ∀ (N : Nat) (s : RS) (acc : List β), ROk s → s.at_ ≤ (F.many N s acc).1.at_ := by
  intro N
  induction N with
  | zero => intro s acc _; exact Int.le_refl _
  | succ N ih =>
    intro s acc h
    have h1 := hF s acc h
    simp only [Fmt.many]
    split
    · have := ih (F.f s acc).1 (acc ++ [(F.f s acc).2]) h1.2
      omega
    · exact h1.1
theorem skip_le {s : RS} (n : Int) : s.at_ ≤ (s.skip n).1.at_ := by
  unfold RS.skip
  repeat' split
  all_goals first | omega | (simp only [fail_at]; omega)
theorem take_le {s : RS} (n : Int) : s.at_ ≤ (s.take n).1.at_ := by unfold RS.take; split <;> exact skip_le n
theorem int_le {s : RS} (h : ROk s) (m : Int) : s.at_ ≤ (s.int m).1.at_ := by
  have hv := vint_le h
  unfold RS.int RS.most
  split
  · split
    · simp only [fail_at]; exact hv
    · exact hv
  · simp only [fail_at]; exact hv
theorem blob_le {s : RS} (h : ROk s) (m : Int) : s.at_ ≤ (s.blob m).1.at_ := by
  have h1 := int_le h m
  have h2 := take_le (s := (s.int m).1) (s.int m).2
  unfold RS.blob; omega
theorem oback_le {s : RS} (h : ROk s) (pos : Int) : s.at_ ≤ (s.oback pos).at_ := by
  have h1 := vint_le h
  have h2 := vint_le h.vint.1
  unfold RS.oback
  split
  · rw [fail_at]; omega
  · omega
theorem cnt_le {s : RS} (h : ROk s) (base least most : Int) : s.at_ ≤ (s.cnt base least most).1.at_ := by
  have := int_le h most
  unfold RS.cnt
  split
  · simp only [fail_at]; exact this
  · exact this
theorem olds_le {s : RS} (h : ROk s) {base : Int} (b0 : 0 ≤ base) : s.at_ ≤ (s.olds base).1.at_ := by
  have h1 := cnt_le h base 0 400
  have h2 := many_at (F := oldF base) (fun s acc hs => by
    simp only [oldF]
    split
    · have k := oback_keep hs (base + acc.length)
      have e1 := oback_le hs (base + acc.length)
      have e2 := blob_le k.1 (1048576 - sumO acc)
      exact ⟨by simp only; omega, (RS.ok.blob k.1 _).1⟩
    · exact ⟨by simp only [fail_at]; omega, hs.fail _ _⟩) (s.cnt base 0 400).2.toNat (s.cnt base 0 400).1 [] (cnt_keep h base 0 400).1
  unfold RS.olds; omega
set_option maxHeartbeats 1000000 in
set_option maxRecDepth 100000 in
theorem legacy_Decode10 (b : List Int) (hb : Bys b) (hn : b.length ≤ 1000000) : Does Tryz.prog 8 [slA .u8 b] [] (.tup [sg1A (dec1 b).1, fltA (dec1 b).2]) [] := by
  have hok : ROk (RS.new b) := ROk.new hb (by omega)
  have hbk := begin_keep hok 1
  have hhb := header_base hok
  have hck := cnt_keep hbk.1 (RS.new b).header.2.base 0 400
  have hcr := int_range (s := (RS.new b).begin 1) (m := 400) hbk.1.bys
  have hcs := cnt_snd ((RS.new b).begin 1) (RS.new b).header.2.base 0 400
  have hci := fun hc => (cnt_is hbk.1 (base := (RS.new b).header.2.base) (least := 0) (most := 400) hc)
  have hok2 := olds_keep hbk.1 hhb.1
  have hol := olds_le hbk.1 hhb.1
  have hsk := sum4_keep (s := (RS.new b).begin 1) hok2.1
  have hmk := many_code (F := oldF (RS.new b).header.2.base) (oldF_code _) (N := (((RS.new b).begin 1).cnt (RS.new b).header.2.base 0 400).2.toNat) (s := (((RS.new b).begin 1).cnt (RS.new b).header.2.base 0 400).1)
  have hbl : (RS.new b).l = b := rfl
  have hdef : dec1 b = got1 (RS.new b).dec1.1 (RS.new b).dec1.2 := rfl
  have hd1 : (RS.new b).dec1 = (((RS.new b).begin 1).sum4 (((RS.new b).begin 1).olds (RS.new b).header.2.base).1 |>.rest9, ⟨(RS.new b).header.2.ep, (RS.new b).header.2.base, (((RS.new b).begin 1).olds (RS.new b).header.2.base).2⟩) := rfl
  rw [hdef, hd1]
  have hom : ((RS.new b).begin 1).olds (RS.new b).header.2.base = (oldF (RS.new b).header.2.base).many (((RS.new b).begin 1).cnt (RS.new b).header.2.base 0 400).2.toNat (((RS.new b).begin 1).cnt (RS.new b).header.2.base 0 400).1 [] := rfl
  obtain ⟨H, hH⟩ : ∃ H, (RS.new b).header.2 = H := ⟨_, rfl⟩
  have hbg := legacy_begin (RS.new b) 1 2 hok (by decide)
  rw [hH] at hhb hck hcs hci hok2 hol hsk hmk hom hbg ⊢
  obtain ⟨B, hB⟩ : ∃ B, (RS.new b).begin 1 = B := ⟨_, rfl⟩
  rw [hB] at hbk hck hcr hcs hci hok2 hol hsk hmk hom hbg ⊢
  have hcn := fun i => legacy_counted B H.base 0 400 i hbk.1 hhb.1 hhb.2 (by decide)
  obtain ⟨C, hC⟩ : ∃ C, B.cnt H.base 0 400 = C := ⟨_, rfl⟩
  rw [hC] at hck hcs hci hmk hom hcn
  have hN : C.2 = (C.2.toNat : Int) := by omega
  have hmn := fun r b' c d hnd => legacy_many1 C.1 H C.2.toNat hck.1 hhb.1 hhb.2 (by omega) (fun hc => by have := (hci hc).2.2.2.2.2.1; omega) (by rw [hck.2, hbk.2, hbl]; omega) r b' c d hnd
  rw [← hom, ← hN] at hmn
  obtain ⟨O, hO⟩ : ∃ O, B.olds H.base = O := ⟨_, rfl⟩
  rw [hO] at hok2 hol hsk hmn ⊢
  have hfr := from_sub hbk.1.at0 hol hok2.2
  have hfb : Bys (B.from O.1) := fun x hx => by
    unfold RS.from at hx
    exact hbk.1.bys x (List.mem_of_mem_drop (List.mem_of_mem_take hx))
  have hfl : (B.from O.1).length ≤ 1000000 := by
    unfold RS.from
    have : B.l.length ≤ 1000000 := by rw [hbk.2, hbl]; exact hn
    simp; omega
  have hcrc := crcI_nonneg hfb
  have hs4 : B.sum4 O.1 = if (O.1.fixed 4).1.code = 0 ∧ ¬ (O.1.fixed 4).2 = crcI (B.from O.1) then (O.1.fixed 4).1.fail 6 O.1.at_ else (O.1.fixed 4).1 := rfl
  have hfx : ¬ (O.1.fixed 4).2 = crcI (B.from O.1) → B.sum4 O.1 = (O.1.fixed 4).1.fail 6 O.1.at_ := fun h => by
    rw [hs4]
    by_cases hc : (O.1.fixed 4).1.code = 0
    · rw [if_pos ⟨hc, h⟩]
    · rw [if_neg (fun hh => hc hh.1), fail_stays hc]
  have hfx2 : (O.1.fixed 4).2 = crcI (B.from O.1) → B.sum4 O.1 = (O.1.fixed 4).1 := fun h => by
    rw [hs4, if_neg (fun hh => hh.2 h)]
  have hmin : min (max (4 : Int) 0) 8 = 4 := by decide
  have hrf := blob_ReadFixed O.1 4 2 hok2.1
  rw [hmin] at hrf
  obtain ⟨X, hX⟩ : ∃ X, O.1.fixed 4 = X := ⟨_, rfl⟩
  rw [hX] at hfx hfx2 hrf
  obtain ⟨Y, hY⟩ : ∃ Y, B.sum4 O.1 = Y := ⟨_, rfl⟩
  rw [hY] at hsk hfx hfx2 ⊢
  have wc : IntKind.u64.wrap (crcI (B.from O.1)) = crcI (B.from O.1) := IntWalk.u64_in _ (by omega)
  obtain ⟨Z, hZ⟩ : ∃ Z, crcI (B.from O.1) = Z := ⟨_, rfl⟩
  have hsum := crc_Sum (B.from O.1) hfb (by omega)
  refine Does.runA Tryz.func8 b8 n8 Tryz.ntmps8 ?_; simp only [c8, go_sem, Nat.reduceAdd, Nat.reduceMul, Int.reduceToNat, Nat.reduceLeDiff, Int.reduceLE, Int.reduceLT, ↓reduceIte, Int.reduceBEq, Int.reduceBNe, Int.reduceAdd, Int.reduceSub, Int.reduceMul]; try refine okTr_and rfl ?_
  refine CallK.n (cursor_New b) ?_; (simp only [go_sem, Nat.reduceAdd, Nat.reduceMul, Int.reduceToNat, Nat.reduceLeDiff, Int.reduceLE, Int.reduceLT, ↓reduceIte, Int.reduceBEq, Int.reduceBNe, Int.reduceAdd, Int.reduceSub, Int.reduceMul]; try refine okTr_and rfl ?_)
  refine CallK.u1 (hbg) rfl ?_; (simp only [go_sem, Nat.reduceAdd, Nat.reduceMul, Int.reduceToNat, Nat.reduceLeDiff, Int.reduceLE, Int.reduceLT, ↓reduceIte, Int.reduceBEq, Int.reduceBNe, Int.reduceAdd, Int.reduceSub, Int.reduceMul]; try refine okTr_and rfl ?_)
  refine CallK.r1 (Reader_At B 2) rfl ?_; (simp only [go_sem, Nat.reduceAdd, Nat.reduceMul, Int.reduceToNat, Nat.reduceLeDiff, Int.reduceLE, Int.reduceLT, ↓reduceIte, Int.reduceBEq, Int.reduceBNe, Int.reduceAdd, Int.reduceSub, Int.reduceMul]; try refine okTr_and rfl ?_)
  refine CallK.u1 (hcn 2) rfl ?_; (simp only [go_sem, Nat.reduceAdd, Nat.reduceMul, Int.reduceToNat, Nat.reduceLeDiff, Int.reduceLE, Int.reduceLT, ↓reduceIte, Int.reduceBEq, Int.reduceBNe, Int.reduceAdd, Int.reduceSub, Int.reduceMul]; try refine okTr_and rfl ?_)
  refine CallK.u4 (hmn 2 3 4 5 (by decide)) rfl rfl rfl rfl ?_
  (simp only [go_sem, Nat.reduceAdd, Nat.reduceMul, Int.reduceToNat, Nat.reduceLeDiff, Int.reduceLE, Int.reduceLT, ↓reduceIte, Int.reduceBEq, Int.reduceBNe, Int.reduceAdd, Int.reduceSub, Int.reduceMul]; try refine okTr_and rfl ?_)
  refine CallK.r1 (Reader_At O.1 2) rfl ?_; (simp only [go_sem, Nat.reduceAdd, Nat.reduceMul, Int.reduceToNat, Nat.reduceLeDiff, Int.reduceLE, Int.reduceLT, ↓reduceIte, Int.reduceBEq, Int.reduceBNe, Int.reduceAdd, Int.reduceSub, Int.reduceMul]; try refine okTr_and rfl ?_)
  refine CallK.r1 (Reader_Since O.1 B.at_ 2 hok2.1.ok hbk.1.at0 hol) rfl ?_; (simp only [go_sem, Nat.reduceAdd, Nat.reduceMul, Int.reduceToNat, Nat.reduceLeDiff, Int.reduceLE, Int.reduceLT, ↓reduceIte, Int.reduceBEq, Int.reduceBNe, Int.reduceAdd, Int.reduceSub, Int.reduceMul, hfr]; try refine okTr_and rfl ?_)
  refine CallK.u1 (hrf) rfl ?_; (simp only [go_sem, Nat.reduceAdd, Nat.reduceMul, Int.reduceToNat, Nat.reduceLeDiff, Int.reduceLE, Int.reduceLT, ↓reduceIte, Int.reduceBEq, Int.reduceBNe, Int.reduceAdd, Int.reduceSub, Int.reduceMul]; try refine okTr_and rfl ?_)
  refine CallK.p (hsum) ?_; (simp only [go_sem, Nat.reduceAdd, Nat.reduceMul, Int.reduceToNat, Nat.reduceLeDiff, Int.reduceLE, Int.reduceLT, ↓reduceIte, Int.reduceBEq, Int.reduceBNe, Int.reduceAdd, Int.reduceSub, Int.reduceMul, wc]; try refine okTr_and rfl ?_)
  by_cases h : X.2 = crcI (B.from O.1)
  · have q : (X.2 != crcI (B.from O.1)) = false := by simpa using h
    have e := hfx2 h
    rw [← e]
    (simp only [go_sem, Nat.reduceAdd, Nat.reduceMul, Int.reduceToNat, Nat.reduceLeDiff, Int.reduceLE, Int.reduceLT, ↓reduceIte, Int.reduceBEq, Int.reduceBNe, Int.reduceAdd, Int.reduceSub, Int.reduceMul, q]; try refine okTr_and rfl ?_)
    refine CallK.u1 (Reader_End Y 2 hsk.1) rfl ?_; (simp only [go_sem, Nat.reduceAdd, Nat.reduceMul, Int.reduceToNat, Nat.reduceLeDiff, Int.reduceLE, Int.reduceLT, ↓reduceIte, Int.reduceBEq, Int.reduceBNe, Int.reduceAdd, Int.reduceSub, Int.reduceMul]; try refine okTr_and rfl ?_)
    refine CallK.r1 (legacy_got1 Y.rest9 ⟨H.ep, H.base, O.2⟩ 2) rfl ?_; (simp only [go_sem, Nat.reduceAdd, Nat.reduceMul, Int.reduceToNat, Nat.reduceLeDiff, Int.reduceLE, Int.reduceLT, ↓reduceIte, Int.reduceBEq, Int.reduceBNe, Int.reduceAdd, Int.reduceSub, Int.reduceMul]; try refine okTr_and rfl ?_)
    exact FinK.finA r8 []
  · have q : (X.2 != crcI (B.from O.1)) = true := by simpa using h
    have e := hfx h
    (simp only [go_sem, Nat.reduceAdd, Nat.reduceMul, Int.reduceToNat, Nat.reduceLeDiff, Int.reduceLE, Int.reduceLT, ↓reduceIte, Int.reduceBEq, Int.reduceBNe, Int.reduceAdd, Int.reduceSub, Int.reduceMul, q]; try refine okTr_and rfl ?_)
    refine CallK.u1 (Reader_Fail X.1 6 O.1.at_ 2) rfl ?_; (simp only [go_sem, Nat.reduceAdd, Nat.reduceMul, Int.reduceToNat, Nat.reduceLeDiff, Int.reduceLE, Int.reduceLT, ↓reduceIte, Int.reduceBEq, Int.reduceBNe, Int.reduceAdd, Int.reduceSub, Int.reduceMul, ← e]; try refine okTr_and rfl ?_)
    refine CallK.u1 (Reader_End Y 2 hsk.1) rfl ?_; (simp only [go_sem, Nat.reduceAdd, Nat.reduceMul, Int.reduceToNat, Nat.reduceLeDiff, Int.reduceLE, Int.reduceLT, ↓reduceIte, Int.reduceBEq, Int.reduceBNe, Int.reduceAdd, Int.reduceSub, Int.reduceMul]; try refine okTr_and rfl ?_)
    refine CallK.r1 (legacy_got1 Y.rest9 ⟨H.ep, H.base, O.2⟩ 2) rfl ?_; (simp only [go_sem, Nat.reduceAdd, Nat.reduceMul, Int.reduceToNat, Nat.reduceLeDiff, Int.reduceLE, Int.reduceLT, ↓reduceIte, Int.reduceBEq, Int.reduceBNe, Int.reduceAdd, Int.reduceSub, Int.reduceMul]; try refine okTr_and rfl ?_)
    exact FinK.finA r8 []
theorem legacy_Decode1 (b : List Int) (hb : Bys b) (hn : b.length ≤ 1000000) : Ct Tryz.prog 8 [slA .u8 b] [] (fun _ => .tup [sg1A (dec1 b).1, fltA (dec1 b).2]) [] (fun _ => []) := (legacy_Decode10 b hb hn).toCt cl cl
end Go.Proofs.YtnfagphepkeedaaGreat
end
section
namespace Go.Proofs.YtnfagphepkeedaaGreat
open Go.RowKit

end Go.Proofs.YtnfagphepkeedaaGreat
end
section
namespace Go.Proofs.YtnfagphepkeedaaGreat
open Go.RowKit

end Go.Proofs.YtnfagphepkeedaaGreat
end
section
namespace Go.Proofs.YtnfagphepkeedaaGreat
open Go.RowKit

end Go.Proofs.YtnfagphepkeedaaGreat
end
section
namespace Go.Proofs.YtnfagphepkeedaaGreat
open Go.RowKit

theorem WS.fine.epput {s : WS} (h : s.fine) (x : Int) (b : Bool) : (s.epput x b).fine := by
  unfold WS.epput; split
  · exact h.put _
  · exact h.fail 3
section
variable {P : Program} {S : List AObj} {K : KT} {f : FuncId} {args args₀ : List AV}
theorem CallK.rn2 {r : Nat → AV} {new : Nat → List AObj} {i j : Nat} {o p : AObj} (h : Ct P f (args.map Proofs.YtnfagphepkeedaaGreat.untag) [(i, o), (j, p)] r [] new) (hS : S[i]? = some o) (hS' : S[j]? = some p) (hK : K (r S.length) [i, j] [] (new S.length)) : CallK P f args S K := CallK.of h.untag (by simp [hS, hS']) (by simp) hK
end
theorem Writer_BytesO0 (s : WS) (hc : s.code = 0) (hb : s.l.length ≤ 140737488355328) : Does Tryz.prog 70 [.ref 0 0] [wob 1 s, wrow s] (.tup [ownA 2 s.l, iA 0]) [wob 1 s, wrow s, .row 1 s.l.length] := by
  have q : (s.code != 0) = false := by simpa using hc
  refine Does.runA Tryz.func70 b70 n70 Tryz.ntmps70 ?_; simp only [c70, go_sem, Nat.reduceAdd, Nat.reduceMul, Int.reduceToNat, Nat.reduceLeDiff, Int.reduceLE, Int.reduceLT, ↓reduceIte, Int.reduceBEq, Int.reduceBNe, Int.reduceAdd, Int.reduceSub, Int.reduceMul]; try refine okTr_and rfl ?_
  refine CallK.r2 (Writer_Code s 0 1 (by decide)) rfl rfl ?_; (simp only [go_sem, Nat.reduceAdd, Nat.reduceMul, Int.reduceToNat, Nat.reduceLeDiff, Int.reduceLE, Int.reduceLT, ↓reduceIte, Int.reduceBEq, Int.reduceBNe, Int.reduceAdd, Int.reduceSub, Int.reduceMul, q]; try refine okTr_and rfl ?_)
  (simp only [go_sem, Nat.reduceAdd, Nat.reduceMul, Int.reduceToNat, Nat.reduceLeDiff, Int.reduceLE, Int.reduceLT, ↓reduceIte, Int.reduceBEq, Int.reduceBNe, Int.reduceAdd, Int.reduceSub, Int.reduceMul, wob, wrow, ints_length]; try refine okTr_and rfl ?_)
  (repeat ((with_reducible refine And.intro ?_ ?_); (· exact sd)))
  ((refine FinK.finB r70 [0, 1, 2] ?_ ?_); (· first | with_reducible rfl | (simp [wob, wrow]; done) | rfl); (· simp [resAL, resA1, loadA, oneOr, wob, wrow]))
theorem Writer_BytesO (s : WS) (i j : Nat) (h : i ≠ j) (hc : s.code = 0) (hb : s.l.length ≤ 140737488355328) : Ct Tryz.prog 70 [.ref i 0] [(i, wob j s), (j, wrow s)] (fun n => .tup [ownA n s.l, iA 0]) [] (fun _ => [.row 1 s.l.length]) :=
  Ct.mk (Writer_BytesO0 s hc hb) [i, j] (by simpa using h) rfl (by simp) (by simp [wob_dead, wrow_dead]) (by intros; simp [ixs_z, ixs, List.range'_succ]) (by intros; simp [ixs_z, ixs, List.range'_succ, ren_ints]) (by intros; simp [wob_ren, wrow_ren, ixs, List.range'_succ]) (.inr ⟨rfl, rfl⟩) (by intros; simp [ixs_z])
end Go.Proofs.YtnfagphepkeedaaGreat
end
section
namespace Go.Proofs.YtnfagphepkeedaaGreat
open Go.RowKit

theorem header_BytesO0 (h : Hd) (hr : rightH h = true) (hb : 0 ≤ h.base) : Does Tryz.prog 27 [hdA h] [] (.tup [ownA 0 (headerB h), iA 0]) [.row 1 (headerB h).length] := by
  have f0 : (WS.new 27).fine := WS.fine.new (by omega)
  have hff := (f0.header h).len
  obtain ⟨e1, e2⟩ := new_header h (n := 27) (by omega)
  have e3 : ((WS.new 27).header h).code = 0 := by rw [e1]; unfold errH; rw [if_pos hr]
  have e4 : ((WS.new 27).header h).l = headerB h := by
    have : ((WS.new 27).header h).bytes = ((WS.new 27).header h).l := by unfold WS.bytes; rw [if_pos e3]
    rw [← this, e2]; unfold bytesH; rw [if_pos hr]
  refine Does.runA Tryz.func27 b27 n27 Tryz.ntmps27 ?_; simp only [c27, go_sem, Nat.reduceAdd, Nat.reduceMul, Int.reduceToNat, Nat.reduceLeDiff, Int.reduceLE, Int.reduceLT, ↓reduceIte, Int.reduceBEq, Int.reduceBNe, Int.reduceAdd, Int.reduceSub, Int.reduceMul]; try refine okTr_and rfl ?_
  refine CallK.p (hMost) ?_; (simp only [go_sem, Nat.reduceAdd, Nat.reduceMul, Int.reduceToNat, Nat.reduceLeDiff, Int.reduceLE, Int.reduceLT, ↓reduceIte, Int.reduceBEq, Int.reduceBNe, Int.reduceAdd, Int.reduceSub, Int.reduceMul]; try refine okTr_and rfl ?_)
  refine CallK.n (pen_New 27) ?_; (simp only [go_sem, Nat.reduceAdd, Nat.reduceMul, Int.reduceToNat, Nat.reduceLeDiff, Int.reduceLE, Int.reduceLT, ↓reduceIte, Int.reduceBEq, Int.reduceBNe, Int.reduceAdd, Int.reduceSub, Int.reduceMul]; try refine okTr_and rfl ?_)
  refine CallK.u2 (header_Put (WS.new 27) h _ _ (by decide) f0 hb) rfl rfl ?_; (simp only [go_sem, Nat.reduceAdd, Nat.reduceMul, Int.reduceToNat, Nat.reduceLeDiff, Int.reduceLE, Int.reduceLT, ↓reduceIte, Int.reduceBEq, Int.reduceBNe, Int.reduceAdd, Int.reduceSub, Int.reduceMul]; try refine okTr_and rfl ?_)
  refine CallK.rn2 (Writer_BytesO ((WS.new 27).header h) _ _ (by decide) e3 hff) rfl rfl ?_
  (simp only [go_sem, Nat.reduceAdd, Nat.reduceMul, Int.reduceToNat, Nat.reduceLeDiff, Int.reduceLE, Int.reduceLT, ↓reduceIte, Int.reduceBEq, Int.reduceBNe, Int.reduceAdd, Int.reduceSub, Int.reduceMul, e4]; try refine okTr_and rfl ?_)
  exact FinK.finA r27 [3]
theorem header_BytesO (h : Hd) (hr : rightH h = true) (hb : 0 ≤ h.base) : Ct Tryz.prog 27 [hdA h] [] (fun n => .tup [ownA n (headerB h), iA 0]) [] (fun _ => [.row 1 (headerB h).length]) := Ct.n (header_BytesO0 h hr hb) cl cl clo
def bytes1 (u : Sg1) : List Int := if right1 u = true then seg1B u else []
def err1 (u : Sg1) : Int := if right1 u = true then 0 else 3
theorem encO_take {base : Int} {l : List O1} {k : Nat} (h : k < l.length) : encs (oldF base).enc [] (l.take (k + 1)) = encs (oldF base).enc [] (l.take k) ++ (vb (l.getD k o10).st ++ (vb (backO (base + k) (l.getD k o10)) ++ blobB (l.getD k o10).data)) := by
  have el : (l.take k).length = k := by rw [List.length_take]; omega
  rw [o1_take l k h, encs_snoc, List.nil_append]
  simp only [oldF]
  rw [el]
theorem encO_le {base : Int} {l : List O1} : ∀ k, k ≤ l.length → (encs (oldF base).enc [] (l.take k)).length ≤ (encs (oldF base).enc [] l).length := by
  intro k hk
  have gen : ∀ n, k + n = l.length → (encs (oldF base).enc [] (l.take k)).length ≤ (encs (oldF base).enc [] l).length := by
    intro n
    induction n generalizing k with
    | zero => intro h; rw [List.take_of_length_le (by omega)]; exact Nat.le_refl _
    | succ n ih =>
      intro h
      have h1 := ih (k + 1) (by omega) (by omega)
      rw [encO_take (by omega), List.length_append] at h1
      omega
  exact gen (l.length - k) (by omega)
set_option maxHeartbeats 1000000 in
set_option maxRecDepth 100000 in
theorem legacy_Bytes10 (u : Sg1) (hs : Small1 u) (hO : O1s u.en) : Does Tryz.prog 15 [sg1A u] [] (.tup [slA .u8 (bytes1 u), iA (err1 u)]) [] := by
  have hR := legacy_Right1 u hs
  obtain ⟨b0, b1, n1, s1⟩ := hs
  have hs0 := sumO_ge u.en
  refine Does.runA Tryz.func15 b15 n15 Tryz.ntmps15 ?_; simp only [c15, go_sem, Nat.reduceAdd, Nat.reduceMul, Int.reduceToNat, Nat.reduceLeDiff, Int.reduceLE, Int.reduceLT, ↓reduceIte, Int.reduceBEq, Int.reduceBNe, Int.reduceAdd, Int.reduceSub, Int.reduceMul]; try refine okTr_and rfl ?_
  refine CallK.p (hR) ?_
  by_cases hr : right1 u = true
  · have e1 : bytes1 u = seg1B u := by unfold bytes1; rw [if_pos hr]
    have e2 : err1 u = 0 := by unfold err1; rw [if_pos hr]
    obtain ⟨h1, h2, h3, h4, h5⟩ := right1_iff.1 hr
    obtain ⟨g1, g2, g3, hwf⟩ := (right1_wf hO).1 hr
    have hbl := body_len hO hr
    have hbb := body_bys hO b0 hr
    have w1 : IntKind.i64.wrap (30 + sumO u.en) = 30 + sumO u.en := IntWalk.i64_in _ (by omega)
    have w2 : IntKind.i64.wrap (30 * (u.en.length : Int)) = 30 * u.en.length := IntWalk.i64_in _ (by omega)
    have w4 : IntKind.u64.wrap (u.en.length : Int) = u.en.length := IntWalk.u64_in _ (by omega)
    obtain ⟨m, hm⟩ : ∃ m, 30 + sumO u.en + 30 * (u.en.length : Int) = m := ⟨_, rfl⟩
    have w3 : IntKind.i64.wrap (30 + sumO u.en + 30 * (u.en.length : Int)) = m := by rw [IntWalk.i64_in _ (by omega), hm]
    have f0 : (WS.new m).fine := WS.fine.new (by omega)
    obtain ⟨W, hW⟩ : ∃ W : Nat → WS, W = fun k => ⟨m, vb (u.en.length : Int) ++ encs (oldF u.base).enc [] (u.en.take k), 0⟩ := ⟨_, rfl⟩
    have hlen : ∀ k, k ≤ u.en.length → ((vb (u.en.length : Int) ++ encs (oldF u.base).enc [] (u.en.take k)).length : Int) ≤ m - 20 := fun k hk => by
      have := encO_le (base := u.base) (l := u.en) k hk
      unfold bodyB at hbl
      rw [List.length_append] at hbl ⊢
      omega
    have hfine : ∀ k, k ≤ u.en.length → (W k).fine := fun k hk => by
      have := hlen k hk
      rw [hW]; exact ⟨by simp only; omega, by simp only; omega, by simp only; omega⟩
    have hW0 : (WS.new m).put (vb (u.en.length : Int)) = W 0 := by
      have hv := (vb_len (u.en.length : Int)).2
      rw [WS.new_is (by omega), put_fit rfl (by simp; omega), hW]; simp [encs]
    have hWn : ∀ k, k < u.en.length → (((((W k).put (vb (u.en.getD k o10).st)).put (vb (backO (u.base + k) (u.en.getD k o10)))).put (vb ((u.en.getD k o10).data.length : Int))).put (u.en.getD k o10).data) = W (k + 1) := fun k hk => by
      have hl := hlen (k + 1) hk
      rw [encO_take hk] at hl
      unfold blobB at hl
      simp only [List.length_append] at hl
      obtain ⟨A, hA⟩ : ∃ A, vb (u.en.length : Int) ++ encs (oldF u.base).enc [] (u.en.take k) = A := ⟨_, rfl⟩
      have hAl := congrArg List.length hA
      rw [List.length_append] at hAl
      have p0 : W k = ⟨m, A, 0⟩ := by rw [hW, ← hA]
      have p1 := put_fit (s := ⟨m, A, 0⟩) (m := vb (u.en.getD k o10).st) rfl (by simp only; omega)
      have p2 := put_fit (s := ⟨m, A ++ vb (u.en.getD k o10).st, 0⟩) (m := vb (backO (u.base + k) (u.en.getD k o10))) rfl (by simp only [List.length_append]; omega)
      have p3 := put_fit (s := ⟨m, A ++ vb (u.en.getD k o10).st ++ vb (backO (u.base + k) (u.en.getD k o10)), 0⟩) (m := vb ((u.en.getD k o10).data.length : Int)) rfl (by simp only [List.length_append]; omega)
      have p4 := put_fit (s := ⟨m, A ++ vb (u.en.getD k o10).st ++ vb (backO (u.base + k) (u.en.getD k o10)) ++ vb ((u.en.getD k o10).data.length : Int), 0⟩) (m := (u.en.getD k o10).data) rfl (by simp only [List.length_append]; omega)
      simp only at p1 p2 p3 p4
      rw [p0, p1, p2, p3, p4, hW]
      simp only
      rw [encO_take hk, ← hA]
      simp only [List.append_assoc, blobB]
    have hfin : (W u.en.length).bytes = bodyB u := by rw [hW]; unfold WS.bytes bodyB; simp
    have hfc : (W u.en.length).code = 0 := by rw [hW]
    have hbase := hr
    have hcrc := crcI_nonneg hbb
    have w5 : IntKind.u64.wrap (crcI (bodyB u)) = crcI (bodyB u) := IntWalk.u64_in _ (by omega)
    have e8 : (min (max (4 : Int) 0) 8).toNat = 4 := by decide
    have hpf := pen_Fixed (crcI (bodyB u)) 4 (by omega) (by omega)
    rw [e8] at hpf
    have hl4 := lowBytes_len 4 (crcI (bodyB u))
    have hhl := (plainB_len ⟨1, u.ep, u.base⟩).2
    have hhl2 := headerB_len ⟨1, u.ep, u.base⟩
    have hseg : headerB ⟨1, u.ep, u.base⟩ ++ bodyB u ++ lowBytes 4 (crcI (bodyB u)) = seg1B u := by unfold seg1B; rw [List.append_assoc]
    have hho := header_BytesO ⟨1, u.ep, u.base⟩ (rightH1 hr) b0
    obtain ⟨HB, hHB⟩ : ∃ HB, headerB ⟨1, u.ep, u.base⟩ = HB := ⟨_, rfl⟩
    rw [hHB] at hho hseg hhl2
    rw [e1, e2]
    (simp only [go_sem, Nat.reduceAdd, Nat.reduceMul, Int.reduceToNat, Nat.reduceLeDiff, Int.reduceLE, Int.reduceLT, ↓reduceIte, Int.reduceBEq, Int.reduceBNe, Int.reduceAdd, Int.reduceSub, Int.reduceMul, hr]; try refine okTr_and rfl ?_)
    refine CallK.n (hho) ?_; (simp only [go_sem, Nat.reduceAdd, Nat.reduceMul, Int.reduceToNat, Nat.reduceLeDiff, Int.reduceLE, Int.reduceLT, ↓reduceIte, Int.reduceBEq, Int.reduceBNe, Int.reduceAdd, Int.reduceSub, Int.reduceMul]; try refine okTr_and rfl ?_)
    refine CallK.p (legacy_total u.en n1 s1) ?_; (simp only [go_sem, Nat.reduceAdd, Nat.reduceMul, Int.reduceToNat, Nat.reduceLeDiff, Int.reduceLE, Int.reduceLT, ↓reduceIte, Int.reduceBEq, Int.reduceBNe, Int.reduceAdd, Int.reduceSub, Int.reduceMul, w1, o1s_length, w2, w3]; try refine okTr_and rfl ?_)
    refine CallK.n (pen_New m) ?_; (simp only [go_sem, Nat.reduceAdd, Nat.reduceMul, Int.reduceToNat, Nat.reduceLeDiff, Int.reduceLE, Int.reduceLT, ↓reduceIte, Int.reduceBEq, Int.reduceBNe, Int.reduceAdd, Int.reduceSub, Int.reduceMul, o1s_length, w4]; try refine okTr_and rfl ?_)
    refine CallK.u2 (varint_Put (WS.new m) u.en.length 2 3 (by decide) (by omega) (by omega) f0.ok (f0.room _)) rfl rfl ?_; (simp only [go_sem, Nat.reduceAdd, Nat.reduceMul, Int.reduceToNat, Nat.reduceLeDiff, Int.reduceLE, Int.reduceLT, ↓reduceIte, Int.reduceBEq, Int.reduceBNe, Int.reduceAdd, Int.reduceSub, Int.reduceMul, hW0, o1s_length]; try refine okTr_and rfl ?_)
    refine loop_of (α := Nat) (fun k => [.any, .ref 0 0, .any, .any, ownA 1 HB, .any, .ref 2 0, .any, .any, .any, .any, .any, .any, .any, .any, .any, .any, .any, .any, .any, .any, .any, .any, .any, .any, .any, .any, .any, .any, .any, .any, .any, .any, .any, .any, .any, .any, .any, .any, .any, .any, slO u.en, iA u.en.length, iA k, .any, .any, .any, .any, .any, .any, .any, .any, .any, .any, .any, .any, .any, .any, .any, .any, .any, .any, .any, .any, .any, .any, .any, .any, .any, .any, .any, .any, .any, .any, .any, .any, .any, .any, .any, .any, .any, .any, .any, .any]) (fun k => [sg1O u, .row 1 HB.length, wob 3 (W k), wrow (W k)]) (fun k => k ≤ u.en.length) (fun k => u.en.length - k) 0 (by simp) (Wk.to (by rfl) (by simp [leT])) ?_
    intro k hk
    (simp only [go_sem, Nat.reduceAdd, Nat.reduceMul, Int.reduceToNat, Nat.reduceLeDiff, Int.reduceLE, Int.reduceLT, ↓reduceIte, Int.reduceBEq, Int.reduceBNe, Int.reduceAdd, Int.reduceSub, Int.reduceMul]; try refine okTr_and rfl ?_)
    by_cases hlt : k < u.en.length
    · have q1 : decide ((k : Int) < (u.en.length : Int)) = true := decide_eq_true (by omega)
      have ek := i64_succ k (by omega)
      have g := o1s_get u.en k hlt
      have hx := hO _ (o1_mem u.en k hlt)
      have hgd := h5 k hlt
      have hwn := hWn k hlt
      obtain ⟨x, ex⟩ : ∃ x, u.en.getD k o10 = x := ⟨_, rfl⟩
      rw [ex] at g hx hgd hwn
      have hbr := backO_range hgd hx.b0
      have hf := hfine k (by omega)
      have hdl : x.data.length ≤ 140737488355328 := by
        have := sumO_take u.en k hlt
        have h6 := sumO_le u.en (k + 1)
        have h7 := sumO_ge (u.en.take k)
        rw [ex] at this; omega
      have wk : IntKind.u64.wrap (k : Int) = k := IntWalk.u64_in _ (by omega)
      have wp : IntKind.u64.wrap (u.base + (k : Int)) = u.base + k := IntWalk.u64_in _ (by omega)
      (simp only [go_sem, Nat.reduceAdd, Nat.reduceMul, Int.reduceToNat, Nat.reduceLeDiff, Int.reduceLE, Int.reduceLT, ↓reduceIte, Int.reduceBEq, Int.reduceBNe, Int.reduceAdd, Int.reduceSub, Int.reduceMul, q1, g, o1s_length, Int.toNat_natCast]; try refine okTr_and rfl ?_)
      (repeat ((with_reducible refine And.intro ?_ ?_); (· exact sd)))
      refine CallK.u2 (varint_Put (W k) x.st 2 3 (by decide) hx.s0 hx.s1 hf.ok (hf.room _)) rfl rfl ?_; (simp only [go_sem, Nat.reduceAdd, Nat.reduceMul, Int.reduceToNat, Nat.reduceLeDiff, Int.reduceLE, Int.reduceLT, ↓reduceIte, Int.reduceBEq, Int.reduceBNe, Int.reduceAdd, Int.reduceSub, Int.reduceMul]; try refine okTr_and rfl ?_)
      have hB : backO (u.base + k) x = if x.hb = true then u.base + k - x.bk else 0 := rfl
      obtain ⟨B, hBe⟩ : ∃ B, backO (u.base + k) x = B := ⟨_, rfl⟩
      rw [hBe] at hbr hB hwn
      have hf2 := hf.put (vb x.st)
      have hB1 : B < 18446744073709551616 := by have := hbr.2.1 (by omega); omega
      cases hb : x.hb with
      | true =>
        rw [if_pos hb] at hB
        have wb : IntKind.u64.wrap (u.base + k - x.bk) = B := by rw [← hB]; exact IntWalk.u64_in _ (by omega)
        (simp only [go_sem, Nat.reduceAdd, Nat.reduceMul, Int.reduceToNat, Nat.reduceLeDiff, Int.reduceLE, Int.reduceLT, ↓reduceIte, Int.reduceBEq, Int.reduceBNe, Int.reduceAdd, Int.reduceSub, Int.reduceMul, wk, wp, wb]; try refine okTr_and rfl ?_)
        refine CallK.u2 (varint_Put ((W k).put (vb x.st)) B 2 3 (by decide) hbr.1 hB1 hf2.ok (hf2.room _)) rfl rfl ?_; (simp only [go_sem, Nat.reduceAdd, Nat.reduceMul, Int.reduceToNat, Nat.reduceLeDiff, Int.reduceLE, Int.reduceLT, ↓reduceIte, Int.reduceBEq, Int.reduceBNe, Int.reduceAdd, Int.reduceSub, Int.reduceMul]; try refine okTr_and rfl ?_)
        refine CallK.u2 (blob_Put (((W k).put (vb x.st)).put (vb B)) x.data 2 3 (by decide) (hf2.put _) hdl) rfl rfl ?_; (simp only [go_sem, Nat.reduceAdd, Nat.reduceMul, Int.reduceToNat, Nat.reduceLeDiff, Int.reduceLE, Int.reduceLT, ↓reduceIte, Int.reduceBEq, Int.reduceBNe, Int.reduceAdd, Int.reduceSub, Int.reduceMul, hwn, ek]; try refine okTr_and rfl ?_)
        exact ⟨k + 1, hlt, by omega, Wk.sel [0, 1, 2, 3] (by simp) rfl (by simp) rfl (by simp [ixs_z, wob_ren, wrow_ren, ixs]) (by simp [selT, ixs_z, ren_ints, ixs])⟩
      | false =>
        rw [if_neg (by rw [hb]; decide)] at hB
        rw [hB] at hwn
        (simp only [go_sem, Nat.reduceAdd, Nat.reduceMul, Int.reduceToNat, Nat.reduceLeDiff, Int.reduceLE, Int.reduceLT, ↓reduceIte, Int.reduceBEq, Int.reduceBNe, Int.reduceAdd, Int.reduceSub, Int.reduceMul]; try refine okTr_and rfl ?_)
        refine CallK.u2 (varint_Put ((W k).put (vb x.st)) 0 2 3 (by decide) (by decide) (by decide) (hf.put _).ok ((hf.put _).room _)) rfl rfl ?_; (simp only [go_sem, Nat.reduceAdd, Nat.reduceMul, Int.reduceToNat, Nat.reduceLeDiff, Int.reduceLE, Int.reduceLT, ↓reduceIte, Int.reduceBEq, Int.reduceBNe, Int.reduceAdd, Int.reduceSub, Int.reduceMul]; try refine okTr_and rfl ?_)
        refine CallK.u2 (blob_Put (((W k).put (vb x.st)).put (vb 0)) x.data 2 3 (by decide) ((hf.put _).put _) hdl) rfl rfl ?_; (simp only [go_sem, Nat.reduceAdd, Nat.reduceMul, Int.reduceToNat, Nat.reduceLeDiff, Int.reduceLE, Int.reduceLT, ↓reduceIte, Int.reduceBEq, Int.reduceBNe, Int.reduceAdd, Int.reduceSub, Int.reduceMul, hwn, ek]; try refine okTr_and rfl ?_)
        exact ⟨k + 1, hlt, by omega, Wk.sel [0, 1, 2, 3] (by simp) rfl (by simp) rfl (by simp [ixs_z, wob_ren, wrow_ren, ixs]) (by simp [selT, ixs_z, ren_ints, ixs])⟩
    · have q1 : decide ((k : Int) < (u.en.length : Int)) = false := decide_eq_false (by omega)
      have ek : k = u.en.length := by omega
      subst ek
      have hff := (hfine _ (Nat.le_refl _)).len
      (simp only [go_sem, Nat.reduceAdd, Nat.reduceMul, Int.reduceToNat, Nat.reduceLeDiff, Int.reduceLE, Int.reduceLT, ↓reduceIte, Int.reduceBEq, Int.reduceBNe, Int.reduceAdd, Int.reduceSub, Int.reduceMul, q1]; try refine okTr_and rfl ?_)
      refine CallK.r2 (Writer_Bytes (W u.en.length) 2 3 (by decide) hff) rfl rfl ?_; (simp only [go_sem, Nat.reduceAdd, Nat.reduceMul, Int.reduceToNat, Nat.reduceLeDiff, Int.reduceLE, Int.reduceLT, ↓reduceIte, Int.reduceBEq, Int.reduceBNe, Int.reduceAdd, Int.reduceSub, Int.reduceMul, hfin, hfc, ints_length, ints_append]; try refine okTr_and rfl ?_)
      (repeat ((with_reducible refine And.intro ?_ ?_); (· exact sd)))
      refine CallK.p (crc_Sum (bodyB u) hbb (by omega)) ?_; (simp only [go_sem, Nat.reduceAdd, Nat.reduceMul, Int.reduceToNat, Nat.reduceLeDiff, Int.reduceLE, Int.reduceLT, ↓reduceIte, Int.reduceBEq, Int.reduceBNe, Int.reduceAdd, Int.reduceSub, Int.reduceMul, w5]; try refine okTr_and rfl ?_)
      refine CallK.p (hpf) ?_; (simp only [go_sem, Nat.reduceAdd, Nat.reduceMul, Int.reduceToNat, Nat.reduceLeDiff, Int.reduceLE, Int.reduceLT, ↓reduceIte, Int.reduceBEq, Int.reduceBNe, Int.reduceAdd, Int.reduceSub, Int.reduceMul, ints_length, ints_append, hl4, hseg]; try refine okTr_and rfl ?_)
      (repeat ((with_reducible refine And.intro ?_ ?_); (· exact sd)))
      (refine FinK.untag 2 rfl ?_; simp only [untag1_sl, List.set_cons_zero, List.set_cons_succ])
      exact FinK.finA r15 []
  · have hr' : right1 u = false := by simpa using hr
    have e1 : bytes1 u = [] := by unfold bytes1; rw [if_neg hr]
    have e2 : err1 u = 3 := by unfold err1; rw [if_neg hr]
    rw [e1, e2]
    (simp only [go_sem, Nat.reduceAdd, Nat.reduceMul, Int.reduceToNat, Nat.reduceLeDiff, Int.reduceLE, Int.reduceLT, ↓reduceIte, Int.reduceBEq, Int.reduceBNe, Int.reduceAdd, Int.reduceSub, Int.reduceMul, hr']; try refine okTr_and rfl ?_)
    (refine FinK.untag 2 rfl ?_; simp only [untag1_sl, List.set_cons_zero, List.set_cons_succ])
    exact FinK.finA r15 []
theorem legacy_Bytes1 (u : Sg1) (hs : Small1 u) (hO : O1s u.en) : Ct Tryz.prog 15 [sg1A u] [] (fun _ => .tup [slA .u8 (bytes1 u), iA (err1 u)]) [] (fun _ => []) := (legacy_Bytes10 u hs hO).toCt cl cl
end Go.Proofs.YtnfagphepkeedaaGreat
end
section
namespace Go.Proofs.YtnfagphepkeedaaGreat
open Go.RowKit

def lu35 : Sg1 := ⟨5, 7, [⟨0, 4, true, []⟩]⟩
theorem live35_r : right1 lu35 = true := by kernel_rfl
theorem live35_b : bodyB lu35 = [1, 0, 3, 0] := by kernel_rfl
set_option maxRecDepth 100000 in
theorem live35_0 : Does Tryz.prog 7 [] [] (bA true) [] := by
  have hO : O1s lu35.en := fun x hx => by
    simp only [lu35, List.mem_singleton] at hx
    subst hx
    exact ⟨by decide, by decide, by decide, by decide, fun y hy => by simp at hy⟩
  have hS : Small1 lu35 := ⟨by decide, by decide, by decide, by decide⟩
  have e1 : bytes1 lu35 = headerB ⟨1, 5, 7⟩ ++ ([1, 0, 3, 0] ++ lowBytes 4 (crcI (bodyB lu35))) := by
    unfold bytes1; rw [if_pos live35_r]; unfold seg1B; rw [live35_b]; rfl
  have e2 : err1 lu35 = 0 := by unfold err1; rw [if_pos live35_r]
  have hA : sg1A lu35 = .agg [uA 5, uA 7, .sl .none 4 [.agg [uA 0, uA 4, bA true, slA .u8 []]]] := rfl
  have hb := legacy_Bytes1 lu35 hS hO
  rw [e1, e2, hA] at hb
  have hh := header_Bytes ⟨1, 5, 7⟩ (by decide)
  have e3 : bytesH ⟨1, 5, 7⟩ = headerB ⟨1, 5, 7⟩ := by unfold bytesH; rw [if_pos (by kernel_rfl)]
  have e4 : errH ⟨1, 5, 7⟩ = 0 := by unfold errH; rw [if_pos (by kernel_rfl)]
  rw [e3, e4] at hh
  obtain ⟨HB, hHB⟩ : ∃ HB, headerB ⟨1, 5, 7⟩ = HB := ⟨_, rfl⟩
  have hHl : HB.length ≤ 29 := by
    rw [← hHB, headerB_len]; have := (plainB_len ⟨1, 5, 7⟩).2; omega
  rw [hHB] at hb hh
  obtain ⟨L, hL⟩ : ∃ L, lowBytes 4 (crcI (bodyB lu35)) = L := ⟨_, rfl⟩
  have hLl : L.length = 4 := by rw [← hL]; exact lowBytes_len 4 _
  rw [hL] at hb
  obtain ⟨Q, hQ⟩ : ∃ Q : List Int, [1, 0, 3, 0] = Q := ⟨_, rfl⟩
  have hQl : Q.length = 4 := by rw [← hQ]; rfl
  have hB : Bys [1, 0, 3, 0] := by unfold Bys; decide
  have hBQ : Bys Q := by rw [← hQ]; exact hB
  have hsq : sameB Q [1, 0, 3, 0] = true := by rw [← hQ]; exact same_self _
  rw [hQ] at hb
  have w8 : IntKind.i64.wrap ((HB.length : Int) + 8) = (HB.length : Int) + 8 := IntWalk.i64_in _ (by omega)
  have w4 : IntKind.i64.wrap ((HB.length : Int) + 4) = (HB.length : Int) + 4 := IntWalk.i64_in _ (by omega)
  have q1 : (((HB ++ (Q ++ L)).length : Int) == (HB.length : Int) + 8) = true := by
    rw [List.length_append, List.length_append, hLl, hQl]; simp
  have hsl : ((HB ++ (Q ++ L)).drop HB.length).take ((HB.length : Int) + 4 - (HB.length : Int)).toNat = Q := by
    rw [List.drop_left, show ((HB.length : Int) + 4 - (HB.length : Int)).toNat = Q.length by omega, List.take_left]
  have ei : ints .u8 [1, 0, 3, 0] = [u8A 1, u8A 0, u8A 3, u8A 0] := rfl
  have hsm := ref02_Same Q [1, 0, 3, 0] hBQ hB
  have hlen : (HB ++ (Q ++ L)).length = HB.length + 8 := by rw [List.length_append, List.length_append, hLl, hQl]
  refine Does.runA Tryz.func7 b7 n7 Tryz.ntmps7 ?_; simp only [c7, go_sem, Nat.reduceAdd, Nat.reduceMul, Int.reduceToNat, Nat.reduceLeDiff, Int.reduceLE, Int.reduceLT, ↓reduceIte, Int.reduceBEq, Int.reduceBNe, Int.reduceAdd, Int.reduceSub, Int.reduceMul]; try refine okTr_and rfl ?_
  (repeat ((with_reducible refine And.intro ?_ ?_); (· exact sd)))
  refine CallK.p (hb.weak (by simp only [List.map_cons, List.map_nil, untag, untag1]; exact (by repeat (first | exact Wa.refl _ | exact WaL.nil | exact Wa.nil | exact Wa.none | refine WaL.cons ?_ ?_ | refine Wa.agg ?_ | refine Wa.slN ?_ | refine Wa.slS ?_ | exact WaL.refl _)))) ?_
  (simp only [go_sem, Nat.reduceAdd, Nat.reduceMul, Int.reduceToNat, Nat.reduceLeDiff, Int.reduceLE, Int.reduceLT, ↓reduceIte, Int.reduceBEq, Int.reduceBNe, Int.reduceAdd, Int.reduceSub, Int.reduceMul]; try refine okTr_and rfl ?_)
  refine CallK.p (hh) ?_; (simp only [go_sem, Nat.reduceAdd, Nat.reduceMul, Int.reduceToNat, Nat.reduceLeDiff, Int.reduceLE, Int.reduceLT, ↓reduceIte, Int.reduceBEq, Int.reduceBNe, Int.reduceAdd, Int.reduceSub, Int.reduceMul, ints_length, w8, w4, q1, ints_drop, ints_take, Int.toNat_natCast, hsl]; try refine okTr_and rfl ?_)
  (repeat ((with_reducible refine And.intro ?_ ?_); (· exact sd)))
  refine CallK.p (hsm) ?_; (simp only [go_sem, Nat.reduceAdd, Nat.reduceMul, Int.reduceToNat, Nat.reduceLeDiff, Int.reduceLE, Int.reduceLT, ↓reduceIte, Int.reduceBEq, Int.reduceBNe, Int.reduceAdd, Int.reduceSub, Int.reduceMul, hsq]; try refine okTr_and rfl ?_)
  exact FinK.finA r7 []
theorem live35 : Ct Tryz.prog 7 [] [] (fun _ => bA true) [] (fun _ => []) := (live35_0).toCt cl cl
end Go.Proofs.YtnfagphepkeedaaGreat
end
section
namespace Go.Proofs.YtnfagphepkeedaaGreat
open Go.RowKit

set_option maxRecDepth 100000 in
theorem slices_EqualU0 (a b : List Int) (ha : a.length ≤ 1000000) : Does Tryz.prog 196 [slU a, slU b] [] (bA (sameB a b)) [] := by
  have hno : ¬ a = b → sameB a b = false := fun h => by simp [sameB, h]
  refine Does.runA Tryz.func196 b196 n196 Tryz.ntmps196 ?_; simp only [c196, go_sem, Nat.reduceAdd, Nat.reduceMul, Int.reduceToNat, Nat.reduceLeDiff, Int.reduceLE, Int.reduceLT, ↓reduceIte, Int.reduceBEq, Int.reduceBNe, Int.reduceAdd, Int.reduceSub, Int.reduceMul, ints_length]; try refine okTr_and rfl ?_
  by_cases hlen : (a.length : Int) = b.length
  · have q0 : ((a.length : Int) != (b.length : Int)) = false := by simpa using hlen
    (simp only [go_sem, Nat.reduceAdd, Nat.reduceMul, Int.reduceToNat, Nat.reduceLeDiff, Int.reduceLE, Int.reduceLT, ↓reduceIte, Int.reduceBEq, Int.reduceBNe, Int.reduceAdd, Int.reduceSub, Int.reduceMul, q0, ints_length]; try refine okTr_and rfl ?_)
    refine loop_of (α := Nat) (fun k => [slU a, slU b, .any, .any, .any, .any, .any, .any, .any, .any, .any, .any, iA a.length, iA k, .any, .any, .any, .any, .any, .any, .any, .any, .any, .any, .any, .any]) (fun _ => []) (fun k => k ≤ a.length ∧ ∀ i, i < k → a.getD i 0 = b.getD i 0) (fun k => a.length - k) 0 ⟨by simp, fun i hi => by omega⟩ (Wk.to (by simp) (by simp [leT])) ?_
    rintro k ⟨hk, hall⟩
    (simp only [go_sem, Nat.reduceAdd, Nat.reduceMul, Int.reduceToNat, Nat.reduceLeDiff, Int.reduceLE, Int.reduceLT, ↓reduceIte, Int.reduceBEq, Int.reduceBNe, Int.reduceAdd, Int.reduceSub, Int.reduceMul, ints_length]; try refine okTr_and rfl ?_)
    by_cases hlt : k < a.length
    · have q1 : decide ((k : Int) < (a.length : Int)) = true := decide_eq_true (by omega)
      have g1 := ints_getD .u64 a k hlt
      have g2 := ints_getD .u64 b k (by omega)
      have ei := i64_succ k (by omega)
      by_cases he : a.getD k 0 = b.getD k 0
      · have q2 : (a.getD k 0 != b.getD k 0) = false := by simpa using he
        (simp only [go_sem, Nat.reduceAdd, Nat.reduceMul, Int.reduceToNat, Nat.reduceLeDiff, Int.reduceLE, Int.reduceLT, ↓reduceIte, Int.reduceBEq, Int.reduceBNe, Int.reduceAdd, Int.reduceSub, Int.reduceMul, q1, Int.toNat_natCast, g1, g2, ints_length, q2, ei]; try refine okTr_and rfl ?_)
        (repeat ((with_reducible refine And.intro ?_ ?_); (· exact sd)))
        exact ⟨k + 1, ⟨hlt, fun i hi => by
          rcases Nat.lt_or_ge i k with h | h
          · exact hall i h
          · obtain rfl : i = k := by omega
            exact he⟩, by omega, Wk.to (by simp) (by simp [leT])⟩
      · have q2 : (a.getD k 0 != b.getD k 0) = true := by simpa using he
        have e := hno (by rintro rfl; exact he rfl)
        (simp only [go_sem, Nat.reduceAdd, Nat.reduceMul, Int.reduceToNat, Nat.reduceLeDiff, Int.reduceLE, Int.reduceLT, ↓reduceIte, Int.reduceBEq, Int.reduceBNe, Int.reduceAdd, Int.reduceSub, Int.reduceMul, q1, Int.toNat_natCast, g1, g2, ints_length, q2]; try refine okTr_and rfl ?_)
        (repeat ((with_reducible refine And.intro ?_ ?_); (· exact sd)))
        ((refine FinK.finB r196 [] ?_ ?_); (· first | with_reducible rfl | (simp [e]; done) | rfl); (· simp [resAL, resA1, loadA, oneOr, e]))
    · have q1 : decide ((k : Int) < (a.length : Int)) = false := decide_eq_false (by omega)
      have e : sameB a b = true := by
        simp only [sameB, decide_eq_true_eq]
        exact List.ext_getElem (by omega) fun i h1 h2 => by
          have := hall i (by omega)
          simpa [h1, h2] using this
      (simp only [go_sem, Nat.reduceAdd, Nat.reduceMul, Int.reduceToNat, Nat.reduceLeDiff, Int.reduceLE, Int.reduceLT, ↓reduceIte, Int.reduceBEq, Int.reduceBNe, Int.reduceAdd, Int.reduceSub, Int.reduceMul, q1]; try refine okTr_and rfl ?_)
      ((refine FinK.finB r196 [] ?_ ?_); (· first | with_reducible rfl | (simp [e]; done) | rfl); (· simp [resAL, resA1, loadA, oneOr, e]))
  · have q0 : ((a.length : Int) != (b.length : Int)) = true := by simpa using hlen
    have e := hno (by rintro rfl; exact hlen rfl)
    (simp only [go_sem, Nat.reduceAdd, Nat.reduceMul, Int.reduceToNat, Nat.reduceLeDiff, Int.reduceLE, Int.reduceLT, ↓reduceIte, Int.reduceBEq, Int.reduceBNe, Int.reduceAdd, Int.reduceSub, Int.reduceMul, q0]; try refine okTr_and rfl ?_)
    ((refine FinK.finB r196 [] ?_ ?_); (· first | with_reducible rfl | (simp [e]; done) | rfl); (· simp [resAL, resA1, loadA, oneOr, e]))
theorem slices_EqualU (a b : List Int) (ha : a.length ≤ 1000000) : Ct Tryz.prog 196 [slU a, slU b] [] (fun _ => bA (sameB a b)) [] (fun _ => []) := (slices_EqualU0 a b ha).toCt cl cl
theorem link_Same10 (x y : Lk) (hn : x.bk.length ≤ 1000000) : Does Tryz.prog 195 [lkA x, lkA y] [] (bA (decide (x = y))) [] := by
  refine Does.runA Tryz.func195 b195 n195 Tryz.ntmps195 ?_; simp only [c195, go_sem, Nat.reduceAdd, Nat.reduceMul, Int.reduceToNat, Nat.reduceLeDiff, Int.reduceLE, Int.reduceLT, ↓reduceIte, Int.reduceBEq, Int.reduceBNe, Int.reduceAdd, Int.reduceSub, Int.reduceMul]; try refine okTr_and rfl ?_
  by_cases c0 : x.st = y.st
  · have q0 : (x.st == y.st) = true := by simpa using c0
    have e : sameB x.bk y.bk = decide (x = y) := by
      unfold sameB
      rw [Bool.eq_iff_iff, decide_eq_true_eq, decide_eq_true_eq]
      cases x; cases y; simp only at c0; simp [c0]
    (simp only [go_sem, Nat.reduceAdd, Nat.reduceMul, Int.reduceToNat, Nat.reduceLeDiff, Int.reduceLE, Int.reduceLT, ↓reduceIte, Int.reduceBEq, Int.reduceBNe, Int.reduceAdd, Int.reduceSub, Int.reduceMul, q0]; try refine okTr_and rfl ?_)
    refine CallK.p (slices_EqualU x.bk y.bk hn) ?_; (simp only [go_sem, Nat.reduceAdd, Nat.reduceMul, Int.reduceToNat, Nat.reduceLeDiff, Int.reduceLE, Int.reduceLT, ↓reduceIte, Int.reduceBEq, Int.reduceBNe, Int.reduceAdd, Int.reduceSub, Int.reduceMul]; try refine okTr_and rfl ?_)
    ((refine FinK.finB r195 [] ?_ ?_); (· first | with_reducible rfl | (simp [e]; done) | rfl); (· simp [resAL, resA1, loadA, oneOr, e]))
  · have q0 : (x.st == y.st) = false := by simpa using c0
    have e : decide (x = y) = false := by simp only [decide_eq_false_iff_not]; rintro rfl; exact c0 rfl
    (simp only [go_sem, Nat.reduceAdd, Nat.reduceMul, Int.reduceToNat, Nat.reduceLeDiff, Int.reduceLE, Int.reduceLT, ↓reduceIte, Int.reduceBEq, Int.reduceBNe, Int.reduceAdd, Int.reduceSub, Int.reduceMul, q0]; try refine okTr_and rfl ?_)
    ((refine FinK.finB r195 [] ?_ ?_); (· first | with_reducible rfl | (simp [e]; done) | rfl); (· simp [resAL, resA1, loadA, oneOr, e]))
theorem link_Same1 (x y : Lk) (hn : x.bk.length ≤ 1000000) : Ct Tryz.prog 195 [lkA x, lkA y] [] (fun _ => bA (decide (x = y))) [] (fun _ => []) := (link_Same10 x y hn).toCt cl cl
set_option maxRecDepth 100000 in
theorem EqualFuncLk0 (f : FuncId) (eq : Lk → Lk → Bool) (he : ∀ x y, eq x y = true ↔ x = y) (a b : List Lk) (hf : ∀ x ∈ a, ∀ y ∈ b, Ct Tryz.prog f [lkA x, lkA y] [] (fun _ => bA (eq x y)) [] (fun _ => [])) (eqL : Bool) (hL : eqL = true ↔ a = b) (hn : a.length ≤ 1000000) : Does Tryz.prog 194 [slL a, slL b, .fn f [] []] [] (bA eqL) [] := by
  have hno : ¬ a = b → eqL = false := fun h => by
    cases hq : eqL with
    | false => rfl
    | true => exact absurd (hL.1 hq) h
  refine Does.runA Tryz.func194 b194 n194 Tryz.ntmps194 ?_; simp only [c194, go_sem, Nat.reduceAdd, Nat.reduceMul, Int.reduceToNat, Nat.reduceLeDiff, Int.reduceLE, Int.reduceLT, ↓reduceIte, Int.reduceBEq, Int.reduceBNe, Int.reduceAdd, Int.reduceSub, Int.reduceMul, lks_length]; try refine okTr_and rfl ?_
  by_cases hlen : (a.length : Int) = b.length
  · have q0 : ((a.length : Int) != (b.length : Int)) = false := by simpa using hlen
    (simp only [go_sem, Nat.reduceAdd, Nat.reduceMul, Int.reduceToNat, Nat.reduceLeDiff, Int.reduceLE, Int.reduceLT, ↓reduceIte, Int.reduceBEq, Int.reduceBNe, Int.reduceAdd, Int.reduceSub, Int.reduceMul, q0, lks_length]; try refine okTr_and rfl ?_)
    refine loop_of (α := Nat) (fun k => [.any, slL b, .fn f [] [], .any, .any, .any, .any, .any, .any, .any, .any, .any, .any, .any, .any, slL a, iA a.length, iA k, .any, .any, .any, .any, .any, .any, .any, .any, .any, .any, .any, .any, .any, .any]) (fun _ => []) (fun k => k ≤ a.length ∧ ∀ i, i < k → a.getD i lk0 = b.getD i lk0) (fun k => a.length - k) 0 ⟨by simp, fun i hi => by omega⟩ (Wk.to (by simp) (by simp [leT])) ?_
    rintro k ⟨hk, hall⟩
    (simp only [go_sem, Nat.reduceAdd, Nat.reduceMul, Int.reduceToNat, Nat.reduceLeDiff, Int.reduceLE, Int.reduceLT, ↓reduceIte, Int.reduceBEq, Int.reduceBNe, Int.reduceAdd, Int.reduceSub, Int.reduceMul, lks_length]; try refine okTr_and rfl ?_)
    by_cases hlt : k < a.length
    · have q1 : decide ((k : Int) < (a.length : Int)) = true := decide_eq_true (by omega)
      have g1 := lks_get a k hlt
      have g2 := lks_get b k (by omega)
      have ei := i64_succ k (by omega)
      have m1 : a.getD k lk0 ∈ a := by simp [hlt]
      have m2 : b.getD k lk0 ∈ b := by
        have : k < b.length := by omega
        simp [this]
      have hx := hf _ m1 _ m2
      obtain ⟨x, ex⟩ : ∃ x, a.getD k lk0 = x := ⟨_, rfl⟩
      obtain ⟨y, ey⟩ : ∃ y, b.getD k lk0 = y := ⟨_, rfl⟩
      rw [ex] at g1 hx; rw [ey] at g2 hx
      (simp only [go_sem, Nat.reduceAdd, Nat.reduceMul, Int.reduceToNat, Nat.reduceLeDiff, Int.reduceLE, Int.reduceLT, ↓reduceIte, Int.reduceBEq, Int.reduceBNe, Int.reduceAdd, Int.reduceSub, Int.reduceMul, q1, g1, lks_length, Int.toNat_natCast]; try refine okTr_and rfl ?_)
      (repeat ((with_reducible refine And.intro ?_ ?_); (· exact sd)))
      (simp only [go_sem, Nat.reduceAdd, Nat.reduceMul, Int.reduceToNat, Nat.reduceLeDiff, Int.reduceLE, Int.reduceLT, ↓reduceIte, Int.reduceBEq, Int.reduceBNe, Int.reduceAdd, Int.reduceSub, Int.reduceMul, g2, lks_length, Int.toNat_natCast]; try refine okTr_and rfl ?_)
      (repeat ((with_reducible refine And.intro ?_ ?_); (· exact sd)))
      refine CallK.p (hx) ?_
      cases hq : eq x y with
      | true =>
        have hxy := (he x y).1 hq
        (simp only [go_sem, Nat.reduceAdd, Nat.reduceMul, Int.reduceToNat, Nat.reduceLeDiff, Int.reduceLE, Int.reduceLT, ↓reduceIte, Int.reduceBEq, Int.reduceBNe, Int.reduceAdd, Int.reduceSub, Int.reduceMul, hq, ei]; try refine okTr_and rfl ?_)
        exact ⟨k + 1, ⟨hlt, fun i hi => by
          rcases Nat.lt_or_ge i k with h | h
          · exact hall i h
          · obtain rfl : i = k := by omega
            rw [ex, ey, hxy]⟩, by omega, Wk.sel [] (by simp) rfl (by simp) rfl (by simp) (by simp [selT, ixs_z])⟩
      | false =>
        have hne := hno (by rintro rfl; rw [ex] at ey; rw [(he x y).2 ey] at hq; cases hq)
        (simp only [go_sem, Nat.reduceAdd, Nat.reduceMul, Int.reduceToNat, Nat.reduceLeDiff, Int.reduceLE, Int.reduceLT, ↓reduceIte, Int.reduceBEq, Int.reduceBNe, Int.reduceAdd, Int.reduceSub, Int.reduceMul, hq]; try refine okTr_and rfl ?_)
        ((refine FinK.finB r194 [] ?_ ?_); (· first | with_reducible rfl | (simp [hne]; done) | rfl); (· simp [resAL, resA1, loadA, oneOr, hne]))
    · have q1 : decide ((k : Int) < (a.length : Int)) = false := decide_eq_false (by omega)
      have hyes : eqL = true := hL.2 (List.ext_getElem (by omega) fun i h1 h2 => by
        have := hall i (by omega)
        simpa [h1, h2] using this)
      (simp only [go_sem, Nat.reduceAdd, Nat.reduceMul, Int.reduceToNat, Nat.reduceLeDiff, Int.reduceLE, Int.reduceLT, ↓reduceIte, Int.reduceBEq, Int.reduceBNe, Int.reduceAdd, Int.reduceSub, Int.reduceMul, q1]; try refine okTr_and rfl ?_)
      ((refine FinK.finB r194 [] ?_ ?_); (· first | with_reducible rfl | (simp [hyes]; done) | rfl); (· simp [resAL, resA1, loadA, oneOr, hyes]))
  · have q0 : ((a.length : Int) != (b.length : Int)) = true := by simpa using hlen
    have hne := hno (by rintro rfl; exact hlen rfl)
    (simp only [go_sem, Nat.reduceAdd, Nat.reduceMul, Int.reduceToNat, Nat.reduceLeDiff, Int.reduceLE, Int.reduceLT, ↓reduceIte, Int.reduceBEq, Int.reduceBNe, Int.reduceAdd, Int.reduceSub, Int.reduceMul, q0]; try refine okTr_and rfl ?_)
    ((refine FinK.finB r194 [] ?_ ?_); (· first | with_reducible rfl | (simp [hne]; done) | rfl); (· simp [resAL, resA1, loadA, oneOr, hne]))
theorem EqualFuncLk (f : FuncId) (eq : Lk → Lk → Bool) (he : ∀ x y, eq x y = true ↔ x = y) (a b : List Lk) (hf : ∀ x ∈ a, ∀ y ∈ b, Ct Tryz.prog f [lkA x, lkA y] [] (fun _ => bA (eq x y)) [] (fun _ => [])) (eqL : Bool) (hL : eqL = true ↔ a = b) (hn : a.length ≤ 1000000) : Ct Tryz.prog 194 [slL a, slL b, .fn f [] []] [] (fun _ => bA eqL) [] (fun _ => []) := (EqualFuncLk0 f eq he a b hf eqL hL hn).toCt cl cl

theorem link_Same0 (a b : List Lk) (hm : Smalls a) : Does Tryz.prog 190 [slL a, slL b] [] (bA (sameL a b)) [] := by
  refine Does.runA Tryz.func190 b190 n190 Tryz.ntmps190 ?_; simp only [c190, go_sem, Nat.reduceAdd, Nat.reduceMul, Int.reduceToNat, Nat.reduceLeDiff, Int.reduceLE, Int.reduceLT, ↓reduceIte, Int.reduceBEq, Int.reduceBNe, Int.reduceAdd, Int.reduceSub, Int.reduceMul]; try refine okTr_and rfl ?_
  refine CallK.p (EqualFuncLk 195 (fun x y => decide (x = y)) (fun x y => by simp) a b (fun x hx y hy => link_Same1 x y (hm.2 x hx)) (sameL a b) (by simp [sameL]) hm.1) ?_; (simp only [go_sem, Nat.reduceAdd, Nat.reduceMul, Int.reduceToNat, Nat.reduceLeDiff, Int.reduceLE, Int.reduceLT, ↓reduceIte, Int.reduceBEq, Int.reduceBNe, Int.reduceAdd, Int.reduceSub, Int.reduceMul]; try refine okTr_and rfl ?_)
  exact FinK.finA r190 []
theorem link_Same (a b : List Lk) (hm : Smalls a) : Ct Tryz.prog 190 [slL a, slL b] [] (fun _ => bA (sameL a b)) [] (fun _ => []) := (link_Same0 a b hm).toCt cl cl
theorem sameE_iff (a b : En) : sameE a b = true ↔ a = b := by
  unfold sameE sameL sameB
  rw [Bool.and_eq_true, decide_eq_true_eq, decide_eq_true_eq]
  exact ⟨fun ⟨h1, h2⟩ => by cases a; cases b; simp only at h1 h2; rw [h1, h2], fun h => by subst h; exact ⟨rfl, rfl⟩⟩
theorem allE_iff (a b : List En) : allE a b = true ↔ a = b := by
  unfold allE
  rw [Bool.and_eq_true, decide_eq_true_eq, List.all_eq_true]
  constructor
  · rintro ⟨h1, h2⟩
    exact List.ext_getElem h1 fun i h3 h4 => by
      have := (sameE_iff _ _).1 (h2 i (List.mem_range.2 h3))
      simpa [h3, h4] using this
  · rintro rfl
    exact ⟨rfl, fun i _ => (sameE_iff _ _).2 rfl⟩
theorem entry_Same0 (a b : En) (hm : Smalls a.lk) (ha : Bys a.data) (hb : Bys b.data) : Does Tryz.prog 176 [enA a, enA b] [] (bA (sameE a b)) [] := by
  refine Does.runA Tryz.func176 b176 n176 Tryz.ntmps176 ?_; simp only [c176, go_sem, Nat.reduceAdd, Nat.reduceMul, Int.reduceToNat, Nat.reduceLeDiff, Int.reduceLE, Int.reduceLT, ↓reduceIte, Int.reduceBEq, Int.reduceBNe, Int.reduceAdd, Int.reduceSub, Int.reduceMul]; try refine okTr_and rfl ?_
  refine CallK.p (link_Same a.lk b.lk hm) ?_
  by_cases h : sameL a.lk b.lk = true
  · have e : sameE a b = sameB a.data b.data := by unfold sameE; rw [h]; rfl
    (simp only [go_sem, Nat.reduceAdd, Nat.reduceMul, Int.reduceToNat, Nat.reduceLeDiff, Int.reduceLE, Int.reduceLT, ↓reduceIte, Int.reduceBEq, Int.reduceBNe, Int.reduceAdd, Int.reduceSub, Int.reduceMul, h]; try refine okTr_and rfl ?_)
    refine CallK.p (bytes_Equal a.data b.data ha hb) ?_; (simp only [go_sem, Nat.reduceAdd, Nat.reduceMul, Int.reduceToNat, Nat.reduceLeDiff, Int.reduceLE, Int.reduceLT, ↓reduceIte, Int.reduceBEq, Int.reduceBNe, Int.reduceAdd, Int.reduceSub, Int.reduceMul]; try refine okTr_and rfl ?_)
    ((refine FinK.finB r176 [] ?_ ?_); (· first | with_reducible rfl | (simp [e]; done) | rfl); (· simp [resAL, resA1, loadA, oneOr, e]))
  · have h' : sameL a.lk b.lk = false := by simpa using h
    have e : sameE a b = false := by unfold sameE; rw [h']; rfl
    (simp only [go_sem, Nat.reduceAdd, Nat.reduceMul, Int.reduceToNat, Nat.reduceLeDiff, Int.reduceLE, Int.reduceLT, ↓reduceIte, Int.reduceBEq, Int.reduceBNe, Int.reduceAdd, Int.reduceSub, Int.reduceMul, h']; try refine okTr_and rfl ?_)
    ((refine FinK.finB r176 [] ?_ ?_); (· first | with_reducible rfl | (simp [e]; done) | rfl); (· simp [resAL, resA1, loadA, oneOr, e]))
theorem entry_Same (a b : En) (hm : Smalls a.lk) (ha : Bys a.data) (hb : Bys b.data) : Ct Tryz.prog 176 [enA a, enA b] [] (fun _ => bA (sameE a b)) [] (fun _ => []) := (entry_Same0 a b hm ha hb).toCt cl cl
set_option maxRecDepth 100000 in
theorem EqualFuncEn0 (f : FuncId) (eq : En → En → Bool) (he : ∀ x y, eq x y = true ↔ x = y) (a b : List En) (hf : ∀ x ∈ a, ∀ y ∈ b, Ct Tryz.prog f [enA x, enA y] [] (fun _ => bA (eq x y)) [] (fun _ => [])) (eqL : Bool) (hL : eqL = true ↔ a = b) (hn : a.length ≤ 1000000) : Does Tryz.prog 175 [slE a, slE b, .fn f [] []] [] (bA eqL) [] := by
  have hno : ¬ a = b → eqL = false := fun h => by
    cases hq : eqL with
    | false => rfl
    | true => exact absurd (hL.1 hq) h
  refine Does.runA Tryz.func175 b175 n175 Tryz.ntmps175 ?_; simp only [c175, go_sem, Nat.reduceAdd, Nat.reduceMul, Int.reduceToNat, Nat.reduceLeDiff, Int.reduceLE, Int.reduceLT, ↓reduceIte, Int.reduceBEq, Int.reduceBNe, Int.reduceAdd, Int.reduceSub, Int.reduceMul, ens_length]; try refine okTr_and rfl ?_
  by_cases hlen : (a.length : Int) = b.length
  · have q0 : ((a.length : Int) != (b.length : Int)) = false := by simpa using hlen
    (simp only [go_sem, Nat.reduceAdd, Nat.reduceMul, Int.reduceToNat, Nat.reduceLeDiff, Int.reduceLE, Int.reduceLT, ↓reduceIte, Int.reduceBEq, Int.reduceBNe, Int.reduceAdd, Int.reduceSub, Int.reduceMul, q0, ens_length]; try refine okTr_and rfl ?_)
    refine loop_of (α := Nat) (fun k => [.any, slE b, .fn f [] [], .any, .any, .any, .any, .any, .any, .any, .any, .any, .any, .any, .any, slE a, iA a.length, iA k, .any, .any, .any, .any, .any, .any, .any, .any, .any, .any, .any, .any, .any, .any]) (fun _ => []) (fun k => k ≤ a.length ∧ ∀ i, i < k → a.getD i en0 = b.getD i en0) (fun k => a.length - k) 0 ⟨by simp, fun i hi => by omega⟩ (Wk.to (by simp) (by simp [leT])) ?_
    rintro k ⟨hk, hall⟩
    (simp only [go_sem, Nat.reduceAdd, Nat.reduceMul, Int.reduceToNat, Nat.reduceLeDiff, Int.reduceLE, Int.reduceLT, ↓reduceIte, Int.reduceBEq, Int.reduceBNe, Int.reduceAdd, Int.reduceSub, Int.reduceMul, ens_length]; try refine okTr_and rfl ?_)
    by_cases hlt : k < a.length
    · have q1 : decide ((k : Int) < (a.length : Int)) = true := decide_eq_true (by omega)
      have g1 := ens_get a k hlt
      have g2 := ens_get b k (by omega)
      have ei := i64_succ k (by omega)
      have m1 : a.getD k en0 ∈ a := by simp [hlt]
      have m2 : b.getD k en0 ∈ b := by
        have : k < b.length := by omega
        simp [this]
      have hx := hf _ m1 _ m2
      obtain ⟨x, ex⟩ : ∃ x, a.getD k en0 = x := ⟨_, rfl⟩
      obtain ⟨y, ey⟩ : ∃ y, b.getD k en0 = y := ⟨_, rfl⟩
      rw [ex] at g1 hx; rw [ey] at g2 hx
      (simp only [go_sem, Nat.reduceAdd, Nat.reduceMul, Int.reduceToNat, Nat.reduceLeDiff, Int.reduceLE, Int.reduceLT, ↓reduceIte, Int.reduceBEq, Int.reduceBNe, Int.reduceAdd, Int.reduceSub, Int.reduceMul, q1, g1, ens_length, Int.toNat_natCast]; try refine okTr_and rfl ?_)
      (repeat ((with_reducible refine And.intro ?_ ?_); (· exact sd)))
      (simp only [go_sem, Nat.reduceAdd, Nat.reduceMul, Int.reduceToNat, Nat.reduceLeDiff, Int.reduceLE, Int.reduceLT, ↓reduceIte, Int.reduceBEq, Int.reduceBNe, Int.reduceAdd, Int.reduceSub, Int.reduceMul, g2, ens_length, Int.toNat_natCast]; try refine okTr_and rfl ?_)
      (repeat ((with_reducible refine And.intro ?_ ?_); (· exact sd)))
      refine CallK.p (hx) ?_
      cases hq : eq x y with
      | true =>
        have hxy := (he x y).1 hq
        (simp only [go_sem, Nat.reduceAdd, Nat.reduceMul, Int.reduceToNat, Nat.reduceLeDiff, Int.reduceLE, Int.reduceLT, ↓reduceIte, Int.reduceBEq, Int.reduceBNe, Int.reduceAdd, Int.reduceSub, Int.reduceMul, hq, ei]; try refine okTr_and rfl ?_)
        exact ⟨k + 1, ⟨hlt, fun i hi => by
          rcases Nat.lt_or_ge i k with h | h
          · exact hall i h
          · obtain rfl : i = k := by omega
            rw [ex, ey, hxy]⟩, by omega, Wk.sel [] (by simp) rfl (by simp) rfl (by simp) (by simp [selT, ixs_z])⟩
      | false =>
        have hne := hno (by rintro rfl; rw [ex] at ey; rw [(he x y).2 ey] at hq; cases hq)
        (simp only [go_sem, Nat.reduceAdd, Nat.reduceMul, Int.reduceToNat, Nat.reduceLeDiff, Int.reduceLE, Int.reduceLT, ↓reduceIte, Int.reduceBEq, Int.reduceBNe, Int.reduceAdd, Int.reduceSub, Int.reduceMul, hq]; try refine okTr_and rfl ?_)
        ((refine FinK.finB r175 [] ?_ ?_); (· first | with_reducible rfl | (simp [hne]; done) | rfl); (· simp [resAL, resA1, loadA, oneOr, hne]))
    · have q1 : decide ((k : Int) < (a.length : Int)) = false := decide_eq_false (by omega)
      have hyes : eqL = true := hL.2 (List.ext_getElem (by omega) fun i h1 h2 => by
        have := hall i (by omega)
        simpa [h1, h2] using this)
      (simp only [go_sem, Nat.reduceAdd, Nat.reduceMul, Int.reduceToNat, Nat.reduceLeDiff, Int.reduceLE, Int.reduceLT, ↓reduceIte, Int.reduceBEq, Int.reduceBNe, Int.reduceAdd, Int.reduceSub, Int.reduceMul, q1]; try refine okTr_and rfl ?_)
      ((refine FinK.finB r175 [] ?_ ?_); (· first | with_reducible rfl | (simp [hyes]; done) | rfl); (· simp [resAL, resA1, loadA, oneOr, hyes]))
  · have q0 : ((a.length : Int) != (b.length : Int)) = true := by simpa using hlen
    have hne := hno (by rintro rfl; exact hlen rfl)
    (simp only [go_sem, Nat.reduceAdd, Nat.reduceMul, Int.reduceToNat, Nat.reduceLeDiff, Int.reduceLE, Int.reduceLT, ↓reduceIte, Int.reduceBEq, Int.reduceBNe, Int.reduceAdd, Int.reduceSub, Int.reduceMul, q0]; try refine okTr_and rfl ?_)
    ((refine FinK.finB r175 [] ?_ ?_); (· first | with_reducible rfl | (simp [hne]; done) | rfl); (· simp [resAL, resA1, loadA, oneOr, hne]))
theorem EqualFuncEn (f : FuncId) (eq : En → En → Bool) (he : ∀ x y, eq x y = true ↔ x = y) (a b : List En) (hf : ∀ x ∈ a, ∀ y ∈ b, Ct Tryz.prog f [enA x, enA y] [] (fun _ => bA (eq x y)) [] (fun _ => [])) (eqL : Bool) (hL : eqL = true ↔ a = b) (hn : a.length ≤ 1000000) : Ct Tryz.prog 175 [slE a, slE b, .fn f [] []] [] (fun _ => bA eqL) [] (fun _ => []) := (EqualFuncEn0 f eq he a b hf eqL hL hn).toCt cl cl

theorem entry_All0 (a b : List En) (hl : a.length ≤ 1000000) (hm : ∀ e ∈ a, Smalls e.lk) (ha : Ens a) (hb : Ens b) : Does Tryz.prog 148 [slE a, slE b] [] (bA (allE a b)) [] := by
  refine Does.runA Tryz.func148 b148 n148 Tryz.ntmps148 ?_; simp only [c148, go_sem, Nat.reduceAdd, Nat.reduceMul, Int.reduceToNat, Nat.reduceLeDiff, Int.reduceLE, Int.reduceLT, ↓reduceIte, Int.reduceBEq, Int.reduceBNe, Int.reduceAdd, Int.reduceSub, Int.reduceMul]; try refine okTr_and rfl ?_
  refine CallK.p (EqualFuncEn 176 sameE sameE_iff a b (fun x hx y hy => entry_Same x y (hm x hx) (ha x hx).data (hb y hy).data) (allE a b) (allE_iff a b) hl) ?_; (simp only [go_sem, Nat.reduceAdd, Nat.reduceMul, Int.reduceToNat, Nat.reduceLeDiff, Int.reduceLE, Int.reduceLT, ↓reduceIte, Int.reduceBEq, Int.reduceBNe, Int.reduceAdd, Int.reduceSub, Int.reduceMul]; try refine okTr_and rfl ?_)
  exact FinK.finA r148 []
theorem entry_All (a b : List En) (hl : a.length ≤ 1000000) (hm : ∀ e ∈ a, Smalls e.lk) (ha : Ens a) (hb : Ens b) : Ct Tryz.prog 148 [slE a, slE b] [] (fun _ => bA (allE a b)) [] (fun _ => []) := (entry_All0 a b hl hm ha hb).toCt cl cl

abbrev btA (b : Bt) : AV := .agg [uA b.ep, uA b.base, slE b.en]
def bts (l : List Bt) : List AV := l.map btA
abbrev slB (l : List Bt) : AV := .sl .none 3 (bts l)
abbrev btO (b : Bt) : AObj := .cells [uA b.ep, uA b.base, slE b.en]
abbrev sg2A (u : Sg2) : AV := .agg [uA u.ep, slB u.bt]
abbrev sg2O (u : Sg2) : AObj := .cells [uA u.ep, slB u.bt]
theorem bts_length (l : List Bt) : (bts l).length = l.length := by simp [bts]
theorem bts_nil : bts [] = [] := (rfl)
theorem bts_get (l : List Bt) (k : Nat) (h : k < l.length) : (bts l).getD k .any = btA (l.getD k bt0) := by simp [bts, h]
theorem bts_snoc (l : List Bt) (x : Bt) : bts l ++ [btA x] = bts (l ++ [x]) := by simp [bts]
theorem bts_take (l : List Bt) (n : Nat) : (bts l).take n = bts (l.take n) := by simp [bts]
theorem bts_drop (l : List Bt) (n : Nat) : (bts l).drop n = bts (l.drop n) := by simp [bts]
@[simp] theorem ren_bts (ρ : Nat → Nat) (l : List Bt) : (bts l).map (fun x => x.ren ρ) = bts l := by
  simp [bts, Function.comp_def, ixs_z, ren_ints, ren_ens]
theorem sg2O_ren (u : Sg2) (ρ : Nat → Nat) : (sg2O u).ren ρ = sg2O u := by simp [ixs_z]
structure SmallB (b : Bt) : Prop where
  n : b.en.length ≤ 1000000
  e : ∀ e ∈ b.en, smallE e
  s : (joinE b.en).length ≤ 100000000
theorem SmallB.lk {b : Bt} (h : SmallB b) : ∀ e ∈ b.en, Smalls e.lk := fun e he => (h.e e he).1
def sameBt (a b : Bt) : Bool := decide (a = b)
theorem sameBt_iff (a b : Bt) : sameBt a b = true ↔ a = b := by simp [sameBt]
theorem batch_Same0 (a b : Bt) (hs : SmallB a) (ha : Ens a.en) (hb : Ens b.en) : Does Tryz.prog 98 [btA a, btA b] [] (bA (sameBt a b)) [] := by
  have hno : ¬ a = b → sameBt a b = false := fun h => by simp [sameBt, h]
  refine Does.runA Tryz.func98 b98 n98 Tryz.ntmps98 ?_; simp only [c98, go_sem, Nat.reduceAdd, Nat.reduceMul, Int.reduceToNat, Nat.reduceLeDiff, Int.reduceLE, Int.reduceLT, ↓reduceIte, Int.reduceBEq, Int.reduceBNe, Int.reduceAdd, Int.reduceSub, Int.reduceMul]; try refine okTr_and rfl ?_
  by_cases c0 : a.ep = b.ep
  · have q0 : (a.ep == b.ep) = true := by simpa using c0
    by_cases c1 : a.base = b.base
    · have q1 : (a.base == b.base) = true := by simpa using c1
      have e : allE a.en b.en = sameBt a b := by
        rw [Bool.eq_iff_iff, allE_iff, sameBt_iff]
        cases a; cases b; simp only at c0 c1; simp [c0, c1]
      (simp only [go_sem, Nat.reduceAdd, Nat.reduceMul, Int.reduceToNat, Nat.reduceLeDiff, Int.reduceLE, Int.reduceLT, ↓reduceIte, Int.reduceBEq, Int.reduceBNe, Int.reduceAdd, Int.reduceSub, Int.reduceMul, q0, q1]; try refine okTr_and rfl ?_)
      refine CallK.p (entry_All a.en b.en hs.n hs.lk ha hb) ?_; (simp only [go_sem, Nat.reduceAdd, Nat.reduceMul, Int.reduceToNat, Nat.reduceLeDiff, Int.reduceLE, Int.reduceLT, ↓reduceIte, Int.reduceBEq, Int.reduceBNe, Int.reduceAdd, Int.reduceSub, Int.reduceMul, e]; try refine okTr_and rfl ?_)
      exact FinK.finA r98 []
    · have q1 : (a.base == b.base) = false := by simpa using c1
      have e := hno (by rintro rfl; exact c1 rfl)
      (simp only [go_sem, Nat.reduceAdd, Nat.reduceMul, Int.reduceToNat, Nat.reduceLeDiff, Int.reduceLE, Int.reduceLT, ↓reduceIte, Int.reduceBEq, Int.reduceBNe, Int.reduceAdd, Int.reduceSub, Int.reduceMul, q0, q1]; try refine okTr_and rfl ?_)
      ((refine FinK.finB r98 [] ?_ ?_); (· first | with_reducible rfl | (simp [e]; done) | rfl); (· simp [resAL, resA1, loadA, oneOr, e]))
  · have q0 : (a.ep == b.ep) = false := by simpa using c0
    have e := hno (by rintro rfl; exact c0 rfl)
    (simp only [go_sem, Nat.reduceAdd, Nat.reduceMul, Int.reduceToNat, Nat.reduceLeDiff, Int.reduceLE, Int.reduceLT, ↓reduceIte, Int.reduceBEq, Int.reduceBNe, Int.reduceAdd, Int.reduceSub, Int.reduceMul, q0]; try refine okTr_and rfl ?_)
    ((refine FinK.finB r98 [] ?_ ?_); (· first | with_reducible rfl | (simp [e]; done) | rfl); (· simp [resAL, resA1, loadA, oneOr, e]))
theorem batch_Same (a b : Bt) (hs : SmallB a) (ha : Ens a.en) (hb : Ens b.en) : Ct Tryz.prog 98 [btA a, btA b] [] (fun _ => bA (sameBt a b)) [] (fun _ => []) := (batch_Same0 a b hs ha hb).toCt cl cl
theorem ref25_Same0 (a b : Bt) (hs : SmallB a) (ha : Ens a.en) (hb : Ens b.en) : Does Tryz.prog 128 [btA a, btA b] [] (bA (sameBt a b)) [] := by
  have hno : ¬ a = b → sameBt a b = false := fun h => by simp [sameBt, h]
  refine Does.runA Tryz.func128 b128 n128 Tryz.ntmps128 ?_; simp only [c128, go_sem, Nat.reduceAdd, Nat.reduceMul, Int.reduceToNat, Nat.reduceLeDiff, Int.reduceLE, Int.reduceLT, ↓reduceIte, Int.reduceBEq, Int.reduceBNe, Int.reduceAdd, Int.reduceSub, Int.reduceMul]; try refine okTr_and rfl ?_
  by_cases c0 : a.ep = b.ep
  · have q0 : (a.ep == b.ep) = true := by simpa using c0
    by_cases c1 : a.base = b.base
    · have q1 : (a.base == b.base) = true := by simpa using c1
      have e : allE a.en b.en = sameBt a b := by
        rw [Bool.eq_iff_iff, allE_iff, sameBt_iff]
        cases a; cases b; simp only at c0 c1; simp [c0, c1]
      (simp only [go_sem, Nat.reduceAdd, Nat.reduceMul, Int.reduceToNat, Nat.reduceLeDiff, Int.reduceLE, Int.reduceLT, ↓reduceIte, Int.reduceBEq, Int.reduceBNe, Int.reduceAdd, Int.reduceSub, Int.reduceMul, q0, q1]; try refine okTr_and rfl ?_)
      refine CallK.p (ref24_All a.en b.en hs.n hs.lk ha hb) ?_; (simp only [go_sem, Nat.reduceAdd, Nat.reduceMul, Int.reduceToNat, Nat.reduceLeDiff, Int.reduceLE, Int.reduceLT, ↓reduceIte, Int.reduceBEq, Int.reduceBNe, Int.reduceAdd, Int.reduceSub, Int.reduceMul, e]; try refine okTr_and rfl ?_)
      exact FinK.finA r128 []
    · have q1 : (a.base == b.base) = false := by simpa using c1
      have e := hno (by rintro rfl; exact c1 rfl)
      (simp only [go_sem, Nat.reduceAdd, Nat.reduceMul, Int.reduceToNat, Nat.reduceLeDiff, Int.reduceLE, Int.reduceLT, ↓reduceIte, Int.reduceBEq, Int.reduceBNe, Int.reduceAdd, Int.reduceSub, Int.reduceMul, q0, q1]; try refine okTr_and rfl ?_)
      ((refine FinK.finB r128 [] ?_ ?_); (· first | with_reducible rfl | (simp [e]; done) | rfl); (· simp [resAL, resA1, loadA, oneOr, e]))
  · have q0 : (a.ep == b.ep) = false := by simpa using c0
    have e := hno (by rintro rfl; exact c0 rfl)
    (simp only [go_sem, Nat.reduceAdd, Nat.reduceMul, Int.reduceToNat, Nat.reduceLeDiff, Int.reduceLE, Int.reduceLT, ↓reduceIte, Int.reduceBEq, Int.reduceBNe, Int.reduceAdd, Int.reduceSub, Int.reduceMul, q0]; try refine okTr_and rfl ?_)
    ((refine FinK.finB r128 [] ?_ ?_); (· first | with_reducible rfl | (simp [e]; done) | rfl); (· simp [resAL, resA1, loadA, oneOr, e]))
theorem ref25_Same (a b : Bt) (hs : SmallB a) (ha : Ens a.en) (hb : Ens b.en) : Ct Tryz.prog 128 [btA a, btA b] [] (fun _ => bA (sameBt a b)) [] (fun _ => []) := (ref25_Same0 a b hs ha hb).toCt cl cl
set_option maxRecDepth 100000 in
theorem EqualFuncBt0 (f : FuncId) (eq : Bt → Bt → Bool) (he : ∀ x y, eq x y = true ↔ x = y) (a b : List Bt) (hf : ∀ x ∈ a, ∀ y ∈ b, Ct Tryz.prog f [btA x, btA y] [] (fun _ => bA (eq x y)) [] (fun _ => [])) (eqL : Bool) (hL : eqL = true ↔ a = b) (hn : a.length ≤ 1000000) : Does Tryz.prog 97 [slB a, slB b, .fn f [] []] [] (bA eqL) [] := by
  have hno : ¬ a = b → eqL = false := fun h => by
    cases hq : eqL with
    | false => rfl
    | true => exact absurd (hL.1 hq) h
  refine Does.runA Tryz.func97 b97 n97 Tryz.ntmps97 ?_; simp only [c97, go_sem, Nat.reduceAdd, Nat.reduceMul, Int.reduceToNat, Nat.reduceLeDiff, Int.reduceLE, Int.reduceLT, ↓reduceIte, Int.reduceBEq, Int.reduceBNe, Int.reduceAdd, Int.reduceSub, Int.reduceMul, bts_length]; try refine okTr_and rfl ?_
  by_cases hlen : (a.length : Int) = b.length
  · have q0 : ((a.length : Int) != (b.length : Int)) = false := by simpa using hlen
    (simp only [go_sem, Nat.reduceAdd, Nat.reduceMul, Int.reduceToNat, Nat.reduceLeDiff, Int.reduceLE, Int.reduceLT, ↓reduceIte, Int.reduceBEq, Int.reduceBNe, Int.reduceAdd, Int.reduceSub, Int.reduceMul, q0, bts_length]; try refine okTr_and rfl ?_)
    refine loop_of (α := Nat) (fun k => [.any, slB b, .fn f [] [], .any, .any, .any, .any, .any, .any, .any, .any, .any, .any, .any, .any, slB a, iA a.length, iA k, .any, .any, .any, .any, .any, .any, .any, .any, .any, .any, .any, .any, .any, .any]) (fun _ => []) (fun k => k ≤ a.length ∧ ∀ i, i < k → a.getD i bt0 = b.getD i bt0) (fun k => a.length - k) 0 ⟨by simp, fun i hi => by omega⟩ (Wk.to (by simp) (by simp [leT])) ?_
    rintro k ⟨hk, hall⟩
    (simp only [go_sem, Nat.reduceAdd, Nat.reduceMul, Int.reduceToNat, Nat.reduceLeDiff, Int.reduceLE, Int.reduceLT, ↓reduceIte, Int.reduceBEq, Int.reduceBNe, Int.reduceAdd, Int.reduceSub, Int.reduceMul, bts_length]; try refine okTr_and rfl ?_)
    by_cases hlt : k < a.length
    · have q1 : decide ((k : Int) < (a.length : Int)) = true := decide_eq_true (by omega)
      have g1 := bts_get a k hlt
      have g2 := bts_get b k (by omega)
      have ei := i64_succ k (by omega)
      have m1 : a.getD k bt0 ∈ a := by simp [hlt]
      have m2 : b.getD k bt0 ∈ b := by
        have : k < b.length := by omega
        simp [this]
      have hx := hf _ m1 _ m2
      obtain ⟨x, ex⟩ : ∃ x, a.getD k bt0 = x := ⟨_, rfl⟩
      obtain ⟨y, ey⟩ : ∃ y, b.getD k bt0 = y := ⟨_, rfl⟩
      rw [ex] at g1 hx; rw [ey] at g2 hx
      (simp only [go_sem, Nat.reduceAdd, Nat.reduceMul, Int.reduceToNat, Nat.reduceLeDiff, Int.reduceLE, Int.reduceLT, ↓reduceIte, Int.reduceBEq, Int.reduceBNe, Int.reduceAdd, Int.reduceSub, Int.reduceMul, q1, g1, bts_length, Int.toNat_natCast]; try refine okTr_and rfl ?_)
      (repeat ((with_reducible refine And.intro ?_ ?_); (· exact sd)))
      (simp only [go_sem, Nat.reduceAdd, Nat.reduceMul, Int.reduceToNat, Nat.reduceLeDiff, Int.reduceLE, Int.reduceLT, ↓reduceIte, Int.reduceBEq, Int.reduceBNe, Int.reduceAdd, Int.reduceSub, Int.reduceMul, g2, bts_length, Int.toNat_natCast]; try refine okTr_and rfl ?_)
      (repeat ((with_reducible refine And.intro ?_ ?_); (· exact sd)))
      refine CallK.p (hx) ?_
      cases hq : eq x y with
      | true =>
        have hxy := (he x y).1 hq
        (simp only [go_sem, Nat.reduceAdd, Nat.reduceMul, Int.reduceToNat, Nat.reduceLeDiff, Int.reduceLE, Int.reduceLT, ↓reduceIte, Int.reduceBEq, Int.reduceBNe, Int.reduceAdd, Int.reduceSub, Int.reduceMul, hq, ei]; try refine okTr_and rfl ?_)
        exact ⟨k + 1, ⟨hlt, fun i hi => by
          rcases Nat.lt_or_ge i k with h | h
          · exact hall i h
          · obtain rfl : i = k := by omega
            rw [ex, ey, hxy]⟩, by omega, Wk.sel [] (by simp) rfl (by simp) rfl (by simp) (by simp [selT, ixs_z])⟩
      | false =>
        have hne := hno (by rintro rfl; rw [ex] at ey; rw [(he x y).2 ey] at hq; cases hq)
        (simp only [go_sem, Nat.reduceAdd, Nat.reduceMul, Int.reduceToNat, Nat.reduceLeDiff, Int.reduceLE, Int.reduceLT, ↓reduceIte, Int.reduceBEq, Int.reduceBNe, Int.reduceAdd, Int.reduceSub, Int.reduceMul, hq]; try refine okTr_and rfl ?_)
        ((refine FinK.finB r97 [] ?_ ?_); (· first | with_reducible rfl | (simp [hne]; done) | rfl); (· simp [resAL, resA1, loadA, oneOr, hne]))
    · have q1 : decide ((k : Int) < (a.length : Int)) = false := decide_eq_false (by omega)
      have hyes : eqL = true := hL.2 (List.ext_getElem (by omega) fun i h1 h2 => by
        have := hall i (by omega)
        simpa [h1, h2] using this)
      (simp only [go_sem, Nat.reduceAdd, Nat.reduceMul, Int.reduceToNat, Nat.reduceLeDiff, Int.reduceLE, Int.reduceLT, ↓reduceIte, Int.reduceBEq, Int.reduceBNe, Int.reduceAdd, Int.reduceSub, Int.reduceMul, q1]; try refine okTr_and rfl ?_)
      ((refine FinK.finB r97 [] ?_ ?_); (· first | with_reducible rfl | (simp [hyes]; done) | rfl); (· simp [resAL, resA1, loadA, oneOr, hyes]))
  · have q0 : ((a.length : Int) != (b.length : Int)) = true := by simpa using hlen
    have hne := hno (by rintro rfl; exact hlen rfl)
    (simp only [go_sem, Nat.reduceAdd, Nat.reduceMul, Int.reduceToNat, Nat.reduceLeDiff, Int.reduceLE, Int.reduceLT, ↓reduceIte, Int.reduceBEq, Int.reduceBNe, Int.reduceAdd, Int.reduceSub, Int.reduceMul, q0]; try refine okTr_and rfl ?_)
    ((refine FinK.finB r97 [] ?_ ?_); (· first | with_reducible rfl | (simp [hne]; done) | rfl); (· simp [resAL, resA1, loadA, oneOr, hne]))
theorem EqualFuncBt (f : FuncId) (eq : Bt → Bt → Bool) (he : ∀ x y, eq x y = true ↔ x = y) (a b : List Bt) (hf : ∀ x ∈ a, ∀ y ∈ b, Ct Tryz.prog f [btA x, btA y] [] (fun _ => bA (eq x y)) [] (fun _ => [])) (eqL : Bool) (hL : eqL = true ↔ a = b) (hn : a.length ≤ 1000000) : Ct Tryz.prog 97 [slB a, slB b, .fn f [] []] [] (fun _ => bA eqL) [] (fun _ => []) := (EqualFuncBt0 f eq he a b hf eqL hL hn).toCt cl cl

def same2 (u v : Sg2) : Bool := decide (u = v)
theorem same2_self (u : Sg2) : same2 u u = true := by simp [same2]
theorem legacy_Same20 (u v : Sg2) (hn : u.bt.length ≤ 1000000) (hs : ∀ b ∈ u.bt, SmallB b) (hu : Bts u.bt) (hv : Bts v.bt) : Does Tryz.prog 25 [sg2A u, sg2A v] [] (bA (same2 u v)) [] := by
  refine Does.runA Tryz.func25 b25 n25 Tryz.ntmps25 ?_; simp only [c25, go_sem, Nat.reduceAdd, Nat.reduceMul, Int.reduceToNat, Nat.reduceLeDiff, Int.reduceLE, Int.reduceLT, ↓reduceIte, Int.reduceBEq, Int.reduceBNe, Int.reduceAdd, Int.reduceSub, Int.reduceMul]; try refine okTr_and rfl ?_
  by_cases c0 : u.ep = v.ep
  · have q0 : (u.ep == v.ep) = true := by simpa using c0
    have e : same2 u v = true ↔ u.bt = v.bt := by
      unfold same2
      rw [decide_eq_true_eq]
      cases u; cases v; simp only at c0; simp [c0]
    (simp only [go_sem, Nat.reduceAdd, Nat.reduceMul, Int.reduceToNat, Nat.reduceLeDiff, Int.reduceLE, Int.reduceLT, ↓reduceIte, Int.reduceBEq, Int.reduceBNe, Int.reduceAdd, Int.reduceSub, Int.reduceMul, q0]; try refine okTr_and rfl ?_)
    refine CallK.p (EqualFuncBt 98 sameBt sameBt_iff u.bt v.bt (fun x hx y hy => batch_Same x y (hs x hx) (hu x hx).en (hv y hy).en) (same2 u v) e hn) ?_; (simp only [go_sem, Nat.reduceAdd, Nat.reduceMul, Int.reduceToNat, Nat.reduceLeDiff, Int.reduceLE, Int.reduceLT, ↓reduceIte, Int.reduceBEq, Int.reduceBNe, Int.reduceAdd, Int.reduceSub, Int.reduceMul]; try refine okTr_and rfl ?_)
    exact FinK.finA r25 []
  · have q0 : (u.ep == v.ep) = false := by simpa using c0
    have e : same2 u v = false := by simp only [same2, decide_eq_false_iff_not]; rintro rfl; exact c0 rfl
    (simp only [go_sem, Nat.reduceAdd, Nat.reduceMul, Int.reduceToNat, Nat.reduceLeDiff, Int.reduceLE, Int.reduceLT, ↓reduceIte, Int.reduceBEq, Int.reduceBNe, Int.reduceAdd, Int.reduceSub, Int.reduceMul, q0]; try refine okTr_and rfl ?_)
    ((refine FinK.finB r25 [] ?_ ?_); (· first | with_reducible rfl | (simp [e]; done) | rfl); (· simp [resAL, resA1, loadA, oneOr, e]))
theorem legacy_Same2 (u v : Sg2) (hn : u.bt.length ≤ 1000000) (hs : ∀ b ∈ u.bt, SmallB b) (hu : Bts u.bt) (hv : Bts v.bt) : Ct Tryz.prog 25 [sg2A u, sg2A v] [] (fun _ => bA (same2 u v)) [] (fun _ => []) := (legacy_Same20 u v hn hs hu hv).toCt cl cl
set_option maxRecDepth 100000 in
theorem ref34_Same0 (u v : Sg2) (hn : u.bt.length ≤ 1000000) (hs : ∀ b ∈ u.bt, SmallB b) (hu : Bts u.bt) (hv : Bts v.bt) : Does Tryz.prog 65 [sg2A u, sg2A v] [] (bA (same2 u v)) [] := by
  have hno : ¬ u = v → same2 u v = false := fun h => by simp [same2, h]
  refine Does.runA Tryz.func65 b65 n65 Tryz.ntmps65 ?_; simp only [c65, go_sem, Nat.reduceAdd, Nat.reduceMul, Int.reduceToNat, Nat.reduceLeDiff, Int.reduceLE, Int.reduceLT, ↓reduceIte, Int.reduceBEq, Int.reduceBNe, Int.reduceAdd, Int.reduceSub, Int.reduceMul]; try refine okTr_and rfl ?_
  by_cases c0 : u.ep = v.ep
  · have q0 : (u.ep != v.ep) = false := by simpa using c0
    by_cases hlen : u.bt.length = v.bt.length
    · have q2 : ((u.bt.length : Int) != (v.bt.length : Int)) = false := by simp; omega
      (simp only [go_sem, Nat.reduceAdd, Nat.reduceMul, Int.reduceToNat, Nat.reduceLeDiff, Int.reduceLE, Int.reduceLT, ↓reduceIte, Int.reduceBEq, Int.reduceBNe, Int.reduceAdd, Int.reduceSub, Int.reduceMul, q0, bts_length, q2]; try refine okTr_and rfl ?_)
      refine loop_of (α := Nat) (fun k => [.any, .any, .ref 0 0, .ref 1 0, .any, iA k, .any, .any, .any, .any, .any, .any, .any, .any, .any, .any, .any, .any, .any, .any, .any, .any, .any, .any, .any, .any, .any, .any, .any, .any, .any, .any, .any, .any, .any, .any, .any, .any, .any]) (fun _ => [sg2O u, sg2O v]) (fun k => k ≤ u.bt.length ∧ ∀ i, i < k → u.bt.getD i bt0 = v.bt.getD i bt0) (fun k => u.bt.length - k) 0 ⟨by simp, fun i hi => by omega⟩ (Wk.to (by simp) (by simp [leT])) ?_
      rintro k ⟨hk, hall⟩
      (simp only [go_sem, Nat.reduceAdd, Nat.reduceMul, Int.reduceToNat, Nat.reduceLeDiff, Int.reduceLE, Int.reduceLT, ↓reduceIte, Int.reduceBEq, Int.reduceBNe, Int.reduceAdd, Int.reduceSub, Int.reduceMul, bts_length]; try refine okTr_and rfl ?_)
      by_cases hlt : k < u.bt.length
      · have p1 : decide ((k : Int) < (u.bt.length : Int)) = true := decide_eq_true (by omega)
        have ek := i64_succ k (by omega)
        have g1 := bts_get u.bt k hlt
        have g2 := bts_get v.bt k (by omega)
        have m1 := bt_mem u.bt k hlt
        have m2 := bt_mem v.bt k (by omega)
        have hc := ref25_Same _ _ (hs _ m1) (hu _ m1).en (hv _ m2).en
        obtain ⟨x, ex⟩ : ∃ x, u.bt.getD k bt0 = x := ⟨_, rfl⟩
        obtain ⟨y, ey⟩ : ∃ y, v.bt.getD k bt0 = y := ⟨_, rfl⟩
        rw [ex] at g1 hc; rw [ey] at g2 hc
        (simp only [go_sem, Nat.reduceAdd, Nat.reduceMul, Int.reduceToNat, Nat.reduceLeDiff, Int.reduceLE, Int.reduceLT, ↓reduceIte, Int.reduceBEq, Int.reduceBNe, Int.reduceAdd, Int.reduceSub, Int.reduceMul, p1, g1, g2, bts_length, Int.toNat_natCast]; try refine okTr_and rfl ?_)
        (repeat ((with_reducible refine And.intro ?_ ?_); (· exact sd)))
        refine CallK.p (hc) ?_
        cases hq : sameBt x y with
        | true =>
          have hxy := (sameBt_iff x y).1 hq
          (simp only [go_sem, Nat.reduceAdd, Nat.reduceMul, Int.reduceToNat, Nat.reduceLeDiff, Int.reduceLE, Int.reduceLT, ↓reduceIte, Int.reduceBEq, Int.reduceBNe, Int.reduceAdd, Int.reduceSub, Int.reduceMul, hq, ek]; try refine okTr_and rfl ?_)
          (repeat ((with_reducible refine And.intro ?_ ?_); (· exact sd)))
          exact ⟨k + 1, ⟨hlt, fun i hi => by
            rcases Nat.lt_or_ge i k with h | h
            · exact hall i h
            · obtain rfl : i = k := by omega
              rw [ex, ey, hxy]⟩, by omega, Wk.to (by simp) (by simp [leT])⟩
        | false =>
          have e := hno (by rintro rfl; rw [ex] at ey; rw [(sameBt_iff x y).2 ey] at hq; cases hq)
          (simp only [go_sem, Nat.reduceAdd, Nat.reduceMul, Int.reduceToNat, Nat.reduceLeDiff, Int.reduceLE, Int.reduceLT, ↓reduceIte, Int.reduceBEq, Int.reduceBNe, Int.reduceAdd, Int.reduceSub, Int.reduceMul, hq]; try refine okTr_and rfl ?_)
          (repeat ((with_reducible refine And.intro ?_ ?_); (· exact sd)))
          ((refine FinK.finB r65 [] ?_ ?_); (· first | with_reducible rfl | (simp [e]; done) | rfl); (· simp [resAL, resA1, loadA, oneOr, e]))
      · have p1 : decide ((k : Int) < (u.bt.length : Int)) = false := decide_eq_false (by omega)
        have e : same2 u v = true := by
          have hen : u.bt = v.bt := List.ext_getElem hlen fun i h1 h2 => by
            have := hall i (by omega)
            simpa [h1, h2] using this
          simp only [same2, decide_eq_true_eq]
          cases u; cases v; simp only at c0 hen; simp [c0, hen]
        (simp only [go_sem, Nat.reduceAdd, Nat.reduceMul, Int.reduceToNat, Nat.reduceLeDiff, Int.reduceLE, Int.reduceLT, ↓reduceIte, Int.reduceBEq, Int.reduceBNe, Int.reduceAdd, Int.reduceSub, Int.reduceMul, p1]; try refine okTr_and rfl ?_)
        ((refine FinK.finB r65 [] ?_ ?_); (· first | with_reducible rfl | (simp [e]; done) | rfl); (· simp [resAL, resA1, loadA, oneOr, e]))
    · have q2 : ((u.bt.length : Int) != (v.bt.length : Int)) = true := by simp; omega
      have e := hno (by rintro rfl; exact hlen rfl)
      (simp only [go_sem, Nat.reduceAdd, Nat.reduceMul, Int.reduceToNat, Nat.reduceLeDiff, Int.reduceLE, Int.reduceLT, ↓reduceIte, Int.reduceBEq, Int.reduceBNe, Int.reduceAdd, Int.reduceSub, Int.reduceMul, q0, bts_length, q2]; try refine okTr_and rfl ?_)
      ((refine FinK.finB r65 [] ?_ ?_); (· first | with_reducible rfl | (simp [e]; done) | rfl); (· simp [resAL, resA1, loadA, oneOr, e]))
  · have q0 : (u.ep != v.ep) = true := by simpa using c0
    have e := hno (by rintro rfl; exact c0 rfl)
    (simp only [go_sem, Nat.reduceAdd, Nat.reduceMul, Int.reduceToNat, Nat.reduceLeDiff, Int.reduceLE, Int.reduceLT, ↓reduceIte, Int.reduceBEq, Int.reduceBNe, Int.reduceAdd, Int.reduceSub, Int.reduceMul, q0]; try refine okTr_and rfl ?_)
    ((refine FinK.finB r65 [] ?_ ?_); (· first | with_reducible rfl | (simp [e]; done) | rfl); (· simp [resAL, resA1, loadA, oneOr, e]))
theorem ref34_Same (u v : Sg2) (hn : u.bt.length ≤ 1000000) (hs : ∀ b ∈ u.bt, SmallB b) (hu : Bts u.bt) (hv : Bts v.bt) : Ct Tryz.prog 65 [sg2A u, sg2A v] [] (fun _ => bA (same2 u v)) [] (fun _ => []) := (ref34_Same0 u v hn hs hu hv).toCt cl cl
theorem ref35_Same20 (u v : Sg2) (hn : u.bt.length ≤ 1000000) (hs : ∀ b ∈ u.bt, SmallB b) (hu : Bts u.bt) (hv : Bts v.bt) : Does Tryz.prog 13 [sg2A u, sg2A v] [] (bA (same2 u v)) [] := by
  refine Does.runA Tryz.func13 b13 n13 Tryz.ntmps13 ?_; simp only [c13, go_sem, Nat.reduceAdd, Nat.reduceMul, Int.reduceToNat, Nat.reduceLeDiff, Int.reduceLE, Int.reduceLT, ↓reduceIte, Int.reduceBEq, Int.reduceBNe, Int.reduceAdd, Int.reduceSub, Int.reduceMul]; try refine okTr_and rfl ?_
  refine CallK.p (ref34_Same u v hn hs hu hv) ?_; (simp only [go_sem, Nat.reduceAdd, Nat.reduceMul, Int.reduceToNat, Nat.reduceLeDiff, Int.reduceLE, Int.reduceLT, ↓reduceIte, Int.reduceBEq, Int.reduceBNe, Int.reduceAdd, Int.reduceSub, Int.reduceMul]; try refine okTr_and rfl ?_)
  exact FinK.finA r13 []
theorem ref35_Same2 (u v : Sg2) (hn : u.bt.length ≤ 1000000) (hs : ∀ b ∈ u.bt, SmallB b) (hu : Bts u.bt) (hv : Bts v.bt) : Ct Tryz.prog 13 [sg2A u, sg2A v] [] (fun _ => bA (same2 u v)) [] (fun _ => []) := (ref35_Same20 u v hn hs hu hv).toCt cl cl
end Go.Proofs.YtnfagphepkeedaaGreat
end
