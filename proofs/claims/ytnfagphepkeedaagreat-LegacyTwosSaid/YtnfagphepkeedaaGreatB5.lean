/-
  Contracts of chapter 35: which batches are well-formed, and may stand behind others.
  Contracts of chapter 35: which segments of the version 2 are well-formed; long ones.
  Contracts of chapter 35: a batch as the version 2 writes it, read.
  Contracts of footer.Find.
  Contracts of chapter 35: a segment of the version 2 read.
  Contracts of chapter 35: a segment of the version 2 read by the reference.
  Contracts of chapter 35: a segment of the version 2 written; by the reference.
  Chapter 35: LegacyReads, LegacyOnce, LegacyOnes, LegacyTwos.
  What arguments of any shape are, told as abstract values: integers, slices, structs of these, one within the other.
  Contracts of chapter 8: where frames begin, by the code and by the reference; live.
  Chapter 8: FrameWrites, FrameReads, FrameBack, FrameTells.
  An element of a row of numbers.
  Chapter 8: FrameTells, FrameScans, FrameFinds.
  Chapter 8: FrameFinds.
  Arguments that are rows of bytes, or two numbers.
  Arguments that are links, or entries.
  Arguments that are rows of entries, or of ints.
  Arguments that are segments of the elder versions.
  What a function reaches, read off a table of where each function leads: the cells inPlace, unfollowed, recurses, named of a row, without walking the texts again for each row.
  Closed facts on the program of this seat: where each function leads, and what it names.
  The closed facts of the row of LegacyTwos.
-/
import Derived.Test.YtnfagphepkeedaaGreatB4
import Derived.Test.YtnfagphepkeedaaGreatB2
import Derived.Test.YtnfagphepkeedaaGreatB3
import Derived.Test.YtnfagphepkeedaaGreatB1
set_option linter.all false
set_option linter.unusedSimpArgs false
set_option linter.unusedVariables false
set_option linter.unnecessarySimpa false
section
namespace Go.Proofs.YtnfagphepkeedaaGreat
open Go.RowKit

theorem fitsN_no {base n : Int} (h : n < 1 ∨ 16 < n ∨ fitsB base n = false) : fitsN base n = false := by
  unfold fitsN
  rcases h with h | h | h
  · rw [decide_eq_false (by omega)]; rfl
  · rw [decide_eq_false (by omega)]; rfl
  · rw [h, Bool.and_false]
theorem fitsN_yes {base n : Int} (h1 : 1 ≤ n) (h2 : n ≤ 16) : fitsN base n = fitsB base n := by
  unfold fitsN; rw [decide_eq_true ⟨h1, h2⟩, Bool.true_and]
theorem batch_fits0 (base n : Int) (b0 : 0 ≤ base) (b1 : base < 18446744073709551616) : Does Tryz.prog 145 [uA base, iA n] [] (bA (fitsN base n)) [] := by
  refine Does.runA Tryz.func145 b145 n145 Tryz.ntmps145 ?_; simp only [c145, go_sem, Nat.reduceAdd, Nat.reduceMul, Int.reduceToNat, Nat.reduceLeDiff, Int.reduceLE, Int.reduceLT, ↓reduceIte, Int.reduceBEq, Int.reduceBNe, Int.reduceAdd, Int.reduceSub, Int.reduceMul]; try refine okTr_and rfl ?_
  by_cases h1 : 1 ≤ n
  · have q1 : decide (1 ≤ n) = true := decide_eq_true h1
    by_cases h2 : n ≤ 16
    · have q2 : decide (n ≤ 16) = true := decide_eq_true h2
      have w0 : IntKind.u64.wrap n = n := IntWalk.u64_in _ (by omega)
      have ey := fitsN_yes (base := base) h1 h2
      (simp only [go_sem, Nat.reduceAdd, Nat.reduceMul, Int.reduceToNat, Nat.reduceLeDiff, Int.reduceLE, Int.reduceLT, ↓reduceIte, Int.reduceBEq, Int.reduceBNe, Int.reduceAdd, Int.reduceSub, Int.reduceMul, q1, q2]; try refine okTr_and rfl ?_)
      refine CallK.p (epoch_Pos base) ?_
      by_cases h : base < 4611686018427387904
      · have e : epPos base = true := epPos_iff.2 h
        have w1 : IntKind.u64.wrap (base + n) = base + n := IntWalk.u64_in _ (by omega)
        have ef : decide (base + n ≤ 4611686018427387904) = fitsN base n := by rw [ey]; unfold fitsB; rw [decide_eq_true h]; rfl
        (simp only [go_sem, Nat.reduceAdd, Nat.reduceMul, Int.reduceToNat, Nat.reduceLeDiff, Int.reduceLE, Int.reduceLT, ↓reduceIte, Int.reduceBEq, Int.reduceBNe, Int.reduceAdd, Int.reduceSub, Int.reduceMul, e, w0, w1, ef]; try refine okTr_and rfl ?_)
        exact FinK.finA r145 []
      · have e : epPos base = false := by unfold epPos; exact decide_eq_false h
        have ef : fitsN base n = false := by rw [ey]; unfold fitsB; rw [decide_eq_false h]; rfl
        (simp only [go_sem, Nat.reduceAdd, Nat.reduceMul, Int.reduceToNat, Nat.reduceLeDiff, Int.reduceLE, Int.reduceLT, ↓reduceIte, Int.reduceBEq, Int.reduceBNe, Int.reduceAdd, Int.reduceSub, Int.reduceMul, e]; try refine okTr_and rfl ?_)
        ((refine FinK.finB r145 [] ?_ ?_); (· first | with_reducible rfl | (simp [ef]; done) | rfl); (· simp [resAL, resA1, loadA, oneOr, ef]))
    · have q2 : decide (n ≤ 16) = false := decide_eq_false h2
      have ef := fitsN_no (base := base) (n := n) (.inr (.inl (by omega)))
      (simp only [go_sem, Nat.reduceAdd, Nat.reduceMul, Int.reduceToNat, Nat.reduceLeDiff, Int.reduceLE, Int.reduceLT, ↓reduceIte, Int.reduceBEq, Int.reduceBNe, Int.reduceAdd, Int.reduceSub, Int.reduceMul, q1, q2]; try refine okTr_and rfl ?_)
      ((refine FinK.finB r145 [] ?_ ?_); (· first | with_reducible rfl | (simp [ef]; done) | rfl); (· simp [resAL, resA1, loadA, oneOr, ef]))
  · have q1 : decide (1 ≤ n) = false := decide_eq_false h1
    have ef := fitsN_no (base := base) (n := n) (.inl (by omega))
    (simp only [go_sem, Nat.reduceAdd, Nat.reduceMul, Int.reduceToNat, Nat.reduceLeDiff, Int.reduceLE, Int.reduceLT, ↓reduceIte, Int.reduceBEq, Int.reduceBNe, Int.reduceAdd, Int.reduceSub, Int.reduceMul, q1]; try refine okTr_and rfl ?_)
    ((refine FinK.finB r145 [] ?_ ?_); (· first | with_reducible rfl | (simp [ef]; done) | rfl); (· simp [resAL, resA1, loadA, oneOr, ef]))
theorem batch_fits (base n : Int) (b0 : 0 ≤ base) (b1 : base < 18446744073709551616) : Ct Tryz.prog 145 [uA base, iA n] [] (fun _ => bA (fitsN base n)) [] (fun _ => []) := (batch_fits0 base n b0 b1).toCt cl cl
theorem ref25_Fits0 (base n : Int) (b0 : 0 ≤ base) (b1 : base < 18446744073709551616) : Does Tryz.prog 139 [uA base, iA n] [] (bA (fitsN base n)) [] := by
  refine Does.runA Tryz.func139 b139 n139 Tryz.ntmps139 ?_; simp only [c139, go_sem, Nat.reduceAdd, Nat.reduceMul, Int.reduceToNat, Nat.reduceLeDiff, Int.reduceLE, Int.reduceLT, ↓reduceIte, Int.reduceBEq, Int.reduceBNe, Int.reduceAdd, Int.reduceSub, Int.reduceMul]; try refine okTr_and rfl ?_
  by_cases h1 : 1 ≤ n
  · have q1 : decide (1 ≤ n) = true := decide_eq_true h1
    by_cases h2 : n ≤ 16
    · have q2 : decide (n ≤ 16) = true := decide_eq_true h2
      have w0 : IntKind.u64.wrap n = n := IntWalk.u64_in _ (by omega)
      have ey := fitsN_yes (base := base) h1 h2
      (simp only [go_sem, Nat.reduceAdd, Nat.reduceMul, Int.reduceToNat, Nat.reduceLeDiff, Int.reduceLE, Int.reduceLT, ↓reduceIte, Int.reduceBEq, Int.reduceBNe, Int.reduceAdd, Int.reduceSub, Int.reduceMul, q1, q2]; try refine okTr_and rfl ?_)
      refine CallK.p (ref17_Pos base) ?_
      by_cases h : base < 4611686018427387904
      · have e : epPos base = true := epPos_iff.2 h
        have w1 : IntKind.u64.wrap (4611686018427387904 - base) = 4611686018427387904 - base := IntWalk.u64_in _ (by omega)
        have ef : decide (n ≤ 4611686018427387904 - base) = fitsN base n := by
          rw [ey]; unfold fitsB; rw [decide_eq_true h, Bool.true_and]
          by_cases h2 : n ≤ 4611686018427387904 - base
          · rw [decide_eq_true h2, decide_eq_true (by omega)]
          · rw [decide_eq_false h2, decide_eq_false (by omega)]
        (simp only [go_sem, Nat.reduceAdd, Nat.reduceMul, Int.reduceToNat, Nat.reduceLeDiff, Int.reduceLE, Int.reduceLT, ↓reduceIte, Int.reduceBEq, Int.reduceBNe, Int.reduceAdd, Int.reduceSub, Int.reduceMul, e, w0, w1, ef]; try refine okTr_and rfl ?_)
        exact FinK.finA r139 []
      · have e : epPos base = false := by unfold epPos; exact decide_eq_false h
        have ef : fitsN base n = false := by rw [ey]; unfold fitsB; rw [decide_eq_false h]; rfl
        (simp only [go_sem, Nat.reduceAdd, Nat.reduceMul, Int.reduceToNat, Nat.reduceLeDiff, Int.reduceLE, Int.reduceLT, ↓reduceIte, Int.reduceBEq, Int.reduceBNe, Int.reduceAdd, Int.reduceSub, Int.reduceMul, e]; try refine okTr_and rfl ?_)
        ((refine FinK.finB r139 [] ?_ ?_); (· first | with_reducible rfl | (simp [ef]; done) | rfl); (· simp [resAL, resA1, loadA, oneOr, ef]))
    · have q2 : decide (n ≤ 16) = false := decide_eq_false h2
      have ef := fitsN_no (base := base) (n := n) (.inr (.inl (by omega)))
      (simp only [go_sem, Nat.reduceAdd, Nat.reduceMul, Int.reduceToNat, Nat.reduceLeDiff, Int.reduceLE, Int.reduceLT, ↓reduceIte, Int.reduceBEq, Int.reduceBNe, Int.reduceAdd, Int.reduceSub, Int.reduceMul, q1, q2]; try refine okTr_and rfl ?_)
      ((refine FinK.finB r139 [] ?_ ?_); (· first | with_reducible rfl | (simp [ef]; done) | rfl); (· simp [resAL, resA1, loadA, oneOr, ef]))
  · have q1 : decide (1 ≤ n) = false := decide_eq_false h1
    have ef := fitsN_no (base := base) (n := n) (.inl (by omega))
    (simp only [go_sem, Nat.reduceAdd, Nat.reduceMul, Int.reduceToNat, Nat.reduceLeDiff, Int.reduceLE, Int.reduceLT, ↓reduceIte, Int.reduceBEq, Int.reduceBNe, Int.reduceAdd, Int.reduceSub, Int.reduceMul, q1]; try refine okTr_and rfl ?_)
    ((refine FinK.finB r139 [] ?_ ?_); (· first | with_reducible rfl | (simp [ef]; done) | rfl); (· simp [resAL, resA1, loadA, oneOr, ef]))
theorem ref25_Fits (base n : Int) (b0 : 0 ≤ base) (b1 : base < 18446744073709551616) : Ct Tryz.prog 139 [uA base, iA n] [] (fun _ => bA (fitsN base n)) [] (fun _ => []) := (ref25_Fits0 base n b0 b1).toCt cl cl
theorem rightB_no {b : Bt} (h : epRight b.ep = false ∨ fitsN b.base b.en.length = false ∨ 1048576 < (joinE b.en).length ∨ ∃ i, i < b.en.length ∧ rightE (b.base + i) (b.en.getD i en0) = false) : rightB b = false := by
  cases hr : rightB b with
  | false => rfl
  | true =>
    exfalso
    have h4 := (rightB_iff.1 hr).2.2.2
    unfold rightB at hr
    simp only [Bool.and_eq_true, decide_eq_true_eq] at hr
    obtain ⟨⟨⟨a, c⟩, d⟩, e⟩ := hr
    rcases h with h | h | h | ⟨i, hi, h⟩
    · rw [h] at a; cases a
    · rw [h] at c; cases c
    · omega
    · rw [h4 i hi] at h; cases h
theorem rightB_yes {b : Bt} (h1 : epRight b.ep = true) (h2 : fitsN b.base b.en.length = true) (h3 : (joinE b.en).length ≤ 1048576) (h4 : ∀ i, i < b.en.length → rightE (b.base + i) (b.en.getD i en0) = true) : rightB b = true := by
  unfold rightB
  simp only [Bool.and_eq_true, decide_eq_true_eq, List.all_eq_true, List.mem_range]
  exact ⟨⟨⟨h1, h2⟩, h3⟩, h4⟩
set_option maxHeartbeats 1000000 in
set_option maxRecDepth 100000 in
theorem batch_Right0 (b : Bt) (hb : b.ok) (hs : SmallB b) : Does Tryz.prog 96 [btA b] [] (bA (rightB b)) [] := by
  obtain ⟨n1, he, s1⟩ := hs
  refine Does.runA Tryz.func96 b96 n96 Tryz.ntmps96 ?_; simp only [c96, go_sem, Nat.reduceAdd, Nat.reduceMul, Int.reduceToNat, Nat.reduceLeDiff, Int.reduceLE, Int.reduceLT, ↓reduceIte, Int.reduceBEq, Int.reduceBNe, Int.reduceAdd, Int.reduceSub, Int.reduceMul]; try refine okTr_and rfl ?_
  refine CallK.p (epoch_Right b.ep) ?_
  cases h1 : epRight b.ep with
  | false =>
    have e := rightB_no (b := b) (.inl h1)
    (simp only [go_sem, Nat.reduceAdd, Nat.reduceMul, Int.reduceToNat, Nat.reduceLeDiff, Int.reduceLE, Int.reduceLT, ↓reduceIte, Int.reduceBEq, Int.reduceBNe, Int.reduceAdd, Int.reduceSub, Int.reduceMul, h1]; try refine okTr_and rfl ?_)
    ((refine FinK.finB r96 [] ?_ ?_); (· first | with_reducible rfl | (simp [e]; done) | rfl); (· simp [resAL, resA1, loadA, oneOr, e]))
  | true =>
    (simp only [go_sem, Nat.reduceAdd, Nat.reduceMul, Int.reduceToNat, Nat.reduceLeDiff, Int.reduceLE, Int.reduceLT, ↓reduceIte, Int.reduceBEq, Int.reduceBNe, Int.reduceAdd, Int.reduceSub, Int.reduceMul, h1, ens_length]; try refine okTr_and rfl ?_)
    refine CallK.p (batch_fits b.base b.en.length hb.b0 hb.b1) ?_
    cases h2 : fitsN b.base b.en.length with
    | false =>
      have e := rightB_no (b := b) (.inr (.inl h2))
      (simp only [go_sem, Nat.reduceAdd, Nat.reduceMul, Int.reduceToNat, Nat.reduceLeDiff, Int.reduceLE, Int.reduceLT, ↓reduceIte, Int.reduceBEq, Int.reduceBNe, Int.reduceAdd, Int.reduceSub, Int.reduceMul, h2]; try refine okTr_and rfl ?_)
      ((refine FinK.finB r96 [] ?_ ?_); (· first | with_reducible rfl | (simp [e]; done) | rfl); (· simp [resAL, resA1, loadA, oneOr, e]))
    | true =>
      obtain ⟨⟨f0, f1⟩, f2, f3⟩ := fitsN_iff.1 h2
      (simp only [go_sem, Nat.reduceAdd, Nat.reduceMul, Int.reduceToNat, Nat.reduceLeDiff, Int.reduceLE, Int.reduceLT, ↓reduceIte, Int.reduceBEq, Int.reduceBNe, Int.reduceAdd, Int.reduceSub, Int.reduceMul, h2]; try refine okTr_and rfl ?_)
      refine CallK.p (entry_Total b.en n1 (by omega)) ?_
      by_cases h3 : (joinE b.en).length ≤ 1048576
      · have q3 : decide (1048576 < ((joinE b.en).length : Int)) = false := decide_eq_false (by omega)
        (simp only [go_sem, Nat.reduceAdd, Nat.reduceMul, Int.reduceToNat, Nat.reduceLeDiff, Int.reduceLE, Int.reduceLT, ↓reduceIte, Int.reduceBEq, Int.reduceBNe, Int.reduceAdd, Int.reduceSub, Int.reduceMul, q3, ens_length]; try refine okTr_and rfl ?_)
        refine loop_of (α := Nat) (fun k => [.any, .ref 0 0, .any, .any, .any, .any, .any, .any, .any, .any, .any, .any, .any, .any, .any, .any, .any, .any, .any, .any, .any, .any, .any, .any, .any, slE b.en, iA b.en.length, iA k, .any, .any, .any, .any, .any, .any, .any, .any, .any, .any, .any, .any, .any]) (fun _ => [btO b]) (fun k => k ≤ b.en.length ∧ ∀ i, i < k → rightE (b.base + i) (b.en.getD i en0) = true) (fun k => b.en.length - k) 0 ⟨by simp, fun i hi => by omega⟩ (Wk.to (by simp) (by simp [leT])) ?_
        rintro k ⟨hk, hall⟩
        (simp only [go_sem, Nat.reduceAdd, Nat.reduceMul, Int.reduceToNat, Nat.reduceLeDiff, Int.reduceLE, Int.reduceLT, ↓reduceIte, Int.reduceBEq, Int.reduceBNe, Int.reduceAdd, Int.reduceSub, Int.reduceMul, ens_length]; try refine okTr_and rfl ?_)
        by_cases hlt : k < b.en.length
        · have q1 : decide ((k : Int) < (b.en.length : Int)) = true := decide_eq_true (by omega)
          have ek := i64_succ k (by omega)
          have g := ens_get b.en k hlt
          have b0 := hb.b0
          have wk : IntKind.u64.wrap (k : Int) = k := IntWalk.u64_in _ (by omega)
          have wp : IntKind.u64.wrap (b.base + (k : Int)) = b.base + k := IntWalk.u64_in _ (by omega)
          have hm := en_mem b.en k hlt
          have hc := entry_Right (b.base + k) (b.en.getD k en0) (hb.en _ hm) (he _ hm) (by omega) (by omega)
          (simp only [go_sem, Nat.reduceAdd, Nat.reduceMul, Int.reduceToNat, Nat.reduceLeDiff, Int.reduceLE, Int.reduceLT, ↓reduceIte, Int.reduceBEq, Int.reduceBNe, Int.reduceAdd, Int.reduceSub, Int.reduceMul, q1, g, ens_length, Int.toNat_natCast, wk, wp]; try refine okTr_and rfl ?_)
          (repeat ((with_reducible refine And.intro ?_ ?_); (· exact sd)))
          refine CallK.p (hc) ?_
          cases hq : rightE (b.base + k) (b.en.getD k en0) with
          | true =>
            (simp only [go_sem, Nat.reduceAdd, Nat.reduceMul, Int.reduceToNat, Nat.reduceLeDiff, Int.reduceLE, Int.reduceLT, ↓reduceIte, Int.reduceBEq, Int.reduceBNe, Int.reduceAdd, Int.reduceSub, Int.reduceMul, ek]; try refine okTr_and rfl ?_)
            (repeat ((with_reducible refine And.intro ?_ ?_); (· exact sd)))
            exact ⟨k + 1, ⟨hlt, fun i hi => by
              rcases Nat.lt_or_ge i k with h | h
              · exact hall i h
              · obtain rfl : i = k := by omega
                exact hq⟩, by omega, Wk.sel [0] (by simp) rfl (by simp) rfl (by simp [ixs_z]) (by simp [selT, ixs_z])⟩
          | false =>
            have e := rightB_no (b := b) (.inr (.inr (.inr ⟨k, hlt, hq⟩)))
            (simp only [go_sem, Nat.reduceAdd, Nat.reduceMul, Int.reduceToNat, Nat.reduceLeDiff, Int.reduceLE, Int.reduceLT, ↓reduceIte, Int.reduceBEq, Int.reduceBNe, Int.reduceAdd, Int.reduceSub, Int.reduceMul]; try refine okTr_and rfl ?_)
            (repeat ((with_reducible refine And.intro ?_ ?_); (· exact sd)))
            ((refine FinK.finB r96 [] ?_ ?_); (· first | with_reducible rfl | (simp [e]; done) | rfl); (· simp [resAL, resA1, loadA, oneOr, e]))
        · have q1 : decide ((k : Int) < (b.en.length : Int)) = false := decide_eq_false (by omega)
          have e := rightB_yes h1 h2 h3 fun i hi => hall i (by omega)
          (simp only [go_sem, Nat.reduceAdd, Nat.reduceMul, Int.reduceToNat, Nat.reduceLeDiff, Int.reduceLE, Int.reduceLT, ↓reduceIte, Int.reduceBEq, Int.reduceBNe, Int.reduceAdd, Int.reduceSub, Int.reduceMul, q1]; try refine okTr_and rfl ?_)
          ((refine FinK.finB r96 [] ?_ ?_); (· first | with_reducible rfl | (simp [e]; done) | rfl); (· simp [resAL, resA1, loadA, oneOr, e]))
      · have q3 : decide (1048576 < ((joinE b.en).length : Int)) = true := decide_eq_true (by omega)
        have e := rightB_no (b := b) (.inr (.inr (.inl (by omega))))
        (simp only [go_sem, Nat.reduceAdd, Nat.reduceMul, Int.reduceToNat, Nat.reduceLeDiff, Int.reduceLE, Int.reduceLT, ↓reduceIte, Int.reduceBEq, Int.reduceBNe, Int.reduceAdd, Int.reduceSub, Int.reduceMul, q3]; try refine okTr_and rfl ?_)
        ((refine FinK.finB r96 [] ?_ ?_); (· first | with_reducible rfl | (simp [e]; done) | rfl); (· simp [resAL, resA1, loadA, oneOr, e]))
theorem batch_Right (b : Bt) (hb : b.ok) (hs : SmallB b) : Ct Tryz.prog 96 [btA b] [] (fun _ => bA (rightB b)) [] (fun _ => []) := (batch_Right0 b hb hs).toCt cl cl
set_option maxHeartbeats 1000000 in
set_option maxRecDepth 100000 in
theorem ref25_Right0 (b : Bt) (hb : b.ok) (hs : SmallB b) : Does Tryz.prog 88 [btA b] [] (bA (rightB b)) [] := by
  obtain ⟨n1, he, s1⟩ := hs
  refine Does.runA Tryz.func88 b88 n88 Tryz.ntmps88 ?_; simp only [c88, go_sem, Nat.reduceAdd, Nat.reduceMul, Int.reduceToNat, Nat.reduceLeDiff, Int.reduceLE, Int.reduceLT, ↓reduceIte, Int.reduceBEq, Int.reduceBNe, Int.reduceAdd, Int.reduceSub, Int.reduceMul]; try refine okTr_and rfl ?_
  refine CallK.p (ref17_Right b.ep) ?_
  cases h1 : epRight b.ep with
  | false =>
    have e := rightB_no (b := b) (.inl h1)
    (simp only [go_sem, Nat.reduceAdd, Nat.reduceMul, Int.reduceToNat, Nat.reduceLeDiff, Int.reduceLE, Int.reduceLT, ↓reduceIte, Int.reduceBEq, Int.reduceBNe, Int.reduceAdd, Int.reduceSub, Int.reduceMul, h1]; try refine okTr_and rfl ?_)
    ((refine FinK.finB r88 [] ?_ ?_); (· first | with_reducible rfl | (simp [e]; done) | rfl); (· simp [resAL, resA1, loadA, oneOr, e]))
  | true =>
    (simp only [go_sem, Nat.reduceAdd, Nat.reduceMul, Int.reduceToNat, Nat.reduceLeDiff, Int.reduceLE, Int.reduceLT, ↓reduceIte, Int.reduceBEq, Int.reduceBNe, Int.reduceAdd, Int.reduceSub, Int.reduceMul, h1, ens_length]; try refine okTr_and rfl ?_)
    refine CallK.p (ref25_Fits b.base b.en.length hb.b0 hb.b1) ?_
    cases h2 : fitsN b.base b.en.length with
    | false =>
      have e := rightB_no (b := b) (.inr (.inl h2))
      (simp only [go_sem, Nat.reduceAdd, Nat.reduceMul, Int.reduceToNat, Nat.reduceLeDiff, Int.reduceLE, Int.reduceLT, ↓reduceIte, Int.reduceBEq, Int.reduceBNe, Int.reduceAdd, Int.reduceSub, Int.reduceMul, h2]; try refine okTr_and rfl ?_)
      ((refine FinK.finB r88 [] ?_ ?_); (· first | with_reducible rfl | (simp [e]; done) | rfl); (· simp [resAL, resA1, loadA, oneOr, e]))
    | true =>
      obtain ⟨⟨f0, f1⟩, f2, f3⟩ := fitsN_iff.1 h2
      (simp only [go_sem, Nat.reduceAdd, Nat.reduceMul, Int.reduceToNat, Nat.reduceLeDiff, Int.reduceLE, Int.reduceLT, ↓reduceIte, Int.reduceBEq, Int.reduceBNe, Int.reduceAdd, Int.reduceSub, Int.reduceMul, h2]; try refine okTr_and rfl ?_)
      refine CallK.n (ref24_Join b.en n1 s1) ?_; (simp only [go_sem, Nat.reduceAdd, Nat.reduceMul, Int.reduceToNat, Nat.reduceLeDiff, Int.reduceLE, Int.reduceLT, ↓reduceIte, Int.reduceBEq, Int.reduceBNe, Int.reduceAdd, Int.reduceSub, Int.reduceMul, ints_length]; try refine okTr_and rfl ?_)
      by_cases h3 : (joinE b.en).length ≤ 1048576
      · have q3 : decide (1048576 < ((joinE b.en).length : Int)) = false := decide_eq_false (by omega)
        (simp only [go_sem, Nat.reduceAdd, Nat.reduceMul, Int.reduceToNat, Nat.reduceLeDiff, Int.reduceLE, Int.reduceLT, ↓reduceIte, Int.reduceBEq, Int.reduceBNe, Int.reduceAdd, Int.reduceSub, Int.reduceMul, q3, ens_length]; try refine okTr_and rfl ?_)
        refine loop_of (α := Nat) (fun k => [.any, .ref 0 0, .any, iA k, .any, .any, .any, .any, .any, .any, .any, .any, .any, .any, .any, .any, .any, .any, .any, .any, .any, .any, .any, .any, .any, .any, .any, .any, .any, .any, .any, .any, .any, .any, .any, .any, .any, .any, .any, .any, .any, .any, .any]) (fun _ => [btO b]) (fun k => k ≤ b.en.length ∧ ∀ i, i < k → rightE (b.base + i) (b.en.getD i en0) = true) (fun k => b.en.length - k) 0 ⟨by simp, fun i hi => by omega⟩ (Wk.sel [0] (by simp) rfl (by simp) rfl (by simp [ixs_z]) (by simp [selT, ixs_z])) ?_
        rintro k ⟨hk, hall⟩
        (simp only [go_sem, Nat.reduceAdd, Nat.reduceMul, Int.reduceToNat, Nat.reduceLeDiff, Int.reduceLE, Int.reduceLT, ↓reduceIte, Int.reduceBEq, Int.reduceBNe, Int.reduceAdd, Int.reduceSub, Int.reduceMul, ens_length]; try refine okTr_and rfl ?_)
        by_cases hlt : k < b.en.length
        · have q1 : decide ((k : Int) < (b.en.length : Int)) = true := decide_eq_true (by omega)
          have ek := i64_succ k (by omega)
          have g := ens_get b.en k hlt
          have b0 := hb.b0
          have wk : IntKind.u64.wrap (k : Int) = k := IntWalk.u64_in _ (by omega)
          have wp : IntKind.u64.wrap (b.base + (k : Int)) = b.base + k := IntWalk.u64_in _ (by omega)
          have hm := en_mem b.en k hlt
          have hc := ref24_Right (b.base + k) (b.en.getD k en0) (he _ hm)
          (simp only [go_sem, Nat.reduceAdd, Nat.reduceMul, Int.reduceToNat, Nat.reduceLeDiff, Int.reduceLE, Int.reduceLT, ↓reduceIte, Int.reduceBEq, Int.reduceBNe, Int.reduceAdd, Int.reduceSub, Int.reduceMul, q1, g, ens_length, Int.toNat_natCast, wk, wp]; try refine okTr_and rfl ?_)
          (repeat ((with_reducible refine And.intro ?_ ?_); (· exact sd)))
          refine CallK.p (hc) ?_
          cases hq : rightE (b.base + k) (b.en.getD k en0) with
          | true =>
            (simp only [go_sem, Nat.reduceAdd, Nat.reduceMul, Int.reduceToNat, Nat.reduceLeDiff, Int.reduceLE, Int.reduceLT, ↓reduceIte, Int.reduceBEq, Int.reduceBNe, Int.reduceAdd, Int.reduceSub, Int.reduceMul, ek]; try refine okTr_and rfl ?_)
            (repeat ((with_reducible refine And.intro ?_ ?_); (· exact sd)))
            exact ⟨k + 1, ⟨hlt, fun i hi => by
              rcases Nat.lt_or_ge i k with h | h
              · exact hall i h
              · obtain rfl : i = k := by omega
                exact hq⟩, by omega, Wk.sel [0] (by simp) rfl (by simp) rfl (by simp [ixs_z]) (by simp [selT, ixs_z])⟩
          | false =>
            have e := rightB_no (b := b) (.inr (.inr (.inr ⟨k, hlt, hq⟩)))
            (simp only [go_sem, Nat.reduceAdd, Nat.reduceMul, Int.reduceToNat, Nat.reduceLeDiff, Int.reduceLE, Int.reduceLT, ↓reduceIte, Int.reduceBEq, Int.reduceBNe, Int.reduceAdd, Int.reduceSub, Int.reduceMul]; try refine okTr_and rfl ?_)
            (repeat ((with_reducible refine And.intro ?_ ?_); (· exact sd)))
            ((refine FinK.finB r88 [] ?_ ?_); (· first | with_reducible rfl | (simp [e]; done) | rfl); (· simp [resAL, resA1, loadA, oneOr, e]))
        · have q1 : decide ((k : Int) < (b.en.length : Int)) = false := decide_eq_false (by omega)
          have e := rightB_yes h1 h2 h3 fun i hi => hall i (by omega)
          (simp only [go_sem, Nat.reduceAdd, Nat.reduceMul, Int.reduceToNat, Nat.reduceLeDiff, Int.reduceLE, Int.reduceLT, ↓reduceIte, Int.reduceBEq, Int.reduceBNe, Int.reduceAdd, Int.reduceSub, Int.reduceMul, q1]; try refine okTr_and rfl ?_)
          ((refine FinK.finB r88 [] ?_ ?_); (· first | with_reducible rfl | (simp [e]; done) | rfl); (· simp [resAL, resA1, loadA, oneOr, e]))
      · have q3 : decide (1048576 < ((joinE b.en).length : Int)) = true := decide_eq_true (by omega)
        have e := rightB_no (b := b) (.inr (.inr (.inl (by omega))))
        (simp only [go_sem, Nat.reduceAdd, Nat.reduceMul, Int.reduceToNat, Nat.reduceLeDiff, Int.reduceLE, Int.reduceLT, ↓reduceIte, Int.reduceBEq, Int.reduceBNe, Int.reduceAdd, Int.reduceSub, Int.reduceMul, q3]; try refine okTr_and rfl ?_)
        ((refine FinK.finB r88 [] ?_ ?_); (· first | with_reducible rfl | (simp [e]; done) | rfl); (· simp [resAL, resA1, loadA, oneOr, e]))
theorem ref25_Right (b : Bt) (hb : b.ok) (hs : SmallB b) : Ct Tryz.prog 88 [btA b] [] (fun _ => bA (rightB b)) [] (fun _ => []) := (ref25_Right0 b hb hs).toCt cl cl
theorem legacy_allLk0 (f : FuncId) (ok : Lk → Bool) (l : List Lk) (hf : ∀ k, k < l.length → Ct Tryz.prog f [iA k, lkA (l.getD k lk0)] [] (fun _ => bA (ok (l.getD k lk0))) [] (fun _ => [])) (hn : l.length ≤ 1000000) :
    Does Tryz.prog 143 [slL l, .fn f [] []] [] (bA (l.all ok)) [] := by
  refine Does.runA Tryz.func143 b143 n143 Tryz.ntmps143 ?_; simp only [c143, go_sem, Nat.reduceAdd, Nat.reduceMul, Int.reduceToNat, Nat.reduceLeDiff, Int.reduceLE, Int.reduceLT, ↓reduceIte, Int.reduceBEq, Int.reduceBNe, Int.reduceAdd, Int.reduceSub, Int.reduceMul, lks_length]; try refine okTr_and rfl ?_
  refine loop_of (α := Nat) (fun k => [slL l, .fn f [] [], .any, .any, .any, .any, .any, slL l, iA l.length, iA k, .any, .any, .any, .any, .any, .any, .any, .any, .any, .any]) (fun _ => []) (fun k => k ≤ l.length ∧ ∀ i, i < k → ok (l.getD i lk0) = true) (fun k => l.length - k) 0 ⟨by simp, fun i hi => by omega⟩ (Wk.to (by simp) (by simp [leT])) ?_
  rintro k ⟨hk, hall⟩
  (simp only [go_sem, Nat.reduceAdd, Nat.reduceMul, Int.reduceToNat, Nat.reduceLeDiff, Int.reduceLE, Int.reduceLT, ↓reduceIte, Int.reduceBEq, Int.reduceBNe, Int.reduceAdd, Int.reduceSub, Int.reduceMul]; try refine okTr_and rfl ?_)
  by_cases hlt : k < l.length
  · have q1 : decide ((k : Int) < (l.length : Int)) = true := decide_eq_true (by omega)
    have ek := i64_succ k (by omega)
    have g := lks_get l k hlt
    have hfx := hf k hlt
    (simp only [go_sem, Nat.reduceAdd, Nat.reduceMul, Int.reduceToNat, Nat.reduceLeDiff, Int.reduceLE, Int.reduceLT, ↓reduceIte, Int.reduceBEq, Int.reduceBNe, Int.reduceAdd, Int.reduceSub, Int.reduceMul, q1, g, lks_length, Int.toNat_natCast]; try refine okTr_and rfl ?_)
    (repeat ((with_reducible refine And.intro ?_ ?_); (· exact sd)))
    refine CallK.p (hfx) ?_
    cases hs : ok (l.getD k lk0) with
    | false =>
      have e : l.all ok = false := by
        rw [List.all_eq_false]
        exact ⟨l.getD k lk0, by simp [hlt], by rw [hs]; decide⟩
      (simp only [go_sem, Nat.reduceAdd, Nat.reduceMul, Int.reduceToNat, Nat.reduceLeDiff, Int.reduceLE, Int.reduceLT, ↓reduceIte, Int.reduceBEq, Int.reduceBNe, Int.reduceAdd, Int.reduceSub, Int.reduceMul, hs]; try refine okTr_and rfl ?_)
      ((refine FinK.finB r143 [] ?_ ?_); (· first | with_reducible rfl | (simp [e]; done) | rfl); (· simp [resAL, resA1, loadA, oneOr, e]))
    | true =>
      (simp only [go_sem, Nat.reduceAdd, Nat.reduceMul, Int.reduceToNat, Nat.reduceLeDiff, Int.reduceLE, Int.reduceLT, ↓reduceIte, Int.reduceBEq, Int.reduceBNe, Int.reduceAdd, Int.reduceSub, Int.reduceMul, hs, ek]; try refine okTr_and rfl ?_)
      exact ⟨k + 1, ⟨hlt, fun i hi => by
        rcases Nat.lt_or_ge i k with h | h
        · exact hall i h
        · obtain rfl : i = k := by omega
          exact hs⟩, by omega, Wk.sel [] (by simp) rfl (by simp) rfl (by simp) (by simp [selT, ixs_z])⟩
  · have q1 : decide ((k : Int) < (l.length : Int)) = false := decide_eq_false (by omega)
    have e : l.all ok = true := by
      rw [List.all_eq_true]
      intro x hx
      obtain ⟨i, hi, rfl⟩ := List.getElem_of_mem hx
      have := hall i (by omega)
      simpa [hi] using this
    (simp only [go_sem, Nat.reduceAdd, Nat.reduceMul, Int.reduceToNat, Nat.reduceLeDiff, Int.reduceLE, Int.reduceLT, ↓reduceIte, Int.reduceBEq, Int.reduceBNe, Int.reduceAdd, Int.reduceSub, Int.reduceMul, q1]; try refine okTr_and rfl ?_)
    ((refine FinK.finB r143 [] ?_ ?_); (· first | with_reducible rfl | (simp [e]; done) | rfl); (· simp [resAL, resA1, loadA, oneOr, e]))
theorem legacy_allLk (f : FuncId) (ok : Lk → Bool) (l : List Lk) (hf : ∀ k, k < l.length → Ct Tryz.prog f [iA k, lkA (l.getD k lk0)] [] (fun _ => bA (ok (l.getD k lk0))) [] (fun _ => [])) (hn : l.length ≤ 1000000) :
    Ct Tryz.prog 143 [slL l, .fn f [] []] [] (fun _ => bA (l.all ok)) [] (fun _ => []) := (legacy_allLk0 f ok l hf hn).toCt cl cl
theorem legacy_allEn0 (f : FuncId) (ok : En → Bool) (l : List En) (hf : ∀ k, k < l.length → Ct Tryz.prog f [iA k, enA (l.getD k en0)] [] (fun _ => bA (ok (l.getD k en0))) [] (fun _ => [])) (hn : l.length ≤ 1000000) :
    Does Tryz.prog 93 [slE l, .fn f [] []] [] (bA (l.all ok)) [] := by
  refine Does.runA Tryz.func93 b93 n93 Tryz.ntmps93 ?_; simp only [c93, go_sem, Nat.reduceAdd, Nat.reduceMul, Int.reduceToNat, Nat.reduceLeDiff, Int.reduceLE, Int.reduceLT, ↓reduceIte, Int.reduceBEq, Int.reduceBNe, Int.reduceAdd, Int.reduceSub, Int.reduceMul, ens_length]; try refine okTr_and rfl ?_
  refine loop_of (α := Nat) (fun k => [slE l, .fn f [] [], .any, .any, .any, .any, .any, slE l, iA l.length, iA k, .any, .any, .any, .any, .any, .any, .any, .any, .any, .any]) (fun _ => []) (fun k => k ≤ l.length ∧ ∀ i, i < k → ok (l.getD i en0) = true) (fun k => l.length - k) 0 ⟨by simp, fun i hi => by omega⟩ (Wk.to (by simp) (by simp [leT])) ?_
  rintro k ⟨hk, hall⟩
  (simp only [go_sem, Nat.reduceAdd, Nat.reduceMul, Int.reduceToNat, Nat.reduceLeDiff, Int.reduceLE, Int.reduceLT, ↓reduceIte, Int.reduceBEq, Int.reduceBNe, Int.reduceAdd, Int.reduceSub, Int.reduceMul]; try refine okTr_and rfl ?_)
  by_cases hlt : k < l.length
  · have q1 : decide ((k : Int) < (l.length : Int)) = true := decide_eq_true (by omega)
    have ek := i64_succ k (by omega)
    have g := ens_get l k hlt
    have hfx := hf k hlt
    (simp only [go_sem, Nat.reduceAdd, Nat.reduceMul, Int.reduceToNat, Nat.reduceLeDiff, Int.reduceLE, Int.reduceLT, ↓reduceIte, Int.reduceBEq, Int.reduceBNe, Int.reduceAdd, Int.reduceSub, Int.reduceMul, q1, g, ens_length, Int.toNat_natCast]; try refine okTr_and rfl ?_)
    (repeat ((with_reducible refine And.intro ?_ ?_); (· exact sd)))
    refine CallK.p (hfx) ?_
    cases hs : ok (l.getD k en0) with
    | false =>
      have e : l.all ok = false := by
        rw [List.all_eq_false]
        exact ⟨l.getD k en0, by simp [hlt], by rw [hs]; decide⟩
      (simp only [go_sem, Nat.reduceAdd, Nat.reduceMul, Int.reduceToNat, Nat.reduceLeDiff, Int.reduceLE, Int.reduceLT, ↓reduceIte, Int.reduceBEq, Int.reduceBNe, Int.reduceAdd, Int.reduceSub, Int.reduceMul, hs]; try refine okTr_and rfl ?_)
      ((refine FinK.finB r93 [] ?_ ?_); (· first | with_reducible rfl | (simp [e]; done) | rfl); (· simp [resAL, resA1, loadA, oneOr, e]))
    | true =>
      (simp only [go_sem, Nat.reduceAdd, Nat.reduceMul, Int.reduceToNat, Nat.reduceLeDiff, Int.reduceLE, Int.reduceLT, ↓reduceIte, Int.reduceBEq, Int.reduceBNe, Int.reduceAdd, Int.reduceSub, Int.reduceMul, hs, ek]; try refine okTr_and rfl ?_)
      exact ⟨k + 1, ⟨hlt, fun i hi => by
        rcases Nat.lt_or_ge i k with h | h
        · exact hall i h
        · obtain rfl : i = k := by omega
          exact hs⟩, by omega, Wk.sel [] (by simp) rfl (by simp) rfl (by simp) (by simp [selT, ixs_z])⟩
  · have q1 : decide ((k : Int) < (l.length : Int)) = false := decide_eq_false (by omega)
    have e : l.all ok = true := by
      rw [List.all_eq_true]
      intro x hx
      obtain ⟨i, hi, rfl⟩ := List.getElem_of_mem hx
      have := hall i (by omega)
      simpa [hi] using this
    (simp only [go_sem, Nat.reduceAdd, Nat.reduceMul, Int.reduceToNat, Nat.reduceLeDiff, Int.reduceLE, Int.reduceLT, ↓reduceIte, Int.reduceBEq, Int.reduceBNe, Int.reduceAdd, Int.reduceSub, Int.reduceMul, q1]; try refine okTr_and rfl ?_)
    ((refine FinK.finB r93 [] ?_ ?_); (· first | with_reducible rfl | (simp [e]; done) | rfl); (· simp [resAL, resA1, loadA, oneOr, e]))
theorem legacy_allEn (f : FuncId) (ok : En → Bool) (l : List En) (hf : ∀ k, k < l.length → Ct Tryz.prog f [iA k, enA (l.getD k en0)] [] (fun _ => bA (ok (l.getD k en0))) [] (fun _ => [])) (hn : l.length ≤ 1000000) :
    Ct Tryz.prog 93 [slE l, .fn f [] []] [] (fun _ => bA (l.all ok)) [] (fun _ => []) := (legacy_allEn0 f ok l hf hn).toCt cl cl
theorem legacy_single10 (k : Int) (x : Lk) : Does Tryz.prog 144 [iA k, lkA x] [] (bA (decide (x.bk.length ≤ 1))) [] := by
  have e : decide ((x.bk.length : Int) ≤ 1) = decide (x.bk.length ≤ 1) := by rw [Bool.eq_iff_iff, decide_eq_true_eq, decide_eq_true_eq]; omega
  refine Does.runA Tryz.func144 b144 n144 Tryz.ntmps144 ?_; simp only [c144, go_sem, Nat.reduceAdd, Nat.reduceMul, Int.reduceToNat, Nat.reduceLeDiff, Int.reduceLE, Int.reduceLT, ↓reduceIte, Int.reduceBEq, Int.reduceBNe, Int.reduceAdd, Int.reduceSub, Int.reduceMul, ints_length, e]; try refine okTr_and rfl ?_
  exact FinK.finA r144 []
theorem legacy_single1 (k : Int) (x : Lk) : Ct Tryz.prog 144 [iA k, lkA x] [] (fun _ => bA (decide (x.bk.length ≤ 1))) [] (fun _ => []) := (legacy_single10 k x).toCt cl cl
theorem legacy_single0 (l : List Lk) (hn : l.length ≤ 1000000) : Does Tryz.prog 95 [slL l] [] (bA (singleL l)) [] := by
  have e : (l.all fun x => decide (x.bk.length ≤ 1)) = singleL l := rfl
  refine Does.runA Tryz.func95 b95 n95 Tryz.ntmps95 ?_; simp only [c95, go_sem, Nat.reduceAdd, Nat.reduceMul, Int.reduceToNat, Nat.reduceLeDiff, Int.reduceLE, Int.reduceLT, ↓reduceIte, Int.reduceBEq, Int.reduceBNe, Int.reduceAdd, Int.reduceSub, Int.reduceMul]; try refine okTr_and rfl ?_
  refine CallK.p (legacy_allLk 144 (fun x => decide (x.bk.length ≤ 1)) l (fun k hk => legacy_single1 _ _) hn) ?_; (simp only [go_sem, Nat.reduceAdd, Nat.reduceMul, Int.reduceToNat, Nat.reduceLeDiff, Int.reduceLE, Int.reduceLT, ↓reduceIte, Int.reduceBEq, Int.reduceBNe, Int.reduceAdd, Int.reduceSub, Int.reduceMul, e]; try refine okTr_and rfl ?_)
  exact FinK.finA r95 []
theorem legacy_single (l : List Lk) (hn : l.length ≤ 1000000) : Ct Tryz.prog 95 [slL l] [] (fun _ => bA (singleL l)) [] (fun _ => []) := (legacy_single0 l hn).toCt cl cl
theorem ref35_single0 (l : List Lk) (hn : l.length ≤ 1000000) : Does Tryz.prog 89 [slL l] [] (bA (singleL l)) [] := by
  refine Does.runA Tryz.func89 b89 n89 Tryz.ntmps89 ?_; simp only [c89, go_sem, Nat.reduceAdd, Nat.reduceMul, Int.reduceToNat, Nat.reduceLeDiff, Int.reduceLE, Int.reduceLT, ↓reduceIte, Int.reduceBEq, Int.reduceBNe, Int.reduceAdd, Int.reduceSub, Int.reduceMul, lks_length]; try refine okTr_and rfl ?_
  refine loop_of (α := Nat) (fun k => [slL l, .any, .any, iA k, .any, .any, .any, .any, .any, .any, .any, .any, .any, .any, .any, .any, .any]) (fun _ => []) (fun k => k ≤ l.length ∧ ∀ i, i < k → (l.getD i lk0).bk.length ≤ 1) (fun k => l.length - k) 0 ⟨by simp, fun i hi => by omega⟩ (Wk.to (by simp) (by simp [leT])) ?_
  rintro k ⟨hk, hall⟩
  (simp only [go_sem, Nat.reduceAdd, Nat.reduceMul, Int.reduceToNat, Nat.reduceLeDiff, Int.reduceLE, Int.reduceLT, ↓reduceIte, Int.reduceBEq, Int.reduceBNe, Int.reduceAdd, Int.reduceSub, Int.reduceMul, lks_length]; try refine okTr_and rfl ?_)
  by_cases hlt : k < l.length
  · have q1 : decide ((k : Int) < (l.length : Int)) = true := decide_eq_true (by omega)
    have ek := i64_succ k (by omega)
    have g := lks_get l k hlt
    by_cases h : (l.getD k lk0).bk.length ≤ 1
    · have q2 : decide (1 < ((l.getD k lk0).bk.length : Int)) = false := decide_eq_false (by omega)
      (simp only [go_sem, Nat.reduceAdd, Nat.reduceMul, Int.reduceToNat, Nat.reduceLeDiff, Int.reduceLE, Int.reduceLT, ↓reduceIte, Int.reduceBEq, Int.reduceBNe, Int.reduceAdd, Int.reduceSub, Int.reduceMul, q1, g, lks_length, Int.toNat_natCast, ints_length, q2, ek]; try refine okTr_and rfl ?_)
      (repeat ((with_reducible refine And.intro ?_ ?_); (· exact sd)))
      exact ⟨k + 1, ⟨hlt, fun i hi => by
        rcases Nat.lt_or_ge i k with h' | h'
        · exact hall i h'
        · obtain rfl : i = k := by omega
          exact h⟩, by omega, Wk.to (by simp) (by simp [leT])⟩
    · have q2 : decide (1 < ((l.getD k lk0).bk.length : Int)) = true := decide_eq_true (by omega)
      have e : singleL l = false := by
        unfold singleL
        rw [List.all_eq_false]
        exact ⟨l.getD k lk0, lk_mem l k hlt, by simpa using h⟩
      (simp only [go_sem, Nat.reduceAdd, Nat.reduceMul, Int.reduceToNat, Nat.reduceLeDiff, Int.reduceLE, Int.reduceLT, ↓reduceIte, Int.reduceBEq, Int.reduceBNe, Int.reduceAdd, Int.reduceSub, Int.reduceMul, q1, g, lks_length, Int.toNat_natCast, ints_length, q2]; try refine okTr_and rfl ?_)
      (repeat ((with_reducible refine And.intro ?_ ?_); (· exact sd)))
      ((refine FinK.finB r89 [] ?_ ?_); (· first | with_reducible rfl | (simp [e]; done) | rfl); (· simp [resAL, resA1, loadA, oneOr, e]))
  · have q1 : decide ((k : Int) < (l.length : Int)) = false := decide_eq_false (by omega)
    have e : singleL l = true := by
      unfold singleL
      rw [List.all_eq_true]
      intro x hx
      obtain ⟨i, hi, rfl⟩ := List.getElem_of_mem hx
      have := hall i (by omega)
      simp only [decide_eq_true_eq]
      simpa [hi] using this
    (simp only [go_sem, Nat.reduceAdd, Nat.reduceMul, Int.reduceToNat, Nat.reduceLeDiff, Int.reduceLE, Int.reduceLT, ↓reduceIte, Int.reduceBEq, Int.reduceBNe, Int.reduceAdd, Int.reduceSub, Int.reduceMul, q1]; try refine okTr_and rfl ?_)
    ((refine FinK.finB r89 [] ?_ ?_); (· first | with_reducible rfl | (simp [e]; done) | rfl); (· simp [resAL, resA1, loadA, oneOr, e]))
theorem ref35_single (l : List Lk) (hn : l.length ≤ 1000000) : Ct Tryz.prog 89 [slL l] [] (fun _ => bA (singleL l)) [] (fun _ => []) := (ref35_single0 l hn).toCt cl cl
theorem legacy_Right2110 (k : Int) (e : En) (hn : e.lk.length ≤ 1000000) : Does Tryz.prog 94 [iA k, enA e] [] (bA (singleL e.lk)) [] := by
  refine Does.runA Tryz.func94 b94 n94 Tryz.ntmps94 ?_; simp only [c94, go_sem, Nat.reduceAdd, Nat.reduceMul, Int.reduceToNat, Nat.reduceLeDiff, Int.reduceLE, Int.reduceLT, ↓reduceIte, Int.reduceBEq, Int.reduceBNe, Int.reduceAdd, Int.reduceSub, Int.reduceMul]; try refine okTr_and rfl ?_
  refine CallK.p (legacy_single e.lk hn) ?_; (simp only [go_sem, Nat.reduceAdd, Nat.reduceMul, Int.reduceToNat, Nat.reduceLeDiff, Int.reduceLE, Int.reduceLT, ↓reduceIte, Int.reduceBEq, Int.reduceBNe, Int.reduceAdd, Int.reduceSub, Int.reduceMul]; try refine okTr_and rfl ?_)
  exact FinK.finA r94 []
theorem legacy_Right211 (k : Int) (e : En) (hn : e.lk.length ≤ 1000000) : Ct Tryz.prog 94 [iA k, enA e] [] (fun _ => bA (singleL e.lk)) [] (fun _ => []) := (legacy_Right2110 k e hn).toCt cl cl
theorem batch_End0 (b : Bt) (hn : b.en.length ≤ 1000000) (b0 : 0 ≤ b.base) (b1 : b.base + b.en.length < 18446744073709551616) : Does Tryz.prog 124 [btA b] [] (uA (b.base + b.en.length)) [] := by
  have w0 : IntKind.u64.wrap (b.en.length : Int) = b.en.length := IntWalk.u64_in _ (by omega)
  have w1 : IntKind.u64.wrap (b.base + (b.en.length : Int)) = b.base + b.en.length := IntWalk.u64_in _ (by omega)
  refine Does.runA Tryz.func124 b124 n124 Tryz.ntmps124 ?_; simp only [c124, go_sem, Nat.reduceAdd, Nat.reduceMul, Int.reduceToNat, Nat.reduceLeDiff, Int.reduceLE, Int.reduceLT, ↓reduceIte, Int.reduceBEq, Int.reduceBNe, Int.reduceAdd, Int.reduceSub, Int.reduceMul, ens_length, w0, w1]; try refine okTr_and rfl ?_
  exact FinK.finA r124 []
theorem batch_End (b : Bt) (hn : b.en.length ≤ 1000000) (b0 : 0 ≤ b.base) (b1 : b.base + b.en.length < 18446744073709551616) : Ct Tryz.prog 124 [btA b] [] (fun _ => uA (b.base + b.en.length)) [] (fun _ => []) := (batch_End0 b hn b0 b1).toCt cl cl
/-- The last of some batches ends within the numbers. -/
def Ends (acc : List Bt) : Prop := 0 < acc.length → (btLast acc).en.length ≤ 1000000 ∧ 0 ≤ (btLast acc).base ∧ (btLast acc).base + (btLast acc).en.length < 18446744073709551616
set_option maxRecDepth 100000 in
theorem legacy_follows0 (ep : Int) (acc : List Bt) (b : Bt) (hn : acc.length ≤ 1000000) (he : Ends acc) : Does Tryz.prog 58 [uA ep, slB acc, btA b] [] (bA (mayB ep acc b)) [] := by
  refine Does.runA Tryz.func58 b58 n58 Tryz.ntmps58 ?_; simp only [c58, go_sem, Nat.reduceAdd, Nat.reduceMul, Int.reduceToNat, Nat.reduceLeDiff, Int.reduceLE, Int.reduceLT, ↓reduceIte, Int.reduceBEq, Int.reduceBNe, Int.reduceAdd, Int.reduceSub, Int.reduceMul, bts_length]; try refine okTr_and rfl ?_
  by_cases h1 : b.ep ≤ ep
  · have q1 : decide (b.ep ≤ ep) = true := decide_eq_true h1
    by_cases h2 : acc.length = 0
    · have q2 : ((acc.length : Int) == 0) = true := by simp; exact List.eq_nil_of_length_eq_zero h2
      have e : mayB ep acc b = true := by unfold mayB; rw [q1, decide_eq_true h2]; rfl
      (simp only [go_sem, Nat.reduceAdd, Nat.reduceMul, Int.reduceToNat, Nat.reduceLeDiff, Int.reduceLE, Int.reduceLT, ↓reduceIte, Int.reduceBEq, Int.reduceBNe, Int.reduceAdd, Int.reduceSub, Int.reduceMul, q1, q2]; try refine okTr_and rfl ?_)
      ((refine FinK.finB r58 [] ?_ ?_); (· first | with_reducible rfl | (simp [e]; done) | rfl); (· simp [resAL, resA1, loadA, oneOr, e]))
    · have q2 : ((acc.length : Int) == 0) = false := by
        rw [Bool.eq_false_iff]; intro hh; rw [beq_iff_eq] at hh; omega
      obtain ⟨e1, e2, e3⟩ := he (by omega)
      have ep1 := i64_pred acc.length (by omega) (by omega)
      have g : (bts acc).getD (acc.length - 1) .any = btA (btLast acc) := bts_get acc (acc.length - 1) (by omega)
      have ey : mayB ep acc b = (decide ((btLast acc).ep ≤ b.ep) && decide ((btLast acc).base + (btLast acc).en.length ≤ b.base)) := by unfold mayB; rw [q1, decide_eq_false h2]; rfl
      have hE := batch_End (btLast acc) e1 e2 e3
      obtain ⟨L, hL⟩ : ∃ L, btLast acc = L := ⟨_, rfl⟩
      rw [hL] at g ey hE
      by_cases h3 : L.ep ≤ b.ep
      · have q3 : decide (L.ep ≤ b.ep) = true := decide_eq_true h3
        rw [q3, Bool.true_and] at ey
        (simp only [go_sem, Nat.reduceAdd, Nat.reduceMul, Int.reduceToNat, Nat.reduceLeDiff, Int.reduceLE, Int.reduceLT, ↓reduceIte, Int.reduceBEq, Int.reduceBNe, Int.reduceAdd, Int.reduceSub, Int.reduceMul, q1, q2, ep1, g, bts_length, Int.toNat_natCast, q3]; try refine okTr_and rfl ?_)
        (repeat ((with_reducible refine And.intro ?_ ?_); (· exact sd)))
        refine CallK.p (hE) ?_; (simp only [go_sem, Nat.reduceAdd, Nat.reduceMul, Int.reduceToNat, Nat.reduceLeDiff, Int.reduceLE, Int.reduceLT, ↓reduceIte, Int.reduceBEq, Int.reduceBNe, Int.reduceAdd, Int.reduceSub, Int.reduceMul, ← ey]; try refine okTr_and rfl ?_)
        exact FinK.finA r58 []
      · have q3 : decide (L.ep ≤ b.ep) = false := decide_eq_false h3
        rw [q3, Bool.false_and] at ey
        (simp only [go_sem, Nat.reduceAdd, Nat.reduceMul, Int.reduceToNat, Nat.reduceLeDiff, Int.reduceLE, Int.reduceLT, ↓reduceIte, Int.reduceBEq, Int.reduceBNe, Int.reduceAdd, Int.reduceSub, Int.reduceMul, q1, q2, ep1, g, bts_length, Int.toNat_natCast, q3]; try refine okTr_and rfl ?_)
        (repeat ((with_reducible refine And.intro ?_ ?_); (· exact sd)))
        ((refine FinK.finB r58 [] ?_ ?_); (· first | with_reducible rfl | (simp [ey]; done) | rfl); (· simp [resAL, resA1, loadA, oneOr, ey]))
  · have q1 : decide (b.ep ≤ ep) = false := decide_eq_false h1
    have e : mayB ep acc b = false := by unfold mayB; rw [q1]; rfl
    (simp only [go_sem, Nat.reduceAdd, Nat.reduceMul, Int.reduceToNat, Nat.reduceLeDiff, Int.reduceLE, Int.reduceLT, ↓reduceIte, Int.reduceBEq, Int.reduceBNe, Int.reduceAdd, Int.reduceSub, Int.reduceMul, q1]; try refine okTr_and rfl ?_)
    ((refine FinK.finB r58 [] ?_ ?_); (· first | with_reducible rfl | (simp [e]; done) | rfl); (· simp [resAL, resA1, loadA, oneOr, e]))
theorem legacy_follows (ep : Int) (acc : List Bt) (b : Bt) (hn : acc.length ≤ 1000000) (he : Ends acc) : Ct Tryz.prog 58 [uA ep, slB acc, btA b] [] (fun _ => bA (mayB ep acc b)) [] (fun _ => []) := (legacy_follows0 ep acc b hn he).toCt cl cl
set_option maxRecDepth 100000 in
theorem ref34_May0 (ep : Int) (l : List Bt) (k : Nat) (b : Bt) (hk : k ≤ l.length) (hn : l.length ≤ 1000000) (he : Ends (l.take k)) : Does Tryz.prog 63 [sg2A ⟨ep, l⟩, iA k, btA b] [] (bA (mayB ep (l.take k) b)) [] := by
  have hlen : (l.take k).length = k := by rw [List.length_take]; omega
  refine Does.runA Tryz.func63 b63 n63 Tryz.ntmps63 ?_; simp only [c63, go_sem, Nat.reduceAdd, Nat.reduceMul, Int.reduceToNat, Nat.reduceLeDiff, Int.reduceLE, Int.reduceLT, ↓reduceIte, Int.reduceBEq, Int.reduceBNe, Int.reduceAdd, Int.reduceSub, Int.reduceMul]; try refine okTr_and rfl ?_
  by_cases h1 : b.ep ≤ ep
  · have q1 : decide (ep < b.ep) = false := decide_eq_false (by omega)
    have q1' : decide (b.ep ≤ ep) = true := decide_eq_true h1
    by_cases h2 : k = 0
    · have q2 : ((k : Int) == 0) = true := by simp; exact h2
      have e : mayB ep (l.take k) b = true := by unfold mayB; rw [q1', decide_eq_true (by omega)]; rfl
      (simp only [go_sem, Nat.reduceAdd, Nat.reduceMul, Int.reduceToNat, Nat.reduceLeDiff, Int.reduceLE, Int.reduceLT, ↓reduceIte, Int.reduceBEq, Int.reduceBNe, Int.reduceAdd, Int.reduceSub, Int.reduceMul, q1, q2]; try refine okTr_and rfl ?_)
      ((refine FinK.finB r63 [] ?_ ?_); (· first | with_reducible rfl | (simp [e]; done) | rfl); (· simp [resAL, resA1, loadA, oneOr, e]))
    · have q2 : ((k : Int) == 0) = false := by
        rw [Bool.eq_false_iff]; intro hh; rw [beq_iff_eq] at hh; omega
      obtain ⟨e1, e2, e3⟩ := he (by omega)
      have ep1 := i64_pred k (by omega) (by omega)
      have hbl : btLast (l.take k) = l.getD (k - 1) bt0 := by
        unfold btLast; rw [hlen]
        simp [show k - 1 < l.length by omega, show k - 1 < k by omega]
      have g : (bts l).getD (k - 1) .any = btA (btLast (l.take k)) := by rw [hbl]; exact bts_get l (k - 1) (by omega)
      have ey : mayB ep (l.take k) b = (decide ((btLast (l.take k)).ep ≤ b.ep) && decide ((btLast (l.take k)).base + (btLast (l.take k)).en.length ≤ b.base)) := by unfold mayB; rw [q1', decide_eq_false (by omega)]; rfl
      obtain ⟨L, hL⟩ : ∃ L, btLast (l.take k) = L := ⟨_, rfl⟩
      rw [hL] at g ey e1 e2 e3
      have w0 : IntKind.u64.wrap (L.en.length : Int) = L.en.length := IntWalk.u64_in _ (by omega)
      have w1 : IntKind.u64.wrap (L.base + (L.en.length : Int)) = L.base + L.en.length := IntWalk.u64_in _ (by omega)
      by_cases h3 : L.ep ≤ b.ep
      · have q3 : decide (L.ep ≤ b.ep) = true := decide_eq_true h3
        rw [q3, Bool.true_and] at ey
        (simp only [go_sem, Nat.reduceAdd, Nat.reduceMul, Int.reduceToNat, Nat.reduceLeDiff, Int.reduceLE, Int.reduceLT, ↓reduceIte, Int.reduceBEq, Int.reduceBNe, Int.reduceAdd, Int.reduceSub, Int.reduceMul, q1, q2, ep1, g, bts_length, Int.toNat_natCast, q3, ens_length, w0, w1, ← ey]; try refine okTr_and rfl ?_)
        (repeat ((with_reducible refine And.intro ?_ ?_); (· exact sd)))
        exact FinK.finA r63 []
      · have q3 : decide (L.ep ≤ b.ep) = false := decide_eq_false h3
        rw [q3, Bool.false_and] at ey
        (simp only [go_sem, Nat.reduceAdd, Nat.reduceMul, Int.reduceToNat, Nat.reduceLeDiff, Int.reduceLE, Int.reduceLT, ↓reduceIte, Int.reduceBEq, Int.reduceBNe, Int.reduceAdd, Int.reduceSub, Int.reduceMul, q1, q2, ep1, g, bts_length, Int.toNat_natCast, q3]; try refine okTr_and rfl ?_)
        (repeat ((with_reducible refine And.intro ?_ ?_); (· exact sd)))
        ((refine FinK.finB r63 [] ?_ ?_); (· first | with_reducible rfl | (simp [ey]; done) | rfl); (· simp [resAL, resA1, loadA, oneOr, ey]))
  · have q1 : decide (ep < b.ep) = true := decide_eq_true (by omega)
    have e : mayB ep (l.take k) b = false := by unfold mayB; rw [decide_eq_false h1]; rfl
    (simp only [go_sem, Nat.reduceAdd, Nat.reduceMul, Int.reduceToNat, Nat.reduceLeDiff, Int.reduceLE, Int.reduceLT, ↓reduceIte, Int.reduceBEq, Int.reduceBNe, Int.reduceAdd, Int.reduceSub, Int.reduceMul, q1]; try refine okTr_and rfl ?_)
    ((refine FinK.finB r63 [] ?_ ?_); (· first | with_reducible rfl | (simp [e]; done) | rfl); (· simp [resAL, resA1, loadA, oneOr, e]))
theorem ref34_May (ep : Int) (l : List Bt) (k : Nat) (b : Bt) (hk : k ≤ l.length) (hn : l.length ≤ 1000000) (he : Ends (l.take k)) : Ct Tryz.prog 63 [sg2A ⟨ep, l⟩, iA k, btA b] [] (fun _ => bA (mayB ep (l.take k) b)) [] (fun _ => []) := (ref34_May0 ep l k b hk hn he).toCt cl cl
end Go.Proofs.YtnfagphepkeedaaGreat
end
section
namespace Go.Proofs.YtnfagphepkeedaaGreat
open Go.RowKit

def allB (ok : Nat → Bool) (n : Nat) : Bool := (List.range n).all ok
theorem allB_iff {ok : Nat → Bool} {n : Nat} : allB ok n = true ↔ ∀ i, i < n → ok i = true := by
  simp only [allB, List.all_eq_true, List.mem_range]
set_option maxRecDepth 100000 in
theorem legacy_allB0 (f : FuncId) (o : AObj) (ok : Nat → Bool) (ho : ∀ ρ, o.ren ρ = o) (hd : o ≠ .dead) (l : List Bt) (hf : ∀ k, k < l.length → (∀ i, i < k → ok i = true) → ∀ i, Ct Tryz.prog f [iA k, btA (l.getD k bt0), .ref i 0] [(i, o)] (fun _ => bA (ok k)) [] (fun _ => [])) (hn : l.length ≤ 1000000) :
    Does Tryz.prog 91 [slB l, .fn f [] [.ref 0 0]] [o] (bA (allB ok l.length)) [o] := by
  refine Does.runA Tryz.func91 b91 n91 Tryz.ntmps91 ?_; simp only [c91, go_sem, Nat.reduceAdd, Nat.reduceMul, Int.reduceToNat, Nat.reduceLeDiff, Int.reduceLE, Int.reduceLT, ↓reduceIte, Int.reduceBEq, Int.reduceBNe, Int.reduceAdd, Int.reduceSub, Int.reduceMul, bts_length]; try refine okTr_and rfl ?_
  refine loop_of (α := Nat) (fun k => [slB l, .fn f [] [.ref 0 0], .any, .any, .any, .any, .any, slB l, iA l.length, iA k, .any, .any, .any, .any, .any, .any, .any, .any, .any, .any]) (fun _ => [o]) (fun k => k ≤ l.length ∧ ∀ i, i < k → ok i = true) (fun k => l.length - k) 0 ⟨by simp, fun i hi => by omega⟩ (Wk.to (by simp) (by simp [leT])) ?_
  rintro k ⟨hk, hall⟩
  (simp only [go_sem, Nat.reduceAdd, Nat.reduceMul, Int.reduceToNat, Nat.reduceLeDiff, Int.reduceLE, Int.reduceLT, ↓reduceIte, Int.reduceBEq, Int.reduceBNe, Int.reduceAdd, Int.reduceSub, Int.reduceMul]; try refine okTr_and rfl ?_)
  by_cases hlt : k < l.length
  · have q1 : decide ((k : Int) < (l.length : Int)) = true := decide_eq_true (by omega)
    have ek := i64_succ k (by omega)
    have g := bts_get l k hlt
    have hfx := hf k hlt hall 0
    (simp only [go_sem, Nat.reduceAdd, Nat.reduceMul, Int.reduceToNat, Nat.reduceLeDiff, Int.reduceLE, Int.reduceLT, ↓reduceIte, Int.reduceBEq, Int.reduceBNe, Int.reduceAdd, Int.reduceSub, Int.reduceMul, q1, g, bts_length, Int.toNat_natCast]; try refine okTr_and rfl ?_)
    (repeat ((with_reducible refine And.intro ?_ ?_); (· exact sd)))
    refine CallK.r1 (hfx) rfl ?_
    cases hs : ok k with
    | false =>
      have e : allB ok l.length = false := by
        cases ha : allB ok l.length with
        | false => rfl
        | true => rw [allB_iff.1 ha k hlt] at hs; cases hs
      (simp only [go_sem, Nat.reduceAdd, Nat.reduceMul, Int.reduceToNat, Nat.reduceLeDiff, Int.reduceLE, Int.reduceLT, ↓reduceIte, Int.reduceBEq, Int.reduceBNe, Int.reduceAdd, Int.reduceSub, Int.reduceMul, hs]; try refine okTr_and rfl ?_)
      ((refine FinK.finB r91 [0] ?_ ?_); (· first | with_reducible rfl | (simp [e, ho]; done) | rfl); (· simp [resAL, resA1, loadA, oneOr, e, ho]))
    | true =>
      (simp only [go_sem, Nat.reduceAdd, Nat.reduceMul, Int.reduceToNat, Nat.reduceLeDiff, Int.reduceLE, Int.reduceLT, ↓reduceIte, Int.reduceBEq, Int.reduceBNe, Int.reduceAdd, Int.reduceSub, Int.reduceMul, hs, ek]; try refine okTr_and rfl ?_)
      exact ⟨k + 1, ⟨hlt, fun i hi => by
        rcases Nat.lt_or_ge i k with h | h
        · exact hall i h
        · obtain rfl : i = k := by omega
          exact hs⟩, by omega, Wk.sel [0] (by simp) rfl (by simp) rfl (by simp [ho]) (by simp [selT, ixs_z])⟩
  · have q1 : decide ((k : Int) < (l.length : Int)) = false := decide_eq_false (by omega)
    have e : allB ok l.length = true := allB_iff.2 fun i hi => hall i (by omega)
    (simp only [go_sem, Nat.reduceAdd, Nat.reduceMul, Int.reduceToNat, Nat.reduceLeDiff, Int.reduceLE, Int.reduceLT, ↓reduceIte, Int.reduceBEq, Int.reduceBNe, Int.reduceAdd, Int.reduceSub, Int.reduceMul, q1]; try refine okTr_and rfl ?_)
    ((refine FinK.finB r91 [0] ?_ ?_); (· first | with_reducible rfl | (simp [e, ho]; done) | rfl); (· simp [resAL, resA1, loadA, oneOr, e, ho]))
theorem legacy_allB (f : FuncId) (o : AObj) (ok : Nat → Bool) (ho : ∀ ρ, o.ren ρ = o) (hd : o ≠ .dead) (l : List Bt) (hf : ∀ k, k < l.length → (∀ i, i < k → ok i = true) → ∀ i, Ct Tryz.prog f [iA k, btA (l.getD k bt0), .ref i 0] [(i, o)] (fun _ => bA (ok k)) [] (fun _ => [])) (hn : l.length ≤ 1000000) (i : Nat) :
    Ct Tryz.prog 91 [slB l, .fn f [] [.ref i 0]] [(i, o)] (fun _ => bA (allB ok l.length)) [] (fun _ => []) := Ct.r1 (legacy_allB0 f o ok ho hd l hf hn) i cl ho hd clo
structure Small2 (u : Sg2) : Prop where
  n : u.bt.length ≤ 1000000
  s : ∀ b ∈ u.bt, SmallB b
  ok : Bts u.bt
theorem ends_of {ep : Int} {l : List Bt} {k : Nat} (hl : Bts l) (hk : k ≤ l.length) (h : ∀ i, i < k → mayAt ep l i = true) : Ends (l.take k) := by
  intro h0
  have hlen : (l.take k).length = k := by rw [List.length_take]; omega
  have hbl : btLast (l.take k) = l.getD (k - 1) bt0 := by
    unfold btLast; rw [hlen]
    simp [show k - 1 < l.length by omega, show k - 1 < k by omega]
  have hm := h (k - 1) (by omega)
  unfold mayAt at hm
  simp only [Bool.and_eq_true] at hm
  obtain ⟨r1, ⟨r2, r3⟩, r4⟩ := rightB_iff.1 hm.1.1
  have hb := hl _ (bt_mem l (k - 1) (by omega))
  rw [hbl]
  exact ⟨by omega, hb.b0, by omega⟩
set_option maxRecDepth 100000 in
theorem legacy_Right210 (u : Sg2) (k : Nat) (hs : Small2 u) (hk : k < u.bt.length) (he : Ends (u.bt.take k)) : Does Tryz.prog 92 [iA k, btA (u.bt.getD k bt0), .ref 0 0] [sg2O u] (bA (mayAt u.ep u.bt k)) [sg2O u] := by
  have hm := bt_mem u.bt k hk
  have hsb := hs.s _ hm
  have hok := hs.ok _ hm
  have hn := hs.n
  have hle : (u.bt.take k).length ≤ 1000000 := by rw [List.length_take]; omega
  have hkl : (k : Int) ≤ ((bts u.bt).length : Int) := by rw [bts_length]; omega
  have hdef : mayAt u.ep u.bt k = (rightB (u.bt.getD k bt0) && singleB (u.bt.getD k bt0) && mayB u.ep (u.bt.take k) (u.bt.getD k bt0)) := rfl
  obtain ⟨b, hb⟩ : ∃ b, u.bt.getD k bt0 = b := ⟨_, rfl⟩
  rw [hb] at hm hsb hok hdef ⊢
  have hA := legacy_allEn 94 (fun e => singleL e.lk) b.en (fun k hk => legacy_Right211 _ _ (hsb.lk _ (en_mem b.en k hk)).1) hsb.n
  have ea : (b.en.all fun e => singleL e.lk) = singleB b := rfl
  rw [ea] at hA
  refine Does.runA Tryz.func92 b92 n92 Tryz.ntmps92 ?_; simp only [c92, go_sem, Nat.reduceAdd, Nat.reduceMul, Int.reduceToNat, Nat.reduceLeDiff, Int.reduceLE, Int.reduceLT, ↓reduceIte, Int.reduceBEq, Int.reduceBNe, Int.reduceAdd, Int.reduceSub, Int.reduceMul]; try refine okTr_and rfl ?_
  refine CallK.p (hA) ?_
  cases h1 : singleB b with
  | false =>
    rw [h1, Bool.and_false, Bool.false_and] at hdef
    (simp only [go_sem, Nat.reduceAdd, Nat.reduceMul, Int.reduceToNat, Nat.reduceLeDiff, Int.reduceLE, Int.reduceLT, ↓reduceIte, Int.reduceBEq, Int.reduceBNe, Int.reduceAdd, Int.reduceSub, Int.reduceMul]; try refine okTr_and rfl ?_)
    ((refine FinK.finB r92 [0] ?_ ?_); (· first | with_reducible rfl | (simp [hdef]; done) | rfl); (· simp [resAL, resA1, loadA, oneOr, hdef]))
  | true =>
    rw [h1, Bool.and_true] at hdef
    (simp only [go_sem, Nat.reduceAdd, Nat.reduceMul, Int.reduceToNat, Nat.reduceLeDiff, Int.reduceLE, Int.reduceLT, ↓reduceIte, Int.reduceBEq, Int.reduceBNe, Int.reduceAdd, Int.reduceSub, Int.reduceMul]; try refine okTr_and rfl ?_)
    refine CallK.p (batch_Right b hok hsb) ?_
    cases h2 : rightB b with
    | false =>
      rw [h2, Bool.false_and] at hdef
      (simp only [go_sem, Nat.reduceAdd, Nat.reduceMul, Int.reduceToNat, Nat.reduceLeDiff, Int.reduceLE, Int.reduceLT, ↓reduceIte, Int.reduceBEq, Int.reduceBNe, Int.reduceAdd, Int.reduceSub, Int.reduceMul]; try refine okTr_and rfl ?_)
      ((refine FinK.finB r92 [0] ?_ ?_); (· first | with_reducible rfl | (simp [hdef]; done) | rfl); (· simp [resAL, resA1, loadA, oneOr, hdef]))
    | true =>
      rw [h2, Bool.true_and] at hdef
      (simp only [go_sem, Nat.reduceAdd, Nat.reduceMul, Int.reduceToNat, Nat.reduceLeDiff, Int.reduceLE, Int.reduceLT, ↓reduceIte, Int.reduceBEq, Int.reduceBNe, Int.reduceAdd, Int.reduceSub, Int.reduceMul, bts_take, bts_length, Int.sub_zero, Int.toNat_natCast]; try refine okTr_and rfl ?_)
      (repeat ((with_reducible refine And.intro ?_ ?_); (· exact sd)))
      refine CallK.p (legacy_follows u.ep (u.bt.take k) b hle he) ?_; (simp only [go_sem, Nat.reduceAdd, Nat.reduceMul, Int.reduceToNat, Nat.reduceLeDiff, Int.reduceLE, Int.reduceLT, ↓reduceIte, Int.reduceBEq, Int.reduceBNe, Int.reduceAdd, Int.reduceSub, Int.reduceMul, ← hdef]; try refine okTr_and rfl ?_)
      exact FinK.finA r92 [0]
theorem legacy_Right21 (u : Sg2) (k : Nat) (hs : Small2 u) (hk : k < u.bt.length) (he : Ends (u.bt.take k)) (i : Nat) : Ct Tryz.prog 92 [iA k, btA (u.bt.getD k bt0), .ref i 0] [(i, sg2O u)] (fun _ => bA (mayAt u.ep u.bt k)) [] (fun _ => []) :=
  Ct.r1 (legacy_Right210 u k hs hk he) i cl (sg2O_ren u) (by simp) clo
theorem right2_no {u : Sg2} (h : epRight u.ep = false ∨ 32 < u.bt.length) : right2 u = false := by
  cases hr : right2 u with
  | false => rfl
  | true =>
    exfalso
    unfold right2 at hr
    simp only [Bool.and_eq_true, decide_eq_true_eq] at hr
    obtain ⟨⟨a, b⟩, c⟩ := hr
    rcases h with h | h
    · rw [h] at a; cases a
    · omega
theorem legacy_Right20 (u : Sg2) (hs : Small2 u) : Does Tryz.prog 24 [sg2A u] [] (bA (right2 u)) [] := by
  refine Does.runA Tryz.func24 b24 n24 Tryz.ntmps24 ?_; simp only [c24, go_sem, Nat.reduceAdd, Nat.reduceMul, Int.reduceToNat, Nat.reduceLeDiff, Int.reduceLE, Int.reduceLT, ↓reduceIte, Int.reduceBEq, Int.reduceBNe, Int.reduceAdd, Int.reduceSub, Int.reduceMul]; try refine okTr_and rfl ?_
  refine CallK.p (epoch_Right u.ep) ?_
  cases h1 : epRight u.ep with
  | false =>
    have e := right2_no (u := u) (.inl h1)
    (simp only [go_sem, Nat.reduceAdd, Nat.reduceMul, Int.reduceToNat, Nat.reduceLeDiff, Int.reduceLE, Int.reduceLT, ↓reduceIte, Int.reduceBEq, Int.reduceBNe, Int.reduceAdd, Int.reduceSub, Int.reduceMul, h1]; try refine okTr_and rfl ?_)
    ((refine FinK.finB r24 [] ?_ ?_); (· first | with_reducible rfl | (simp [e]; done) | rfl); (· simp [resAL, resA1, loadA, oneOr, e]))
  | true =>
    by_cases h2 : u.bt.length ≤ 32
    · have q2 : decide (32 < (u.bt.length : Int)) = false := decide_eq_false (by omega)
      have e : right2 u = allB (mayAt u.ep u.bt) u.bt.length := by
        unfold right2 allB; rw [h1, decide_eq_true h2]; rfl
      (simp only [go_sem, Nat.reduceAdd, Nat.reduceMul, Int.reduceToNat, Nat.reduceLeDiff, Int.reduceLE, Int.reduceLT, ↓reduceIte, Int.reduceBEq, Int.reduceBNe, Int.reduceAdd, Int.reduceSub, Int.reduceMul, h1, bts_length, q2]; try refine okTr_and rfl ?_)
      refine CallK.r1 (legacy_allB 92 (sg2O u) (mayAt u.ep u.bt) (sg2O_ren u) (by simp) u.bt (fun k hk hall i => legacy_Right21 u k hs hk (ends_of hs.ok (by omega) hall) i) hs.n _) rfl ?_; (simp only [go_sem, Nat.reduceAdd, Nat.reduceMul, Int.reduceToNat, Nat.reduceLeDiff, Int.reduceLE, Int.reduceLT, ↓reduceIte, Int.reduceBEq, Int.reduceBNe, Int.reduceAdd, Int.reduceSub, Int.reduceMul, ← e]; try refine okTr_and rfl ?_)
      exact FinK.finA r24 []
    · have q2 : decide (32 < (u.bt.length : Int)) = true := decide_eq_true (by omega)
      have e := right2_no (u := u) (.inr (by omega))
      (simp only [go_sem, Nat.reduceAdd, Nat.reduceMul, Int.reduceToNat, Nat.reduceLeDiff, Int.reduceLE, Int.reduceLT, ↓reduceIte, Int.reduceBEq, Int.reduceBNe, Int.reduceAdd, Int.reduceSub, Int.reduceMul, h1, bts_length, q2]; try refine okTr_and rfl ?_)
      ((refine FinK.finB r24 [] ?_ ?_); (· first | with_reducible rfl | (simp [e]; done) | rfl); (· simp [resAL, resA1, loadA, oneOr, e]))
theorem legacy_Right2 (u : Sg2) (hs : Small2 u) : Ct Tryz.prog 24 [sg2A u] [] (fun _ => bA (right2 u)) [] (fun _ => []) := (legacy_Right20 u hs).toCt cl cl
set_option maxHeartbeats 1000000 in
set_option maxRecDepth 100000 in
theorem ref35_Right20 (u : Sg2) (hs : Small2 u) : Does Tryz.prog 22 [sg2A u] [] (bA (right2 u)) [] := by
  have hn := hs.n
  refine Does.runA Tryz.func22 b22 n22 Tryz.ntmps22 ?_; simp only [c22, go_sem, Nat.reduceAdd, Nat.reduceMul, Int.reduceToNat, Nat.reduceLeDiff, Int.reduceLE, Int.reduceLT, ↓reduceIte, Int.reduceBEq, Int.reduceBNe, Int.reduceAdd, Int.reduceSub, Int.reduceMul]; try refine okTr_and rfl ?_
  refine CallK.p (ref17_Right u.ep) ?_
  cases h1 : epRight u.ep with
  | false =>
    have e := right2_no (u := u) (.inl h1)
    (simp only [go_sem, Nat.reduceAdd, Nat.reduceMul, Int.reduceToNat, Nat.reduceLeDiff, Int.reduceLE, Int.reduceLT, ↓reduceIte, Int.reduceBEq, Int.reduceBNe, Int.reduceAdd, Int.reduceSub, Int.reduceMul, h1]; try refine okTr_and rfl ?_)
    ((refine FinK.finB r22 [] ?_ ?_); (· first | with_reducible rfl | (simp [e]; done) | rfl); (· simp [resAL, resA1, loadA, oneOr, e]))
  | true =>
    by_cases h2 : u.bt.length ≤ 32
    · have q2 : decide (32 < (u.bt.length : Int)) = false := decide_eq_false (by omega)
      (simp only [go_sem, Nat.reduceAdd, Nat.reduceMul, Int.reduceToNat, Nat.reduceLeDiff, Int.reduceLE, Int.reduceLT, ↓reduceIte, Int.reduceBEq, Int.reduceBNe, Int.reduceAdd, Int.reduceSub, Int.reduceMul, h1, bts_length, q2]; try refine okTr_and rfl ?_)
      refine loop_of (α := Nat) (fun k => [.any, .ref 0 0, .any, iA k, .any, .any, .any, .any, .any, .any, .any, .any, .any, .any, .any, .any, .any, .any, .any, .any, .any, .any, .any, .any, .any, .any, .any, .any, .any, .any, .any, .any, .any, .any, .any, .any, .any, .any, .any, .any, .any, .any, .any, .any, .any, .any, .any, .any, .any, .any, .any, .any, .any, .any, .any, .any, .any]) (fun _ => [sg2O u]) (fun k => k ≤ u.bt.length ∧ ∀ i, i < k → mayAt u.ep u.bt i = true) (fun k => u.bt.length - k) 0 ⟨by simp, fun i hi => by omega⟩ (Wk.to (by simp) (by simp [leT])) ?_
      rintro k ⟨hk, hall⟩
      (simp only [go_sem, Nat.reduceAdd, Nat.reduceMul, Int.reduceToNat, Nat.reduceLeDiff, Int.reduceLE, Int.reduceLT, ↓reduceIte, Int.reduceBEq, Int.reduceBNe, Int.reduceAdd, Int.reduceSub, Int.reduceMul, bts_length]; try refine okTr_and rfl ?_)
      by_cases hlt : k < u.bt.length
      · have q1 : decide ((k : Int) < (u.bt.length : Int)) = true := decide_eq_true (by omega)
        have ek := i64_succ k (by omega)
        have g := bts_get u.bt k hlt
        have hm := bt_mem u.bt k hlt
        have hsb := hs.s _ hm
        have hok := hs.ok _ hm
        have he := ends_of hs.ok (by omega) hall
        have hdef : mayAt u.ep u.bt k = (rightB (u.bt.getD k bt0) && singleB (u.bt.getD k bt0) && mayB u.ep (u.bt.take k) (u.bt.getD k bt0)) := rfl
        have bad : mayAt u.ep u.bt k = false → right2 u = false := fun h => by
          cases hr : right2 u with
          | false => rfl
          | true => rw [(right2_iff.1 hr).2.2 k hlt] at h; cases h
        obtain ⟨b, hb⟩ : ∃ b, u.bt.getD k bt0 = b := ⟨_, rfl⟩
        rw [hb] at hm hsb hok hdef g
        (simp only [go_sem, Nat.reduceAdd, Nat.reduceMul, Int.reduceToNat, Nat.reduceLeDiff, Int.reduceLE, Int.reduceLT, ↓reduceIte, Int.reduceBEq, Int.reduceBNe, Int.reduceAdd, Int.reduceSub, Int.reduceMul, q1, g, bts_length, Int.toNat_natCast]; try refine okTr_and rfl ?_)
        (repeat ((with_reducible refine And.intro ?_ ?_); (· exact sd)))
        refine CallK.p (ref25_Right b hok hsb) ?_
        cases h3 : rightB b with
        | false =>
          rw [h3, Bool.false_and, Bool.false_and] at hdef
          have e := bad hdef
          (simp only [go_sem, Nat.reduceAdd, Nat.reduceMul, Int.reduceToNat, Nat.reduceLeDiff, Int.reduceLE, Int.reduceLT, ↓reduceIte, Int.reduceBEq, Int.reduceBNe, Int.reduceAdd, Int.reduceSub, Int.reduceMul]; try refine okTr_and rfl ?_)
          ((refine FinK.finB r22 [] ?_ ?_); (· first | with_reducible rfl | (simp [e]; done) | rfl); (· simp [resAL, resA1, loadA, oneOr, e]))
        | true =>
          rw [h3, Bool.true_and] at hdef
          (simp only [go_sem, Nat.reduceAdd, Nat.reduceMul, Int.reduceToNat, Nat.reduceLeDiff, Int.reduceLE, Int.reduceLT, ↓reduceIte, Int.reduceBEq, Int.reduceBNe, Int.reduceAdd, Int.reduceSub, Int.reduceMul]; try refine okTr_and rfl ?_)
          refine CallK.p (ref34_May u.ep u.bt k b (by omega) hn he) ?_
          cases h4 : mayB u.ep (u.bt.take k) b with
          | false =>
            rw [h4, Bool.and_false] at hdef
            have e := bad hdef
            (simp only [go_sem, Nat.reduceAdd, Nat.reduceMul, Int.reduceToNat, Nat.reduceLeDiff, Int.reduceLE, Int.reduceLT, ↓reduceIte, Int.reduceBEq, Int.reduceBNe, Int.reduceAdd, Int.reduceSub, Int.reduceMul]; try refine okTr_and rfl ?_)
            ((refine FinK.finB r22 [] ?_ ?_); (· first | with_reducible rfl | (simp [e]; done) | rfl); (· simp [resAL, resA1, loadA, oneOr, e]))
          | true =>
            rw [h4, Bool.and_true] at hdef
            (simp only [go_sem, Nat.reduceAdd, Nat.reduceMul, Int.reduceToNat, Nat.reduceLeDiff, Int.reduceLE, Int.reduceLT, ↓reduceIte, Int.reduceBEq, Int.reduceBNe, Int.reduceAdd, Int.reduceSub, Int.reduceMul]; try refine okTr_and rfl ?_)
            refine loop_of (α := Nat) (fun j => [.any, .ref 0 0, .any, iA k, .ref 1 0, iA j, .any, .any, .any, .any, .any, .any, .any, .any, .any, .any, .any, .any, .any, .any, .any, .any, .any, .any, .any, .any, .any, .any, .any, .any, .any, .any, .any, .any, .any, .any, .any, .any, .any, .any, .any, .any, .any, .any, .any, .any, .any, .any, .any, .any, .any, .any, .any, .any, .any, .any, .any]) (fun _ => [sg2O u, btO b]) (fun j => j ≤ b.en.length ∧ ∀ i, i < j → singleL (b.en.getD i en0).lk = true) (fun j => b.en.length - j) 0 ⟨by simp, fun i hi => by omega⟩ (Wk.sel [0, 1] (by simp) rfl (by simp) rfl (by simp [ixs_z]) (by simp [selT, ixs_z])) ?_
            rintro j ⟨hj, hall2⟩
            have hbn := hsb.n
            (simp only [go_sem, Nat.reduceAdd, Nat.reduceMul, Int.reduceToNat, Nat.reduceLeDiff, Int.reduceLE, Int.reduceLT, ↓reduceIte, Int.reduceBEq, Int.reduceBNe, Int.reduceAdd, Int.reduceSub, Int.reduceMul, ens_length]; try refine okTr_and rfl ?_)
            by_cases hjl : j < b.en.length
            · have p1 : decide ((j : Int) < (b.en.length : Int)) = true := decide_eq_true (by omega)
              have ej := i64_succ j (by omega)
              have g2 := ens_get b.en j hjl
              have hsl := hsb.lk _ (en_mem b.en j hjl)
              (simp only [go_sem, Nat.reduceAdd, Nat.reduceMul, Int.reduceToNat, Nat.reduceLeDiff, Int.reduceLE, Int.reduceLT, ↓reduceIte, Int.reduceBEq, Int.reduceBNe, Int.reduceAdd, Int.reduceSub, Int.reduceMul, p1, g2, ens_length, Int.toNat_natCast]; try refine okTr_and rfl ?_)
              (repeat ((with_reducible refine And.intro ?_ ?_); (· exact sd)))
              refine CallK.p (ref35_single (b.en.getD j en0).lk hsl.1) ?_
              cases h5 : singleL (b.en.getD j en0).lk with
              | false =>
                have hsn : singleB b = false := by
                  cases hsx : singleB b with
                  | false => rfl
                  | true => rw [singleB_iff.1 hsx j hjl] at h5; cases h5
                rw [hsn] at hdef
                have e := bad hdef
                (simp only [go_sem, Nat.reduceAdd, Nat.reduceMul, Int.reduceToNat, Nat.reduceLeDiff, Int.reduceLE, Int.reduceLT, ↓reduceIte, Int.reduceBEq, Int.reduceBNe, Int.reduceAdd, Int.reduceSub, Int.reduceMul]; try refine okTr_and rfl ?_)
                (repeat ((with_reducible refine And.intro ?_ ?_); (· exact sd)))
                ((refine FinK.finB r22 [] ?_ ?_); (· first | with_reducible rfl | (simp [e]; done) | rfl); (· simp [resAL, resA1, loadA, oneOr, e]))
              | true =>
                (simp only [go_sem, Nat.reduceAdd, Nat.reduceMul, Int.reduceToNat, Nat.reduceLeDiff, Int.reduceLE, Int.reduceLT, ↓reduceIte, Int.reduceBEq, Int.reduceBNe, Int.reduceAdd, Int.reduceSub, Int.reduceMul, ej]; try refine okTr_and rfl ?_)
                (repeat ((with_reducible refine And.intro ?_ ?_); (· exact sd)))
                exact ⟨j + 1, ⟨hjl, fun i hi => by
                  rcases Nat.lt_or_ge i j with h | h
                  · exact hall2 i h
                  · obtain rfl : i = j := by omega
                    exact h5⟩, by omega, Wk.to (by simp) (by simp [leT])⟩
            · have p1 : decide ((j : Int) < (b.en.length : Int)) = false := decide_eq_false (by omega)
              have hsn : singleB b = true := singleB_iff.2 fun i hi => hall2 i (by omega)
              rw [hsn] at hdef
              (simp only [go_sem, Nat.reduceAdd, Nat.reduceMul, Int.reduceToNat, Nat.reduceLeDiff, Int.reduceLE, Int.reduceLT, ↓reduceIte, Int.reduceBEq, Int.reduceBNe, Int.reduceAdd, Int.reduceSub, Int.reduceMul, p1, ek]; try refine okTr_and rfl ?_)
              exact ⟨k + 1, ⟨hlt, fun i hi => by
                rcases Nat.lt_or_ge i k with h | h
                · exact hall i h
                · obtain rfl : i = k := by omega
                  exact hdef⟩, by omega, Wk.sel [0] (by simp) rfl (by simp) rfl (by simp [ixs_z]) (by simp [selT, ixs_z])⟩
      · have q1 : decide ((k : Int) < (u.bt.length : Int)) = false := decide_eq_false (by omega)
        have e : right2 u = true := right2_iff.2 ⟨epRight_iff.1 h1, h2, fun i hi => hall i (by omega)⟩
        (simp only [go_sem, Nat.reduceAdd, Nat.reduceMul, Int.reduceToNat, Nat.reduceLeDiff, Int.reduceLE, Int.reduceLT, ↓reduceIte, Int.reduceBEq, Int.reduceBNe, Int.reduceAdd, Int.reduceSub, Int.reduceMul, q1]; try refine okTr_and rfl ?_)
        ((refine FinK.finB r22 [] ?_ ?_); (· first | with_reducible rfl | (simp [e]; done) | rfl); (· simp [resAL, resA1, loadA, oneOr, e]))
    · have q2 : decide (32 < (u.bt.length : Int)) = true := decide_eq_true (by omega)
      have e := right2_no (u := u) (.inr (by omega))
      (simp only [go_sem, Nat.reduceAdd, Nat.reduceMul, Int.reduceToNat, Nat.reduceLeDiff, Int.reduceLE, Int.reduceLT, ↓reduceIte, Int.reduceBEq, Int.reduceBNe, Int.reduceAdd, Int.reduceSub, Int.reduceMul, h1, bts_length, q2]; try refine okTr_and rfl ?_)
      ((refine FinK.finB r22 [] ?_ ?_); (· first | with_reducible rfl | (simp [e]; done) | rfl); (· simp [resAL, resA1, loadA, oneOr, e]))
theorem ref35_Right2 (u : Sg2) (hs : Small2 u) : Ct Tryz.prog 22 [sg2A u] [] (fun _ => bA (right2 u)) [] (fun _ => []) := (ref35_Right20 u hs).toCt cl cl
-- long ones
theorem joinE_len5 : ∀ (l : List En), (∀ e ∈ l, e.data.length ≤ 500) → (joinE l).length ≤ 500 * l.length := by
  intro l
  induction l with
  | nil => intro _; simp [joinE]
  | cons e l ih =>
    intro h
    have h1 := h e (List.mem_cons_self ..)
    have h2 := ih fun x hx => h x (List.mem_cons_of_mem _ hx)
    have ej : joinE (e :: l) = e.data ++ joinE l := by simp [joinE]
    rw [ej, List.length_append, List.length_cons]; omega
def longB (b : Bt) : Bool := manyE b.en || decide (300 < ((joinE b.en).length : Int))
set_option maxRecDepth 100000 in
theorem law25_Long0 (b : Bt) : Does Tryz.prog 142 [btA b] [] (bA (longB b)) [] := by
  refine Does.runA Tryz.func142 b142 n142 Tryz.ntmps142 ?_; simp only [c142, go_sem, Nat.reduceAdd, Nat.reduceMul, Int.reduceToNat, Nat.reduceLeDiff, Int.reduceLE, Int.reduceLT, ↓reduceIte, Int.reduceBEq, Int.reduceBNe, Int.reduceAdd, Int.reduceSub, Int.reduceMul]; try refine okTr_and rfl ?_
  refine loop_of (α := Nat × Int) (fun a => [.any, .ref 0 0, .any, iA a.2, iA a.1, .any, .any, .any, .any, .any, .any, .any, .any, .any, .any, .any, .any, .any, .any, .any, .any, .any, .any, .any, .any, .any, .any, .any, .any, .any, .any, .any]) (fun _ => [btO b]) (fun a => a.1 ≤ b.en.length ∧ a.1 ≤ 30 ∧ (manyE b.en = false → a.2 = ((joinE (b.en.take a.1)).length : Int))) (fun a => b.en.length - a.1) (0, 0) ⟨by simp, by simp, fun _ => by simp [joinE]⟩ (Wk.to (by simp) (by simp [leT])) ?_
  rintro ⟨k, n⟩ ⟨hk, hk2, hsum⟩
  simp only at hk hk2 hsum
  have fin : (manyE b.en = false → n = ((joinE b.en).length : Int)) → (manyE b.en || decide (300 < n)) = longB b := fun h => by
    unfold longB
    cases hm : manyE b.en with
    | true => rfl
    | false => rw [h hm]
  (simp only [go_sem, Nat.reduceAdd, Nat.reduceMul, Int.reduceToNat, Nat.reduceLeDiff, Int.reduceLE, Int.reduceLT, ↓reduceIte, Int.reduceBEq, Int.reduceBNe, Int.reduceAdd, Int.reduceSub, Int.reduceMul, ens_length]; try refine okTr_and rfl ?_)
  by_cases hlt : k < b.en.length
  · have q1 : decide ((k : Int) < (b.en.length : Int)) = true := decide_eq_true (by omega)
    by_cases h3 : k < 30
    · have q2 : decide ((k : Int) < 30) = true := decide_eq_true (by omega)
      have ek := i64_succ k (by omega)
      have g := ens_get b.en k hlt
      (simp only [go_sem, Nat.reduceAdd, Nat.reduceMul, Int.reduceToNat, Nat.reduceLeDiff, Int.reduceLE, Int.reduceLT, ↓reduceIte, Int.reduceBEq, Int.reduceBNe, Int.reduceAdd, Int.reduceSub, Int.reduceMul, q1, q2, g, ens_length, Int.toNat_natCast, ints_length, ek]; try refine okTr_and rfl ?_)
      (repeat ((with_reducible refine And.intro ?_ ?_); (· exact sd)))
      refine ⟨(k + 1, IntKind.i64.wrap (n + ((b.en.getD k en0).data.length : Int))), ⟨hlt, h3, fun hm => ?_⟩, by simp only; omega, Wk.to (by simp) (by simp [leT])⟩
      simp only
      obtain ⟨m1, m2⟩ := manyE_no hm
      have hd := (longE_no (m2 _ (en_mem b.en k hlt))).2
      have hj := joinE_take b.en k hlt
      have hjl := joinE_len5 (b.en.take k) fun e he => (longE_no (m2 e (List.mem_of_mem_take he))).2
      have htl : (b.en.take k).length = k := by rw [List.length_take]; omega
      rw [hsum hm, IntWalk.i64_in _ (by omega), hj]; omega
    · have q2 : decide ((k : Int) < 30) = false := decide_eq_false (by omega)
      (simp only [go_sem, Nat.reduceAdd, Nat.reduceMul, Int.reduceToNat, Nat.reduceLeDiff, Int.reduceLE, Int.reduceLT, ↓reduceIte, Int.reduceBEq, Int.reduceBNe, Int.reduceAdd, Int.reduceSub, Int.reduceMul, q1, q2]; try refine okTr_and rfl ?_)
      refine CallK.p (law24_Many b.en) ?_
      have hM : manyE b.en = true ∨ manyE b.en = false := by cases manyE b.en <;> simp
      rcases hM with hM | hM
      · have e := fin fun h => by rw [hM] at h; cases h
        rw [hM, Bool.true_or] at e
        (simp only [go_sem, Nat.reduceAdd, Nat.reduceMul, Int.reduceToNat, Nat.reduceLeDiff, Int.reduceLE, Int.reduceLT, ↓reduceIte, Int.reduceBEq, Int.reduceBNe, Int.reduceAdd, Int.reduceSub, Int.reduceMul, hM]; try refine okTr_and rfl ?_)
        ((refine FinK.finB r142 [] ?_ ?_); (· first | with_reducible rfl | (simp [← e]; done) | rfl); (· simp [resAL, resA1, loadA, oneOr, ← e]))
      · have := (manyE_no hM).1
        have hkl : k = b.en.length := by omega
        omega
  · have q1 : decide ((k : Int) < (b.en.length : Int)) = false := decide_eq_false (by omega)
    have htk : b.en.take k = b.en := List.take_of_length_le (by omega)
    rw [htk] at hsum
    have e := fin hsum
    (simp only [go_sem, Nat.reduceAdd, Nat.reduceMul, Int.reduceToNat, Nat.reduceLeDiff, Int.reduceLE, Int.reduceLT, ↓reduceIte, Int.reduceBEq, Int.reduceBNe, Int.reduceAdd, Int.reduceSub, Int.reduceMul, q1]; try refine okTr_and rfl ?_)
    refine CallK.p (law24_Many b.en) ?_
    cases hM : manyE b.en with
    | true =>
      rw [hM, Bool.true_or] at e
      (simp only [go_sem, Nat.reduceAdd, Nat.reduceMul, Int.reduceToNat, Nat.reduceLeDiff, Int.reduceLE, Int.reduceLT, ↓reduceIte, Int.reduceBEq, Int.reduceBNe, Int.reduceAdd, Int.reduceSub, Int.reduceMul]; try refine okTr_and rfl ?_)
      ((refine FinK.finB r142 [] ?_ ?_); (· first | with_reducible rfl | (simp [← e]; done) | rfl); (· simp [resAL, resA1, loadA, oneOr, ← e]))
    | false =>
      rw [hM, Bool.false_or] at e
      (simp only [go_sem, Nat.reduceAdd, Nat.reduceMul, Int.reduceToNat, Nat.reduceLeDiff, Int.reduceLE, Int.reduceLT, ↓reduceIte, Int.reduceBEq, Int.reduceBNe, Int.reduceAdd, Int.reduceSub, Int.reduceMul, e]; try refine okTr_and rfl ?_)
      exact FinK.finA r142 []
theorem law25_Long (b : Bt) : Ct Tryz.prog 142 [btA b] [] (fun _ => bA (longB b)) [] (fun _ => []) := (law25_Long0 b).toCt cl cl
def longS (l : List Bt) : Bool := (l.take 20).any longB || decide (20 < (l.length : Int))
theorem longS_no {l : List Bt} (h : longS l = false) : l.length ≤ 20 ∧ ∀ b ∈ l, longB b = false := by
  unfold longS at h
  rw [Bool.or_eq_false_iff] at h
  have h1 : l.length ≤ 20 := by have := h.2; simp only [decide_eq_false_iff_not] at this; omega
  refine ⟨h1, fun b hb => ?_⟩
  have h2 := h.1
  rw [List.take_of_length_le h1, List.any_eq_false] at h2
  simpa using h2 b hb
set_option maxRecDepth 100000 in
theorem law34_Long0 (u : Sg2) : Does Tryz.prog 90 [sg2A u] [] (bA (longS u.bt)) [] := by
  refine Does.runA Tryz.func90 b90 n90 Tryz.ntmps90 ?_; simp only [c90, go_sem, Nat.reduceAdd, Nat.reduceMul, Int.reduceToNat, Nat.reduceLeDiff, Int.reduceLE, Int.reduceLT, ↓reduceIte, Int.reduceBEq, Int.reduceBNe, Int.reduceAdd, Int.reduceSub, Int.reduceMul]; try refine okTr_and rfl ?_
  refine loop_of (α := Nat) (fun k => [.any, .ref 0 0, .any, iA k, .any, .any, .any, .any, .any, .any, .any, .any, .any, .any, .any, .any, .any, .any, .any, .any, .any, .any, .any, .any, .any]) (fun _ => [sg2O u]) (fun k => k ≤ u.bt.length ∧ k ≤ 20 ∧ ∀ i, i < k → longB (u.bt.getD i bt0) = false) (fun k => u.bt.length - k) 0 ⟨by simp, by simp, fun i hi => by omega⟩ (Wk.to (by simp) (by simp [leT])) ?_
  rintro k ⟨hk, hk2, hall⟩
  have hno : k = u.bt.length ∨ k = 20 → (u.bt.take 20).any longB = false := fun hor => by
    rw [List.any_eq_false]
    intro t ht
    obtain ⟨i, hi, rfl⟩ := List.getElem_of_mem ht
    simp only [List.length_take] at hi
    have := hall i (by omega)
    have e : u.bt.getD i bt0 = u.bt[i]'(by omega) := by simp [show i < u.bt.length by omega]
    rw [e] at this
    simp only [List.getElem_take]
    rw [this]; decide
  (simp only [go_sem, Nat.reduceAdd, Nat.reduceMul, Int.reduceToNat, Nat.reduceLeDiff, Int.reduceLE, Int.reduceLT, ↓reduceIte, Int.reduceBEq, Int.reduceBNe, Int.reduceAdd, Int.reduceSub, Int.reduceMul, bts_length]; try refine okTr_and rfl ?_)
  by_cases hlt : k < u.bt.length
  · have q1 : decide ((k : Int) < (u.bt.length : Int)) = true := decide_eq_true (by omega)
    by_cases h3 : k < 20
    · have q2 : decide ((k : Int) < 20) = true := decide_eq_true (by omega)
      have ek := i64_succ k (by omega)
      have g := bts_get u.bt k hlt
      (simp only [go_sem, Nat.reduceAdd, Nat.reduceMul, Int.reduceToNat, Nat.reduceLeDiff, Int.reduceLE, Int.reduceLT, ↓reduceIte, Int.reduceBEq, Int.reduceBNe, Int.reduceAdd, Int.reduceSub, Int.reduceMul, q1, q2, g, bts_length, Int.toNat_natCast]; try refine okTr_and rfl ?_)
      (repeat ((with_reducible refine And.intro ?_ ?_); (· exact sd)))
      refine CallK.p (law25_Long (u.bt.getD k bt0)) ?_
      cases hL : longB (u.bt.getD k bt0) with
      | true =>
        have e : longS u.bt = true := by
          unfold longS
          rw [Bool.or_eq_true, List.any_eq_true]
          refine .inl ⟨u.bt.getD k bt0, ?_, hL⟩
          rw [List.mem_take_iff_getElem]
          exact ⟨k, by omega, by simp [hlt]⟩
        (simp only [go_sem, Nat.reduceAdd, Nat.reduceMul, Int.reduceToNat, Nat.reduceLeDiff, Int.reduceLE, Int.reduceLT, ↓reduceIte, Int.reduceBEq, Int.reduceBNe, Int.reduceAdd, Int.reduceSub, Int.reduceMul]; try refine okTr_and rfl ?_)
        ((refine FinK.finB r90 [] ?_ ?_); (· first | with_reducible rfl | (simp [e]; done) | rfl); (· simp [resAL, resA1, loadA, oneOr, e]))
      | false =>
        (simp only [go_sem, Nat.reduceAdd, Nat.reduceMul, Int.reduceToNat, Nat.reduceLeDiff, Int.reduceLE, Int.reduceLT, ↓reduceIte, Int.reduceBEq, Int.reduceBNe, Int.reduceAdd, Int.reduceSub, Int.reduceMul, ek]; try refine okTr_and rfl ?_)
        exact ⟨k + 1, ⟨hlt, h3, fun i hi => by
          rcases Nat.lt_or_ge i k with h | h
          · exact hall i h
          · obtain rfl : i = k := by omega
            exact hL⟩, by omega, Wk.to (by simp) (by simp [leT])⟩
    · have q2 : decide ((k : Int) < 20) = false := decide_eq_false (by omega)
      have e : decide (20 < (u.bt.length : Int)) = longS u.bt := by
        unfold longS; rw [hno (.inr (by omega))]; rfl
      (simp only [go_sem, Nat.reduceAdd, Nat.reduceMul, Int.reduceToNat, Nat.reduceLeDiff, Int.reduceLE, Int.reduceLT, ↓reduceIte, Int.reduceBEq, Int.reduceBNe, Int.reduceAdd, Int.reduceSub, Int.reduceMul, q1, q2, bts_length, e]; try refine okTr_and rfl ?_)
      exact FinK.finA r90 []
  · have q1 : decide ((k : Int) < (u.bt.length : Int)) = false := decide_eq_false (by omega)
    have e : decide (20 < (u.bt.length : Int)) = longS u.bt := by
      unfold longS; rw [hno (.inl (by omega))]; rfl
    (simp only [go_sem, Nat.reduceAdd, Nat.reduceMul, Int.reduceToNat, Nat.reduceLeDiff, Int.reduceLE, Int.reduceLT, ↓reduceIte, Int.reduceBEq, Int.reduceBNe, Int.reduceAdd, Int.reduceSub, Int.reduceMul, q1, bts_length, e]; try refine okTr_and rfl ?_)
    exact FinK.finA r90 []
theorem law34_Long (u : Sg2) : Ct Tryz.prog 90 [sg2A u] [] (fun _ => bA (longS u.bt)) [] (fun _ => []) := (law34_Long0 u).toCt cl cl
def long2 (l : List Bt) : Bool := decide (40 < (l.length : Int)) || (longS (l.take (l.length / 2)) || longS (l.drop (l.length / 2)))
theorem long2_no {l : List Bt} (h : long2 l = false) : l.length ≤ 40 ∧ ∀ b ∈ l, longB b = false := by
  unfold long2 at h
  rw [Bool.or_eq_false_iff, Bool.or_eq_false_iff] at h
  obtain ⟨h1, h2, h3⟩ := h
  refine ⟨by simp only [decide_eq_false_iff_not] at h1; omega, fun b hb => ?_⟩
  rw [← List.take_append_drop (l.length / 2) l] at hb
  rcases List.mem_append.1 hb with hb | hb
  · exact (longS_no h2).2 b hb
  · exact (longS_no h3).2 b hb
theorem longB_small {b : Bt} (h : longB b = false) : SmallB b ∧ b.en.length ≤ 30 ∧ (joinE b.en).length ≤ 300 := by
  unfold longB at h
  rw [Bool.or_eq_false_iff] at h
  obtain ⟨m1, m2⟩ := manyE_no h.1
  have h2 := h.2
  simp only [decide_eq_false_iff_not] at h2
  exact ⟨⟨by omega, fun e he => (longE_no (m2 e he)).1, by omega⟩, m1, by omega⟩
set_option maxRecDepth 100000 in
theorem law35_Long20 (u : Sg2) : Does Tryz.prog 23 [sg2A u] [] (bA (long2 u.bt)) [] := by
  refine Does.runA Tryz.func23 b23 n23 Tryz.ntmps23 ?_; simp only [c23, go_sem, Nat.reduceAdd, Nat.reduceMul, Int.reduceToNat, Nat.reduceLeDiff, Int.reduceLE, Int.reduceLT, ↓reduceIte, Int.reduceBEq, Int.reduceBNe, Int.reduceAdd, Int.reduceSub, Int.reduceMul, bts_length]; try refine okTr_and rfl ?_
  by_cases h : 40 < (u.bt.length : Int)
  · have q1 : decide (40 < (u.bt.length : Int)) = true := decide_eq_true h
    have e : long2 u.bt = true := by unfold long2; rw [q1]; rfl
    (simp only [go_sem, Nat.reduceAdd, Nat.reduceMul, Int.reduceToNat, Nat.reduceLeDiff, Int.reduceLE, Int.reduceLT, ↓reduceIte, Int.reduceBEq, Int.reduceBNe, Int.reduceAdd, Int.reduceSub, Int.reduceMul, q1]; try refine okTr_and rfl ?_)
    ((refine FinK.finB r23 [] ?_ ?_); (· first | with_reducible rfl | (simp [e]; done) | rfl); (· simp [resAL, resA1, loadA, oneOr, e]))
  · have q1 : decide (40 < (u.bt.length : Int)) = false := decide_eq_false h
    have hq : IntKind.i64.wrap ((u.bt.length : Int).tdiv 2) = ((u.bt.length / 2 : Nat) : Int) := by
      rw [Int.tdiv_eq_ediv_of_nonneg (by omega), IntWalk.i64_in _ (by omega)]; omega
    have hle : u.bt.length / 2 ≤ u.bt.length := by omega
    have e : long2 u.bt = (longS (u.bt.take (u.bt.length / 2)) || longS (u.bt.drop (u.bt.length / 2))) := by unfold long2; rw [q1]; rfl
    have hz : (2 : Int) ≠ 0 := by decide
    obtain ⟨m, hm⟩ : ∃ m, u.bt.length / 2 = m := ⟨_, rfl⟩
    rw [hm] at hq hle e
    (simp only [go_sem, Nat.reduceAdd, Nat.reduceMul, Int.reduceToNat, Nat.reduceLeDiff, Int.reduceLE, Int.reduceLT, ↓reduceIte, Int.reduceBEq, Int.reduceBNe, Int.reduceAdd, Int.reduceSub, Int.reduceMul, q1, hq, bts_length]; try refine okTr_and rfl ?_)
    (repeat ((with_reducible refine And.intro ?_ ?_); (· exact sd)))
    (simp only [go_sem, Nat.reduceAdd, Nat.reduceMul, Int.reduceToNat, Nat.reduceLeDiff, Int.reduceLE, Int.reduceLT, ↓reduceIte, Int.reduceBEq, Int.reduceBNe, Int.reduceAdd, Int.reduceSub, Int.reduceMul, bts_take, bts_drop, Int.sub_zero, Int.toNat_natCast, bts_length]; try refine okTr_and rfl ?_)
    (repeat ((with_reducible refine And.intro ?_ ?_); (· exact sd)))
    refine CallK.p (law34_Long ⟨0, u.bt.take m⟩) ?_
    cases h1 : longS (u.bt.take m) with
    | true =>
      rw [h1, Bool.true_or] at e
      (simp only [go_sem, Nat.reduceAdd, Nat.reduceMul, Int.reduceToNat, Nat.reduceLeDiff, Int.reduceLE, Int.reduceLT, ↓reduceIte, Int.reduceBEq, Int.reduceBNe, Int.reduceAdd, Int.reduceSub, Int.reduceMul]; try refine okTr_and rfl ?_)
      ((refine FinK.finB r23 [] ?_ ?_); (· first | with_reducible rfl | (simp [e]; done) | rfl); (· simp [resAL, resA1, loadA, oneOr, e]))
    | false =>
      rw [h1, Bool.false_or] at e
      (simp only [go_sem, Nat.reduceAdd, Nat.reduceMul, Int.reduceToNat, Nat.reduceLeDiff, Int.reduceLE, Int.reduceLT, ↓reduceIte, Int.reduceBEq, Int.reduceBNe, Int.reduceAdd, Int.reduceSub, Int.reduceMul, bts_drop, Int.toNat_natCast, bts_length]; try refine okTr_and rfl ?_)
      (repeat ((with_reducible refine And.intro ?_ ?_); (· exact sd)))
      refine CallK.p (law34_Long ⟨0, u.bt.drop m⟩) ?_; (simp only [go_sem, Nat.reduceAdd, Nat.reduceMul, Int.reduceToNat, Nat.reduceLeDiff, Int.reduceLE, Int.reduceLT, ↓reduceIte, Int.reduceBEq, Int.reduceBNe, Int.reduceAdd, Int.reduceSub, Int.reduceMul, ← e]; try refine okTr_and rfl ?_)
      exact FinK.finA r23 []
theorem law35_Long2 (u : Sg2) : Ct Tryz.prog 23 [sg2A u] [] (fun _ => bA (long2 u.bt)) [] (fun _ => []) := (law35_Long20 u).toCt cl cl
end Go.Proofs.YtnfagphepkeedaaGreat
end
section
namespace Go.Proofs.YtnfagphepkeedaaGreat
open Go.RowKit

theorem links_len35 {s : RS} {pos : Int} (h : ROk s) (p0 : 0 ≤ pos) (p1 : pos < 18446744073709551616) : Smalls (s.links pos).2 := by
  by_cases hc : (s.links pos).1.code = 0
  · obtain ⟨i1, i2, i3, i4, i5⟩ := links_is h p0 p1 hc
    obtain ⟨r1, r2, r3⟩ := rightL_iff.1 i3
    exact ⟨by omega, fun x hx => by have := (goodL_iff.1 (r3 x hx)).1; omega⟩
  · rw [links_bad hc]; exact ⟨by simp, by simp⟩
theorem lsing_fail {s : RS} (pos : Int) : (singleL (s.links pos).2 = false → s.lsing pos = (s.links pos).1.fail 3 s.at_) ∧ (singleL (s.links pos).2 = true → s.lsing pos = (s.links pos).1) := by
  unfold RS.lsing
  refine ⟨fun h => ?_, fun h => by rw [if_neg (by rw [h]; rintro ⟨_, h⟩; cases h)]⟩
  by_cases hc : (s.links pos).1.code = 0
  · rw [if_pos ⟨hc, h⟩]
  · rw [links_bad hc] at h; cases h
abbrev bO (e base : Int) : AObj := .cells [uA e, uA base, .sl .full 1 []]
abbrev entV (t : RS) (pos left : Int) : En := ⟨(t.links pos).2, ((t.lsing pos).blob left).2⟩
set_option maxRecDepth 100000 in
theorem legacy_unplain10 (t : RS) (e base : Int) (k : Nat) (left pos : Int) (ht : ROk t) (hp : IntKind.u64.wrap (base + k) = pos) (hk : k ≤ 1000000) (p0 : 0 ≤ pos) (p1 : pos < 18446744073709551616) (l0 : 0 ≤ left) (l1 : left ≤ 1048576) (hn : t.l.length * 32 ≤ 100000000000000) :
    Does Tryz.prog 122 [iA k, .ref 1 0, .ref 2 0, .ref 3 0] [rdr t, ptO 0, bO e base, inO left] (enA (entV t pos left)) [rdr ((t.lsing pos).blob left).1, ptO 0, bO e base, inO (left - ((t.lsing pos).blob left).2.length)] := by
  have w0 : IntKind.u64.wrap (k : Int) = k := IntWalk.u64_in _ (by omega)
  have hsk := lsing_keep ht p0 p1
  have hlk := links_keep ht p0 p1
  have hsm := links_len35 ht p0 p1
  have hl := blob_len2 hsk.1 (m := left) l0
  obtain ⟨f1, f2⟩ := lsing_fail (s := t) pos
  have hlr := link_Read t pos 0 p0 p1 ht hn
  have hbr := blob_Read (t.lsing pos) left 0 (by omega) hsk.1
  obtain ⟨F, hF⟩ : ∃ F, t.links pos = F := ⟨_, rfl⟩
  have hV : entV t pos left = ⟨F.2, ((t.lsing pos).blob left).2⟩ := by rw [← hF]
  rw [hF] at hlk hsm f1 f2 hlr
  rw [hV]
  obtain ⟨D, hD⟩ : ∃ D, t.lsing pos = D := ⟨_, rfl⟩
  rw [hD] at f1 f2 hl hsk hbr
  rw [hD]
  obtain ⟨X, hX⟩ : ∃ X, D.blob left = X := ⟨_, rfl⟩
  rw [hX] at hl hbr
  rw [hX]
  have w1 : IntKind.i64.wrap (left - (X.2.length : Int)) = left - (X.2.length : Int) := IntWalk.i64_in _ (by omega)
  refine Does.runA Tryz.func122 b122 n122 Tryz.ntmps122 ?_; simp only [c122, go_sem, Nat.reduceAdd, Nat.reduceMul, Int.reduceToNat, Nat.reduceLeDiff, Int.reduceLE, Int.reduceLT, ↓reduceIte, Int.reduceBEq, Int.reduceBNe, Int.reduceAdd, Int.reduceSub, Int.reduceMul, w0, hp]; try refine okTr_and rfl ?_
  refine CallK.r1 (Reader_At t 0) rfl ?_; (simp only [go_sem, Nat.reduceAdd, Nat.reduceMul, Int.reduceToNat, Nat.reduceLeDiff, Int.reduceLE, Int.reduceLT, ↓reduceIte, Int.reduceBEq, Int.reduceBNe, Int.reduceAdd, Int.reduceSub, Int.reduceMul]; try refine okTr_and rfl ?_)
  (simp only [go_sem, Nat.reduceAdd, Nat.reduceMul, Int.reduceToNat, Nat.reduceLeDiff, Int.reduceLE, Int.reduceLT, ↓reduceIte, Int.reduceBEq, Int.reduceBNe, Int.reduceAdd, Int.reduceSub, Int.reduceMul, w0, hp]; try refine okTr_and rfl ?_)
  refine CallK.u1 (hlr) rfl ?_; (simp only [go_sem, Nat.reduceAdd, Nat.reduceMul, Int.reduceToNat, Nat.reduceLeDiff, Int.reduceLE, Int.reduceLT, ↓reduceIte, Int.reduceBEq, Int.reduceBNe, Int.reduceAdd, Int.reduceSub, Int.reduceMul]; try refine okTr_and rfl ?_)
  refine CallK.p (legacy_single F.2 hsm.1) ?_
  cases h : singleL F.2 with
  | true =>
    have ee := f2 h
    (simp only [go_sem, Nat.reduceAdd, Nat.reduceMul, Int.reduceToNat, Nat.reduceLeDiff, Int.reduceLE, Int.reduceLT, ↓reduceIte, Int.reduceBEq, Int.reduceBNe, Int.reduceAdd, Int.reduceSub, Int.reduceMul, ← ee]; try refine okTr_and rfl ?_)
    refine CallK.u1 (hbr) rfl ?_; (simp only [go_sem, Nat.reduceAdd, Nat.reduceMul, Int.reduceToNat, Nat.reduceLeDiff, Int.reduceLE, Int.reduceLT, ↓reduceIte, Int.reduceBEq, Int.reduceBNe, Int.reduceAdd, Int.reduceSub, Int.reduceMul, ints_length, w1]; try refine okTr_and rfl ?_)
    exact FinK.finA r122 [0, 1, 2, 3]
  | false =>
    have ee := f1 h
    (simp only [go_sem, Nat.reduceAdd, Nat.reduceMul, Int.reduceToNat, Nat.reduceLeDiff, Int.reduceLE, Int.reduceLT, ↓reduceIte, Int.reduceBEq, Int.reduceBNe, Int.reduceAdd, Int.reduceSub, Int.reduceMul]; try refine okTr_and rfl ?_)
    refine CallK.u1 (Reader_Fail F.1 3 t.at_ 0) rfl ?_; (simp only [go_sem, Nat.reduceAdd, Nat.reduceMul, Int.reduceToNat, Nat.reduceLeDiff, Int.reduceLE, Int.reduceLT, ↓reduceIte, Int.reduceBEq, Int.reduceBNe, Int.reduceAdd, Int.reduceSub, Int.reduceMul, ← ee]; try refine okTr_and rfl ?_)
    refine CallK.u1 (hbr) rfl ?_; (simp only [go_sem, Nat.reduceAdd, Nat.reduceMul, Int.reduceToNat, Nat.reduceLeDiff, Int.reduceLE, Int.reduceLT, ↓reduceIte, Int.reduceBEq, Int.reduceBNe, Int.reduceAdd, Int.reduceSub, Int.reduceMul, ints_length, w1]; try refine okTr_and rfl ?_)
    exact FinK.finA r122 [0, 1, 2, 3]
theorem legacy_unplain1 (t : RS) (e base : Int) (k : Nat) (left pos : Int) (r b c d : Nat) (hnd : [r, b, c, d].Nodup) (ht : ROk t) (hp : IntKind.u64.wrap (base + k) = pos) (hk : k ≤ 1000000) (p0 : 0 ≤ pos) (p1 : pos < 18446744073709551616) (l0 : 0 ≤ left) (l1 : left ≤ 1048576) (hn : t.l.length * 32 ≤ 100000000000000) :
    Ct Tryz.prog 122 [iA k, .ref b 0, .ref c 0, .ref d 0] [(r, rdr t), (b, ptO r), (c, bO e base), (d, inO left)] (fun _ => enA (entV t pos left)) [(r, rdr ((t.lsing pos).blob left).1), (b, ptO r), (c, bO e base), (d, inO (left - ((t.lsing pos).blob left).2.length))] (fun _ => []) :=
  Ct.u4 (legacy_unplain10 t e base k left pos ht hp hk p0 p1 l0 l1 hn) r b c d hnd cl cl cl cl cl cl cl cl cl (by simp [rdr]) cl
theorem fall_code35 {s : RS} {b m : Int} (hc : ¬ s.code = 0) : (s.fall b m).1 = s := by
  have hi : (s.int m).1 = s := int_stays hc
  unfold RS.fall Fmt.counted
  rw [hi]
  rw [many_code (fun s acc hc => ?_) hc]
  simp only [fallF]
  rw [vint_bad hc]; simp only
  rw [if_neg (fun h => hc h.1)]
theorem links_code {s : RS} {pos : Int} (hc : ¬ s.code = 0) : (s.links pos).1 = s := by
  have hi : (s.int 16).1 = s := int_stays hc
  unfold RS.links Fmt.counted
  rw [hi]
  rw [many_code (fun s acc hc => ?_) hc]
  have hh : s.lkHead acc = s := by
    unfold RS.lkHead
    rw [vint_bad hc]; simp only
    rw [if_neg (fun h => hc h.1)]
  simp only [linkF]
  rw [hh]
  exact fall_code35 hc
theorem lsing_code {s : RS} {pos : Int} (hc : ¬ s.code = 0) : s.lsing pos = s := by
  have h1 := links_code (pos := pos) hc
  unfold RS.lsing
  rw [h1, if_neg (fun h => hc h.1)]
theorem entF_code (base : Int) : ∀ s acc, ¬ s.code = 0 → ((entF base).f s acc).1 = s := by
  intro s acc hc
  simp only [entF]
  split
  · simp only; rw [lsing_code hc, blob_code hc]
  · exact fail_stays hc
set_option maxHeartbeats 1000000 in
set_option maxRecDepth 100000 in
theorem legacy_manyE0 (u : RS) (e base : Int) (N : Nat) (hu : ROk u) (b0 : 0 ≤ base) (b1 : base < 18446744073709551616) (hN : N ≤ 1000000) (hf : u.code = 0 → base + N ≤ 4611686018427387904) (hn : u.l.length * 48 ≤ 100000000000000) :
    Does Tryz.prog 121 [.ref 0 0, iA N, .fn 122 [] [.ref 1 0, .ref 2 0, .ref 3 0]] [rdr u, ptO 0, bO e base, inO 1048576] (slE ((entF base).many N u []).2) [rdr ((entF base).many N u []).1, ptO 0, bO e base, .cells [.any]] := by
  have hF := entF_ok b0
  refine Does.runA Tryz.func121 b121 n121 Tryz.ntmps121 ?_; simp only [c121, go_sem, Nat.reduceAdd, Nat.reduceMul, Int.reduceToNat, Nat.reduceLeDiff, Int.reduceLE, Int.reduceLT, ↓reduceIte, Int.reduceBEq, Int.reduceBNe, Int.reduceAdd, Int.reduceSub, Int.reduceMul]; try refine okTr_and rfl ?_
  refine loop_of (α := RS × List En) (fun a => [.ref 0 0, .any, .fn 122 [] [.ref 1 0, .ref 2 0, .ref 3 0], .any, .any, .any, .any, .sl (.row 4) 2 (ens a.2), .any, .any, iA N, iA a.2.length, .any, .any, .any, .any, .any, .any, .any, .any, .any, .any, .any, .any, .any, .any]) (fun a => [rdr a.1, ptO 0, bO e base, inO (1048576 - (joinE a.2).length), .row 2 a.2.length]) (fun a => (entF base).On u N a ∧ (a.1.code = 0 → u.code = 0)) (fun a => N - a.2.length) (u, []) ⟨Fmt.On.start hu N, fun h => h⟩ ((Wk.row 7 2 rfl (.inr rfl) (by decide)).trans (Wk.to (by simp [joinE]) (by simp [leT, ens]))) ?_
  rintro ⟨t, acc⟩ ⟨ho, hor⟩
  have hla := ho.len
  have h1 := ho.ok
  have h2 := ho.l
  have h6 := ho.res
  have hwf := ho.wf
  simp only at h1 h2 h6 hwf hor
  have hsum := ent_sum hwf
  (simp only [go_sem, Nat.reduceAdd, Nat.reduceMul, Int.reduceToNat, Nat.reduceLeDiff, Int.reduceLE, Int.reduceLT, ↓reduceIte, Int.reduceBEq, Int.reduceBNe, Int.reduceAdd, Int.reduceSub, Int.reduceMul]; try refine okTr_and rfl ?_)
  by_cases hlt : acc.length < N
  · have q0 : decide ((acc.length : Int) < (N : Int)) = true := decide_eq_true (by omega)
    have ei := i64_succ acc.length (by omega)
    obtain ⟨pos, hpos⟩ : ∃ pos, IntKind.u64.wrap (base + (acc.length : Int)) = pos := ⟨_, rfl⟩
    have hpr : 0 ≤ pos ∧ pos < 18446744073709551616 := by
      rw [← hpos, IntKind.wrap_u64]; omega
    have hcl := legacy_unplain1 t e base acc.length (1048576 - (joinE acc).length) pos 0 1 2 3 (by decide) h1 hpos (by omega) hpr.1 hpr.2 (by omega) (by omega) (by rw [h2]; omega)
    have hff : ((entF base).f t acc).1 = ((t.lsing pos).blob (1048576 - (joinE acc).length)).1 ∧ (((t.lsing pos).blob (1048576 - (joinE acc).length)).1.code = 0 → ((entF base).f t acc).2 = entV t pos (1048576 - (joinE acc).length)) := by
      by_cases hc0 : t.code = 0
      · have hg : base + (acc.length : Int) < 4611686018427387904 := by
          have := hf (hor hc0)
          omega
        have hpe : pos = base + (acc.length : Int) := by rw [← hpos]; exact IntWalk.u64_in _ (by omega)
        rw [entF_f hg, ← hpe]
        exact ⟨rfl, fun _ => rfl⟩
      · rw [entF_code base t acc hc0, lsing_code hc0, blob_code hc0]
        exact ⟨rfl, fun hh => absurd hh hc0⟩
    have hdt : (entV t pos (1048576 - (joinE acc).length)).data = ((t.lsing pos).blob (1048576 - (joinE acc).length)).2 := rfl
    obtain ⟨V, hV⟩ : ∃ V, entV t pos (1048576 - (joinE acc).length) = V := ⟨_, rfl⟩
    rw [hV] at hff hcl hdt
    obtain ⟨D, hD⟩ : ∃ D, (t.lsing pos).blob (1048576 - (joinE acc).length) = D := ⟨_, rfl⟩
    rw [hD] at hff hcl hdt
    obtain ⟨hf1, hf2⟩ := hff
    (simp only [go_sem, Nat.reduceAdd, Nat.reduceMul, Int.reduceToNat, Nat.reduceLeDiff, Int.reduceLE, Int.reduceLT, ↓reduceIte, Int.reduceBEq, Int.reduceBNe, Int.reduceAdd, Int.reduceSub, Int.reduceMul, q0]; try refine okTr_and rfl ?_)
    refine CallK.u4 hcl rfl rfl rfl rfl ?_
    (simp only [go_sem, Nat.reduceAdd, Nat.reduceMul, Int.reduceToNat, Nat.reduceLeDiff, Int.reduceLE, Int.reduceLT, ↓reduceIte, Int.reduceBEq, Int.reduceBNe, Int.reduceAdd, Int.reduceSub, Int.reduceMul]; try refine okTr_and rfl ?_)
    refine CallK.r1 (Reader_Good D.1 0) rfl ?_; (simp only [go_sem, Nat.reduceAdd, Nat.reduceMul, Int.reduceToNat, Nat.reduceLeDiff, Int.reduceLE, Int.reduceLT, ↓reduceIte, Int.reduceBEq, Int.reduceBNe, Int.reduceAdd, Int.reduceSub, Int.reduceMul]; try refine okTr_and rfl ?_)
    by_cases hc : D.1.code = 0
    · have hg : D.1.good = true := by unfold RS.good; simpa using hc
      have hnx := ho.next hF hlt (by rw [hf1]; exact hc)
      rw [hf1, hf2 hc] at hnx
      have hrd := (hF.read t acc h1 hwf (by rw [hf1]; exact hc)).1
      have hss : (joinE (acc ++ [V])).length = (joinE acc).length + V.data.length := by rw [joinE_snoc, List.length_append]
      have e1 : 1048576 - ((joinE acc).length : Int) - (D.2.length : Int) = 1048576 - ((joinE (acc ++ [V])).length : Int) := by rw [hss, hdt]; omega
      have hsn : ens acc ++ [enA V] = ens (acc ++ [V]) := by simp [ens]
      (simp only [go_sem, Nat.reduceAdd, Nat.reduceMul, Int.reduceToNat, Nat.reduceLeDiff, Int.reduceLE, Int.reduceLT, ↓reduceIte, Int.reduceBEq, Int.reduceBNe, Int.reduceAdd, Int.reduceSub, Int.reduceMul, hg, hsn, ens_length, ei, e1]; try refine okTr_and rfl ?_)
      (repeat ((with_reducible refine And.intro ?_ ?_); (· exact sd)))
      exact ⟨(D.1, acc ++ [V]), ⟨hnx, fun _ => hor hrd⟩, by simp; omega, Wk.sel [0, 1, 2, 3, 4] (by simp) rfl (by simp) rfl (by simp [ixs_z, rdr_ren]) (by simp [selT, ixs_z, ixs])⟩
    · have hg : D.1.good = false := by unfold RS.good; simpa using hc
      have hb := many_bad (F := entF base) (s := t) hlt (by rw [hf1]; exact hc)
      rw [h6, hf1] at hb
      rw [hb]
      have hnil : ens [] = [] := rfl
      (simp only [go_sem, Nat.reduceAdd, Nat.reduceMul, Int.reduceToNat, Nat.reduceLeDiff, Int.reduceLE, Int.reduceLT, ↓reduceIte, Int.reduceBEq, Int.reduceBNe, Int.reduceAdd, Int.reduceSub, Int.reduceMul, hg]; try refine okTr_and rfl ?_)
      (refine FinK.nilk 6 2 rfl ?_; simp only [List.set_cons_zero, List.set_cons_succ])
      refine FinK.wao (ys := [.any]) 3 rfl (WaL.cons (Wa.anyL _) WaL.nil) ?_
      simp only [List.set_cons_zero, List.set_cons_succ]
      ((refine FinK.finB r121 [0, 1, 2, 3] ?_ ?_); (· first | with_reducible rfl | (simp [hnil]; done) | rfl); (· simp [resAL, resA1, loadA, oneOr, hnil]))
  · have q0 : decide ((acc.length : Int) < (N : Int)) = false := decide_eq_false (by omega)
    have he := many_end (F := entF base) (s := t) (acc := acc) (N := N) (by omega)
    rw [h6] at he
    rw [he]
    (simp only [go_sem, Nat.reduceAdd, Nat.reduceMul, Int.reduceToNat, Nat.reduceLeDiff, Int.reduceLE, Int.reduceLT, ↓reduceIte, Int.reduceBEq, Int.reduceBNe, Int.reduceAdd, Int.reduceSub, Int.reduceMul, q0]; try refine okTr_and rfl ?_)
    (refine FinK.untag 6 rfl ?_; simp only [untag1_sl, List.set_cons_zero, List.set_cons_succ])
    refine FinK.wao (ys := [.any]) 3 rfl (WaL.cons (Wa.anyL _) WaL.nil) ?_
    simp only [List.set_cons_zero, List.set_cons_succ]
    exact FinK.finA r121 [0, 1, 2, 3]
theorem legacy_manyE (u : RS) (e base : Int) (N : Nat) (hu : ROk u) (b0 : 0 ≤ base) (b1 : base < 18446744073709551616) (hN : N ≤ 1000000) (hf : u.code = 0 → base + N ≤ 4611686018427387904) (hn : u.l.length * 48 ≤ 100000000000000) (r b c d : Nat) (hnd : [r, b, c, d].Nodup) :
    Ct Tryz.prog 121 [.ref r 0, iA N, .fn 122 [] [.ref b 0, .ref c 0, .ref d 0]] [(r, rdr u), (b, ptO r), (c, bO e base), (d, inO 1048576)] (fun _ => slE ((entF base).many N u []).2) [(r, rdr ((entF base).many N u []).1), (b, ptO r), (c, bO e base), (d, .cells [.any])] (fun _ => []) :=
  Ct.u4 (legacy_manyE0 u e base N hu b0 b1 hN hf hn) r b c d hnd cl cl cl cl cl cl cl cl cl (by simp [rdr]) cl
set_option maxHeartbeats 1000000 in
set_option maxRecDepth 100000 in
theorem legacy_unplain0 (s : RS) (hs : ROk s) (hn : s.l.length ≤ 1000000) : Does Tryz.prog 54 [.ref 0 0] [rdr s] (btA s.unpl.2) [rdr (s.unpl.1)] := by
  obtain ⟨a, b⟩ := epo_keep hs epRight
  obtain ⟨c, d⟩ := epo_keep a epPos
  have hrg := epo_range a epPos
  have hck := cnt_keep c ((s.epo epRight).1.epo epPos).2 1 16
  have hcr := int_range (s := ((s.epo epRight).1.epo epPos).1) (m := 16) c.bys
  have hcs := cnt_snd ((s.epo epRight).1.epo epPos).1 ((s.epo epRight).1.epo epPos).2 1 16
  have hci := fun hc => (cnt_is c (base := ((s.epo epRight).1.epo epPos).2) (least := 1) (most := 16) hc)
  have hek := ents_keep c hrg.1
  have hem : ((s.epo epRight).1.epo epPos).1.ents ((s.epo epRight).1.epo epPos).2 = (entF ((s.epo epRight).1.epo epPos).2).many (((s.epo epRight).1.epo epPos).1.cnt ((s.epo epRight).1.epo epPos).2 1 16).2.toNat (((s.epo epRight).1.epo epPos).1.cnt ((s.epo epRight).1.epo epPos).2 1 16).1 [] := rfl
  have hun : s.unpl = ((((s.epo epRight).1.epo epPos).1.ents ((s.epo epRight).1.epo epPos).2).1.rest9, ⟨(s.epo epRight).2, ((s.epo epRight).1.epo epPos).2, (((s.epo epRight).1.epo epPos).1.ents ((s.epo epRight).1.epo epPos).2).2⟩) := rfl
  rw [hun]
  have hE1 := epoch_Read s 0 hs
  obtain ⟨E, hE⟩ : ∃ E, s.epo epRight = E := ⟨_, rfl⟩
  rw [hE] at a b c d hrg hck hcr hcs hci hek hem hE1 ⊢
  have hE2 := epoch_ReadPos E.1 0 a
  obtain ⟨P, hP⟩ : ∃ P, E.1.epo epPos = P := ⟨_, rfl⟩
  rw [hP] at c d hrg hck hcr hcs hci hek hem hE2 ⊢
  have hcn := legacy_counted P.1 P.2 1 16 0 c hrg.1 hrg.2 (by decide)
  obtain ⟨C, hC⟩ : ∃ C, P.1.cnt P.2 1 16 = C := ⟨_, rfl⟩
  rw [hC] at hck hcs hci hem hcn
  have hN : C.2 = (C.2.toNat : Int) := by omega
  have hmn := legacy_manyE C.1 E.2 P.2 C.2.toNat hck.1 hrg.1 hrg.2 (by omega) (fun hc => by have := (hci hc).2.2.2.2.2.1; omega) (by rw [hck.2, d, b]; omega) 0 1 3 4 (by decide)
  rw [← hem, ← hN] at hmn
  obtain ⟨O, hO⟩ : ∃ O, P.1.ents P.2 = O := ⟨_, rfl⟩
  rw [hO] at hek hmn ⊢
  refine Does.runA Tryz.func54 b54 n54 Tryz.ntmps54 ?_; simp only [c54, go_sem, Nat.reduceAdd, Nat.reduceMul, Int.reduceToNat, Nat.reduceLeDiff, Int.reduceLE, Int.reduceLT, ↓reduceIte, Int.reduceBEq, Int.reduceBNe, Int.reduceAdd, Int.reduceSub, Int.reduceMul]; try refine okTr_and rfl ?_
  refine CallK.u1 (hE1) rfl ?_; (simp only [go_sem, Nat.reduceAdd, Nat.reduceMul, Int.reduceToNat, Nat.reduceLeDiff, Int.reduceLE, Int.reduceLT, ↓reduceIte, Int.reduceBEq, Int.reduceBNe, Int.reduceAdd, Int.reduceSub, Int.reduceMul]; try refine okTr_and rfl ?_)
  refine CallK.u1 (hE2) rfl ?_; (simp only [go_sem, Nat.reduceAdd, Nat.reduceMul, Int.reduceToNat, Nat.reduceLeDiff, Int.reduceLE, Int.reduceLT, ↓reduceIte, Int.reduceBEq, Int.reduceBNe, Int.reduceAdd, Int.reduceSub, Int.reduceMul]; try refine okTr_and rfl ?_)
  refine CallK.u1 (hcn) rfl ?_; (simp only [go_sem, Nat.reduceAdd, Nat.reduceMul, Int.reduceToNat, Nat.reduceLeDiff, Int.reduceLE, Int.reduceLT, ↓reduceIte, Int.reduceBEq, Int.reduceBNe, Int.reduceAdd, Int.reduceSub, Int.reduceMul]; try refine okTr_and rfl ?_)
  refine CallK.u4 hmn rfl rfl rfl rfl ?_
  (simp only [go_sem, Nat.reduceAdd, Nat.reduceMul, Int.reduceToNat, Nat.reduceLeDiff, Int.reduceLE, Int.reduceLT, ↓reduceIte, Int.reduceBEq, Int.reduceBNe, Int.reduceAdd, Int.reduceSub, Int.reduceMul]; try refine okTr_and rfl ?_)
  refine CallK.u1 (Reader_End O.1 0 hek.1) rfl ?_; (simp only [go_sem, Nat.reduceAdd, Nat.reduceMul, Int.reduceToNat, Nat.reduceLeDiff, Int.reduceLE, Int.reduceLT, ↓reduceIte, Int.reduceBEq, Int.reduceBNe, Int.reduceAdd, Int.reduceSub, Int.reduceMul]; try refine okTr_and rfl ?_)
  exact FinK.finA r54 [0]
theorem legacy_unplain (s : RS) (i : Nat) (hs : ROk s) (hn : s.l.length ≤ 1000000) : Ct Tryz.prog 54 [.ref i 0] [(i, rdr s)] (fun _ => btA s.unpl.2) [(i, rdr (s.unpl.1))] (fun _ => []) := Ct.u1 (legacy_unplain0 s hs hn) i cl (fun ρ => rdr_ren ρ _) (fun ρ => rdr_ren ρ _) (rdr_dead _) cl
end Go.Proofs.YtnfagphepkeedaaGreat
end
section
namespace Go.Proofs.YtnfagphepkeedaaGreat
open Go.RowKit

theorem fault_Shift0 (c a n x : Int) (hx : IntKind.i64.wrap (a + n) = x) : Does Tryz.prog 55 [fltA (c, a), iA n] [] (fltA (flt c x)) [] := by
  refine Does.runA Tryz.func55 b55 n55 Tryz.ntmps55 ?_; simp only [c55, go_sem, Nat.reduceAdd, Nat.reduceMul, Int.reduceToNat, Nat.reduceLeDiff, Int.reduceLE, Int.reduceLT, ↓reduceIte, Int.reduceBEq, Int.reduceBNe, Int.reduceAdd, Int.reduceSub, Int.reduceMul, hx]; try refine okTr_and rfl ?_
  refine CallK.p (fault_At c x) ?_; (simp only [go_sem, Nat.reduceAdd, Nat.reduceMul, Int.reduceToNat, Nat.reduceLeDiff, Int.reduceLE, Int.reduceLT, ↓reduceIte, Int.reduceBEq, Int.reduceBNe, Int.reduceAdd, Int.reduceSub, Int.reduceMul]; try refine okTr_and rfl ?_)
  exact FinK.finA r55 []
theorem fault_Shift (c a n x : Int) (hx : IntKind.i64.wrap (a + n) = x) : Ct Tryz.prog 55 [fltA (c, a), iA n] [] (fun _ => fltA (flt c x)) [] (fun _ => []) := (fault_Shift0 c a n x hx).toCt cl cl
end Go.Proofs.YtnfagphepkeedaaGreat
end
section
namespace Go.Proofs.YtnfagphepkeedaaGreat
open Go.RowKit

abbrev bsO (ep : Int) (acc : List Bt) (j : Nat) : AObj := .cells [uA ep, .sl (.row j) 3 (bts acc)]
def batAcc (t : RS) (ep : Int) (acc : List Bt) : List Bt := if (t.frame 2097152).1.code = 0 then acc ++ [(t.bat ep acc).2] else acc
theorem frame_blen {t : RS} (ht : ROk t) (m : Int) : (t.frame m).2.length ≤ t.l.length := by
  by_cases hc : (t.frame m).1.code = 0
  · obtain ⟨f1, f2, f3, f4, f5⟩ := frame_is ht hc
    have h := congrArg List.length f5
    have k := (frame_keep ht m).1.at1
    rw [(frame_keep ht m).2] at k
    rw [List.length_take, List.length_append, List.length_take, frameB_len] at h
    unfold blobB at h
    rw [List.length_append] at h
    omega
  · rw [frame_bad hc]; simp
theorem frame_bys {t : RS} (ht : ROk t) (m : Int) : Bys (t.frame m).2 := by
  by_cases hc : (t.frame m).1.code = 0
  · exact (frame_is ht hc).2.2.1
  · rw [frame_bad hc]; intro x hx; simp at hx
set_option maxHeartbeats 1000000 in
set_option maxRecDepth 100000 in
theorem legacy_Decode210 (t : RS) (ep : Int) (acc : List Bt) (k : Int) (ht : ROk t) (hn : t.l.length ≤ 1000000) (ha : acc.length ≤ 1000000) (he : Ends acc) :
    Does Tryz.prog 51 [iA k, .ref 1 0, .ref 2 0] [rdr t, ptO 0, bsO ep acc 3, .row 3 acc.length] (btA (t.bat ep acc).2) [rdr (t.bat ep acc).1, ptO 0, bsO ep (batAcc t ep acc) 3, .row 3 (batAcc t ep acc).length] := by
  have hfk := frame_keep ht 2097152
  have hfl := frame_blen ht 2097152
  have hfb := frame_bys ht 2097152
  have hfr := frame_Read t 2097152 0 ht (by decide)
  have hb : t.bat ep acc = if (t.frame 2097152).1.code = 0 then
    (if (RS.new (t.frame 2097152).2).unpl.1.code = 0 then
      (if mayB ep acc (RS.new (t.frame 2097152).2).unpl.2 = true then ((t.frame 2097152).1, (RS.new (t.frame 2097152).2).unpl.2) else ((t.frame 2097152).1.fail 13 t.at_, (RS.new (t.frame 2097152).2).unpl.2))
    else ((t.frame 2097152).1.fail (RS.new (t.frame 2097152).2).unpl.1.code ((t.frame 2097152).1.at_ - 4 - (t.frame 2097152).2.length + (RS.new (t.frame 2097152).2).unpl.1.fat), (RS.new (t.frame 2097152).2).unpl.2))
  else ((t.frame 2097152).1, bt0) := rfl
  have hacc : batAcc t ep acc = if (t.frame 2097152).1.code = 0 then acc ++ [(t.bat ep acc).2] else acc := rfl
  obtain ⟨D, hD⟩ : ∃ D, t.frame 2097152 = D := ⟨_, rfl⟩
  rw [hD] at hfk hfl hfb hfr hb hacc
  have hq0 : ROk (RS.new D.2) := ROk.new hfb (by omega)
  have hup := legacy_unplain (RS.new D.2) 5 hq0 (by show D.2.length ≤ 1000000; omega)
  have hfa := (Fa.new D.2).unpl hq0
  have huk := unpl_keep hq0
  obtain ⟨U, hU⟩ : ∃ U, (RS.new D.2).unpl = U := ⟨_, rfl⟩
  rw [hU] at hup hfa huk hb
  have hul : U.1.l = D.2 := huk.2
  obtain ⟨fa0, fa1⟩ := hfa
  rw [hul] at fa1
  have hat0 := hfk.1.at0
  have hat1 := hfk.1.at1
  rw [hfk.2] at hat1
  have w1 : IntKind.i64.wrap (D.1.at_ - 4) = D.1.at_ - 4 := IntWalk.i64_in _ (by omega)
  have w2 : IntKind.i64.wrap (D.1.at_ - 4 - (D.2.length : Int)) = D.1.at_ - 4 - D.2.length := IntWalk.i64_in _ (by omega)
  have w3 : IntKind.i64.wrap (U.1.fat + (D.1.at_ - 4 - (D.2.length : Int))) = D.1.at_ - 4 - D.2.length + U.1.fat := by rw [IntWalk.i64_in _ (by omega)]; omega
  refine Does.runA Tryz.func51 b51 n51 Tryz.ntmps51 ?_; simp only [c51, go_sem, Nat.reduceAdd, Nat.reduceMul, Int.reduceToNat, Nat.reduceLeDiff, Int.reduceLE, Int.reduceLT, ↓reduceIte, Int.reduceBEq, Int.reduceBNe, Int.reduceAdd, Int.reduceSub, Int.reduceMul]; try refine okTr_and rfl ?_
  refine CallK.r1 (Reader_At t 0) rfl ?_; (simp only [go_sem, Nat.reduceAdd, Nat.reduceMul, Int.reduceToNat, Nat.reduceLeDiff, Int.reduceLE, Int.reduceLT, ↓reduceIte, Int.reduceBEq, Int.reduceBNe, Int.reduceAdd, Int.reduceSub, Int.reduceMul]; try refine okTr_and rfl ?_)
  refine CallK.u1 (hfr) rfl ?_; (simp only [go_sem, Nat.reduceAdd, Nat.reduceMul, Int.reduceToNat, Nat.reduceLeDiff, Int.reduceLE, Int.reduceLT, ↓reduceIte, Int.reduceBEq, Int.reduceBNe, Int.reduceAdd, Int.reduceSub, Int.reduceMul]; try refine okTr_and rfl ?_)
  refine CallK.r1 (Reader_Good D.1 0) rfl ?_; (simp only [go_sem, Nat.reduceAdd, Nat.reduceMul, Int.reduceToNat, Nat.reduceLeDiff, Int.reduceLE, Int.reduceLT, ↓reduceIte, Int.reduceBEq, Int.reduceBNe, Int.reduceAdd, Int.reduceSub, Int.reduceMul]; try refine okTr_and rfl ?_)
  by_cases hc : D.1.code = 0
  · have hg : D.1.good = true := by unfold RS.good; simpa using hc
    rw [if_pos hc] at hb hacc
    (simp only [go_sem, Nat.reduceAdd, Nat.reduceMul, Int.reduceToNat, Nat.reduceLeDiff, Int.reduceLE, Int.reduceLT, ↓reduceIte, Int.reduceBEq, Int.reduceBNe, Int.reduceAdd, Int.reduceSub, Int.reduceMul, hg]; try refine okTr_and rfl ?_)
    refine CallK.n (cursor_New D.2) ?_; (simp only [go_sem, Nat.reduceAdd, Nat.reduceMul, Int.reduceToNat, Nat.reduceLeDiff, Int.reduceLE, Int.reduceLT, ↓reduceIte, Int.reduceBEq, Int.reduceBNe, Int.reduceAdd, Int.reduceSub, Int.reduceMul]; try refine okTr_and rfl ?_)
    refine CallK.u1 (hup) rfl ?_; (simp only [go_sem, Nat.reduceAdd, Nat.reduceMul, Int.reduceToNat, Nat.reduceLeDiff, Int.reduceLE, Int.reduceLT, ↓reduceIte, Int.reduceBEq, Int.reduceBNe, Int.reduceAdd, Int.reduceSub, Int.reduceMul]; try refine okTr_and rfl ?_)
    refine CallK.r1 (Reader_Fault U.1 5) rfl ?_; (simp only [go_sem, Nat.reduceAdd, Nat.reduceMul, Int.reduceToNat, Nat.reduceLeDiff, Int.reduceLE, Int.reduceLT, ↓reduceIte, Int.reduceBEq, Int.reduceBNe, Int.reduceAdd, Int.reduceSub, Int.reduceMul]; try refine okTr_and rfl ?_)
    refine CallK.r1 (Reader_At D.1 0) rfl ?_; (simp only [go_sem, Nat.reduceAdd, Nat.reduceMul, Int.reduceToNat, Nat.reduceLeDiff, Int.reduceLE, Int.reduceLT, ↓reduceIte, Int.reduceBEq, Int.reduceBNe, Int.reduceAdd, Int.reduceSub, Int.reduceMul, ints_length, w1, w2]; try refine okTr_and rfl ?_)
    have hsh := fault_Shift U.1.code U.1.fat (D.1.at_ - 4 - D.2.length) _ w3
    by_cases hz : U.1.code = 0
    · rw [if_pos hz] at hb
      have ef : flt U.1.code (D.1.at_ - 4 - D.2.length + U.1.fat) = (0, 0) := by unfold flt; rw [if_pos hz]
      rw [ef] at hsh
      refine CallK.p (hsh) ?_; (simp only [go_sem, Nat.reduceAdd, Nat.reduceMul, Int.reduceToNat, Nat.reduceLeDiff, Int.reduceLE, Int.reduceLT, ↓reduceIte, Int.reduceBEq, Int.reduceBNe, Int.reduceAdd, Int.reduceSub, Int.reduceMul]; try refine okTr_and rfl ?_)
      refine CallK.p (fault_Good 0 0) ?_; (simp only [go_sem, Nat.reduceAdd, Nat.reduceMul, Int.reduceToNat, Nat.reduceLeDiff, Int.reduceLE, Int.reduceLT, ↓reduceIte, Int.reduceBEq, Int.reduceBNe, Int.reduceAdd, Int.reduceSub, Int.reduceMul]; try refine okTr_and rfl ?_)
      refine CallK.p (legacy_follows ep acc U.2 ha he) ?_
      cases hm : mayB ep acc U.2 with
      | true =>
        rw [if_pos hm] at hb
        rw [hb] at hacc
        rw [hb, hacc]
        simp only
        (simp only [go_sem, Nat.reduceAdd, Nat.reduceMul, Int.reduceToNat, Nat.reduceLeDiff, Int.reduceLE, Int.reduceLT, ↓reduceIte, Int.reduceBEq, Int.reduceBNe, Int.reduceAdd, Int.reduceSub, Int.reduceMul, bts_snoc, bts_length, List.length_append]; try refine okTr_and rfl ?_)
        (repeat ((with_reducible refine And.intro ?_ ?_); (· exact sd)))
        exact FinK.finA r51 [0, 1, 2, 3]
      | false =>
        rw [if_neg (by rw [hm]; decide)] at hb
        rw [hb] at hacc
        rw [hb, hacc]
        simp only
        (simp only [go_sem, Nat.reduceAdd, Nat.reduceMul, Int.reduceToNat, Nat.reduceLeDiff, Int.reduceLE, Int.reduceLT, ↓reduceIte, Int.reduceBEq, Int.reduceBNe, Int.reduceAdd, Int.reduceSub, Int.reduceMul]; try refine okTr_and rfl ?_)
        refine CallK.u1 (Reader_Fail D.1 13 t.at_ 0) rfl ?_; (simp only [go_sem, Nat.reduceAdd, Nat.reduceMul, Int.reduceToNat, Nat.reduceLeDiff, Int.reduceLE, Int.reduceLT, ↓reduceIte, Int.reduceBEq, Int.reduceBNe, Int.reduceAdd, Int.reduceSub, Int.reduceMul, bts_snoc, bts_length, List.length_append]; try refine okTr_and rfl ?_)
        (repeat ((with_reducible refine And.intro ?_ ?_); (· exact sd)))
        exact FinK.finA r51 [0, 1, 2, 3]
    · rw [if_neg hz] at hb
      have ef : flt U.1.code (D.1.at_ - 4 - D.2.length + U.1.fat) = (U.1.code, D.1.at_ - 4 - D.2.length + U.1.fat) := by unfold flt; rw [if_neg hz]
      have q : (U.1.code == 0) = false := by simpa using hz
      rw [ef] at hsh
      rw [hb] at hacc
      rw [hb, hacc]
      simp only
      refine CallK.p (hsh) ?_; (simp only [go_sem, Nat.reduceAdd, Nat.reduceMul, Int.reduceToNat, Nat.reduceLeDiff, Int.reduceLE, Int.reduceLT, ↓reduceIte, Int.reduceBEq, Int.reduceBNe, Int.reduceAdd, Int.reduceSub, Int.reduceMul]; try refine okTr_and rfl ?_)
      refine CallK.p (fault_Good U.1.code (D.1.at_ - 4 - D.2.length + U.1.fat)) ?_; (simp only [go_sem, Nat.reduceAdd, Nat.reduceMul, Int.reduceToNat, Nat.reduceLeDiff, Int.reduceLE, Int.reduceLT, ↓reduceIte, Int.reduceBEq, Int.reduceBNe, Int.reduceAdd, Int.reduceSub, Int.reduceMul, q]; try refine okTr_and rfl ?_)
      refine CallK.u1 (Reader_Fail D.1 U.1.code (D.1.at_ - 4 - D.2.length + U.1.fat) 0) rfl ?_; (simp only [go_sem, Nat.reduceAdd, Nat.reduceMul, Int.reduceToNat, Nat.reduceLeDiff, Int.reduceLE, Int.reduceLT, ↓reduceIte, Int.reduceBEq, Int.reduceBNe, Int.reduceAdd, Int.reduceSub, Int.reduceMul, bts_snoc, bts_length, List.length_append]; try refine okTr_and rfl ?_)
      (repeat ((with_reducible refine And.intro ?_ ?_); (· exact sd)))
      exact FinK.finA r51 [0, 1, 2, 3]
  · have hg : D.1.good = false := by unfold RS.good; simpa using hc
    rw [if_neg hc] at hb hacc
    rw [hb, hacc]
    have hnil : ens [] = [] := rfl
    (simp only [go_sem, Nat.reduceAdd, Nat.reduceMul, Int.reduceToNat, Nat.reduceLeDiff, Int.reduceLE, Int.reduceLT, ↓reduceIte, Int.reduceBEq, Int.reduceBNe, Int.reduceAdd, Int.reduceSub, Int.reduceMul, hg]; try refine okTr_and rfl ?_)
    (refine FinK.wao (ys := [uA 0, uA 0, slE []]) 4 rfl (by repeat (first | exact Wa.refl _ | exact WaL.nil | exact Wa.nil | exact Wa.none | refine WaL.cons ?_ ?_ | refine Wa.agg ?_ | refine Wa.slN ?_ | refine Wa.slS ?_ | exact WaL.refl _)) ?_; simp only [List.set_cons_zero, List.set_cons_succ])
    ((refine FinK.finB r51 [0, 1, 2, 3] ?_ ?_); (· first | with_reducible rfl | (simp [bt0, hnil]; done) | rfl); (· simp [resAL, resA1, loadA, oneOr, bt0, hnil]))
theorem legacy_Decode21 (t : RS) (ep : Int) (acc : List Bt) (k : Int) (ht : ROk t) (hn : t.l.length ≤ 1000000) (ha : acc.length ≤ 1000000) (he : Ends acc) (r b c d : Nat) (hnd : [r, b, c, d].Nodup) :
    Ct Tryz.prog 51 [iA k, .ref b 0, .ref c 0] [(r, rdr t), (b, ptO r), (c, bsO ep acc d), (d, .row 3 acc.length)] (fun _ => btA (t.bat ep acc).2) [(r, rdr (t.bat ep acc).1), (b, ptO r), (c, bsO ep (batAcc t ep acc) d), (d, .row 3 (batAcc t ep acc).length)] (fun _ => []) :=
  Ct.u4 (legacy_Decode210 t ep acc k ht hn ha he) r b c d hnd cl cl cl cl cl cl cl cl cl (by simp [rdr]) cl
theorem ends_wf {ep : Int} {l : List Bt} (h : Wf (batF ep).nx [] l) : Ends l := by
  intro h0
  have hm : btLast l ∈ l := by
    unfold btLast
    have : l.length - 1 < l.length := by omega
    simp [this]
  obtain ⟨i, hi, e⟩ := List.getElem_of_mem hm
  have hn := wf_get i hi h
  rw [e] at hn
  obtain ⟨r1, ⟨r2, r3⟩, r4⟩ := rightB_iff.1 hn.rt
  exact ⟨by omega, hn.ok.b0, by omega⟩
abbrev bsF (ep : Int) (F : RS × List Bt) : AObj := .cells [uA ep, if F.1.code = 0 then slB F.2 else .any]
theorem bsF_ren (ep : Int) (F : RS × List Bt) (ρ : Nat → Nat) : (bsF ep F).ren ρ = bsF ep F := by
  by_cases h : F.1.code = 0 <;> simp [h, ixs_z]
set_option maxHeartbeats 1000000 in
set_option maxRecDepth 100000 in
theorem legacy_manyB0 (u : RS) (ep : Int) (N : Nat) (hu : ROk u) (hN : N ≤ 1000000) (hn : u.l.length ≤ 1000000) :
    Does Tryz.prog 50 [.ref 0 0, iA N, .fn 51 [] [.ref 1 0, .ref 2 0]] [rdr u, ptO 0, .cells [uA ep, .sl .full 1 []]] .any [rdr ((batF ep).many N u []).1, ptO 0, bsF ep ((batF ep).many N u [])] := by
  have hF := batF_ok ep
  refine Does.runA Tryz.func50 b50 n50 Tryz.ntmps50 ?_; simp only [c50, go_sem, Nat.reduceAdd, Nat.reduceMul, Int.reduceToNat, Nat.reduceLeDiff, Int.reduceLE, Int.reduceLT, ↓reduceIte, Int.reduceBEq, Int.reduceBNe, Int.reduceAdd, Int.reduceSub, Int.reduceMul]; try refine okTr_and rfl ?_
  refine loop_of (α := RS × List Bt) (fun a => [.ref 0 0, .any, .fn 51 [] [.ref 1 0, .ref 2 0], .any, .any, .any, .any, .sl (.row 4) 3 (bts a.2), .any, .any, iA N, iA a.2.length, .any, .any, .any, .any, .any, .any, .any, .any, .any, .any, .any, .any, .any, .any]) (fun a => [rdr a.1, ptO 0, bsO ep a.2 3, .row 3 a.2.length, .row 3 a.2.length]) (fun a => (batF ep).On u N a) (fun a => N - a.2.length) (u, []) (Fmt.On.start hu N) ((Wk.rowObj 2 1 3 rfl rfl (.inr rfl) (by decide)).trans ((Wk.row 7 3 rfl (.inr rfl) (by decide)).trans (Wk.to (by rfl) (by simp [leT, bts])))) ?_
  rintro ⟨t, acc⟩ ho
  have hla := ho.len
  have h1 := ho.ok
  have h2 := ho.l
  have h6 := ho.res
  have hwf := ho.wf
  simp only at h1 h2 h6 hwf
  have hends := ends_wf hwf
  (simp only [go_sem, Nat.reduceAdd, Nat.reduceMul, Int.reduceToNat, Nat.reduceLeDiff, Int.reduceLE, Int.reduceLT, ↓reduceIte, Int.reduceBEq, Int.reduceBNe, Int.reduceAdd, Int.reduceSub, Int.reduceMul]; try refine okTr_and rfl ?_)
  by_cases hlt : acc.length < N
  · have q0 : decide ((acc.length : Int) < (N : Int)) = true := decide_eq_true (by omega)
    have ei := i64_succ acc.length (by omega)
    have hcl := legacy_Decode21 t ep acc acc.length h1 (by rw [h2]; exact hn) (by omega) hends 0 1 2 3 (by decide)
    have hff : (batF ep).f t acc = t.bat ep acc := rfl
    have hfc := bat_is (s := t) (ep := ep) (acc := acc)
    have hac : batAcc t ep acc = if (t.frame 2097152).1.code = 0 then acc ++ [(t.bat ep acc).2] else acc := rfl
    obtain ⟨D, hD⟩ : ∃ D, t.bat ep acc = D := ⟨_, rfl⟩
    rw [hD] at hcl hff hfc hac
    obtain ⟨A, hA⟩ : ∃ A, batAcc t ep acc = A := ⟨_, rfl⟩
    rw [hA] at hcl hac
    (simp only [go_sem, Nat.reduceAdd, Nat.reduceMul, Int.reduceToNat, Nat.reduceLeDiff, Int.reduceLE, Int.reduceLT, ↓reduceIte, Int.reduceBEq, Int.reduceBNe, Int.reduceAdd, Int.reduceSub, Int.reduceMul, q0]; try refine okTr_and rfl ?_)
    refine CallK.u4 hcl rfl rfl rfl rfl ?_
    (simp only [go_sem, Nat.reduceAdd, Nat.reduceMul, Int.reduceToNat, Nat.reduceLeDiff, Int.reduceLE, Int.reduceLT, ↓reduceIte, Int.reduceBEq, Int.reduceBNe, Int.reduceAdd, Int.reduceSub, Int.reduceMul]; try refine okTr_and rfl ?_)
    refine CallK.r1 (Reader_Good D.1 0) rfl ?_; (simp only [go_sem, Nat.reduceAdd, Nat.reduceMul, Int.reduceToNat, Nat.reduceLeDiff, Int.reduceLE, Int.reduceLT, ↓reduceIte, Int.reduceBEq, Int.reduceBNe, Int.reduceAdd, Int.reduceSub, Int.reduceMul]; try refine okTr_and rfl ?_)
    by_cases hc : D.1.code = 0
    · have hg : D.1.good = true := by unfold RS.good; simpa using hc
      have hnx := ho.next hF hlt (by rw [hff]; exact hc)
      rw [hff] at hnx
      rw [if_pos (hfc hc).1] at hac
      have e1 : A.length = (acc ++ [D.2]).length := by rw [hac]
      rw [hac]
      (simp only [go_sem, Nat.reduceAdd, Nat.reduceMul, Int.reduceToNat, Nat.reduceLeDiff, Int.reduceLE, Int.reduceLT, ↓reduceIte, Int.reduceBEq, Int.reduceBNe, Int.reduceAdd, Int.reduceSub, Int.reduceMul, hg, bts_snoc, bts_length, ei]; try refine okTr_and rfl ?_)
      (repeat ((with_reducible refine And.intro ?_ ?_); (· exact sd)))
      exact ⟨(D.1, acc ++ [D.2]), hnx, by simp; omega, Wk.sel [0, 1, 2, 3, 4] (by simp) rfl (by simp) rfl (by simp [ixs_z, rdr_ren, ixs]) (by simp [selT, ixs_z, ixs])⟩
    · have hg : D.1.good = false := by unfold RS.good; simpa using hc
      have hb := many_bad (F := batF ep) (s := t) hlt (by rw [hff]; exact hc)
      rw [h6, hff] at hb
      rw [hb]
      have hbf : bsF ep (D.1, []) = .cells [uA ep, .any] := by simp [bsF, hc]
      rw [hbf]
      (simp only [go_sem, Nat.reduceAdd, Nat.reduceMul, Int.reduceToNat, Nat.reduceLeDiff, Int.reduceLE, Int.reduceLT, ↓reduceIte, Int.reduceBEq, Int.reduceBNe, Int.reduceAdd, Int.reduceSub, Int.reduceMul, hg]; try refine okTr_and rfl ?_)
      refine FinK.wa (y := .any) 6 rfl (Wa.anyS _ _ _) ?_
      simp only [List.set_cons_zero, List.set_cons_succ]
      refine FinK.wao (ys := [uA ep, .any]) 2 rfl (WaL.cons (Wa.refl _) (WaL.cons (Wa.anyS _ _ _) WaL.nil)) ?_
      simp only [List.set_cons_zero, List.set_cons_succ]
      exact FinK.finA r50 [0, 1, 2]
  · have q0 : decide ((acc.length : Int) < (N : Int)) = false := decide_eq_false (by omega)
    have he := many_end (F := batF ep) (s := t) (acc := acc) (N := N) (by omega)
    rw [h6] at he
    rw [he]
    (simp only [go_sem, Nat.reduceAdd, Nat.reduceMul, Int.reduceToNat, Nat.reduceLeDiff, Int.reduceLE, Int.reduceLT, ↓reduceIte, Int.reduceBEq, Int.reduceBNe, Int.reduceAdd, Int.reduceSub, Int.reduceMul, q0]; try refine okTr_and rfl ?_)
    refine FinK.wa (y := .any) 6 rfl (Wa.anyS _ _ _) ?_
    simp only [List.set_cons_zero, List.set_cons_succ]
    by_cases hc : t.code = 0
    · have hbf : bsF ep (t, acc) = .cells [uA ep, slB acc] := by simp [bsF, hc]
      rw [hbf]
      (refine FinK.unobj 2 rfl ?_; simp only [List.set_cons_zero, List.set_cons_succ, List.map_cons, List.map_nil, untag1_lit, untag1_sl])
      exact FinK.finA r50 [0, 1, 2]
    · have hbf : bsF ep (t, acc) = .cells [uA ep, .any] := by simp [bsF, hc]
      rw [hbf]
      refine FinK.wao (ys := [uA ep, .any]) 2 rfl (WaL.cons (Wa.refl _) (WaL.cons (Wa.anyS _ _ _) WaL.nil)) ?_
      simp only [List.set_cons_zero, List.set_cons_succ]
      exact FinK.finA r50 [0, 1, 2]
theorem legacy_manyB (u : RS) (ep : Int) (N : Nat) (hu : ROk u) (hN : N ≤ 1000000) (hn : u.l.length ≤ 1000000) (r b c : Nat) (hnd : [r, b, c].Nodup) :
    Ct Tryz.prog 50 [.ref r 0, iA N, .fn 51 [] [.ref b 0, .ref c 0]] [(r, rdr u), (b, ptO r), (c, .cells [uA ep, .sl .full 1 []])] (fun _ => .any) [(r, rdr ((batF ep).many N u []).1), (b, ptO r), (c, bsF ep ((batF ep).many N u []))] (fun _ => []) :=
  Ct.u3 (legacy_manyB0 u ep N hu hN hn) r b c hnd cl cl cl cl cl cl (fun N => bsF_ren ep _ _) (by simp [rdr]) cl
def got2 (s : RS) (u : Sg2) : Sg2 × (Int × Int) := if s.code = 0 then (u, (0, 0)) else (sg20, (s.code, s.fat))
/-- Where there is a fault the segment is not looked at. -/
theorem legacy_got20 (s : RS) (u : Sg2) (x : AV) (hx : s.code = 0 → x = slB u.bt) (hr : ∀ ρ, x.ren ρ = x) (hp : x = .any ∨ ∃ l, x = slB l) : Does Tryz.prog 59 [.ref 0 0, .agg [uA u.ep, x]] [rdr s] (.tup [sg2A (got2 s u).1, fltA (got2 s u).2]) [rdr (s)] := by
  by_cases hc : s.code = 0
  · have q : (s.code == 0) = true := by simpa using hc
    have e : got2 s u = (u, (0, 0)) := by unfold got2; rw [if_pos hc]
    rw [e, hx hc]
    refine Does.runA Tryz.func59 b59 n59 Tryz.ntmps59 ?_; simp only [c59, go_sem, Nat.reduceAdd, Nat.reduceMul, Int.reduceToNat, Nat.reduceLeDiff, Int.reduceLE, Int.reduceLT, ↓reduceIte, Int.reduceBEq, Int.reduceBNe, Int.reduceAdd, Int.reduceSub, Int.reduceMul]; try refine okTr_and rfl ?_
    refine CallK.r1 (Reader_Fault s 0) rfl ?_; (simp only [go_sem, Nat.reduceAdd, Nat.reduceMul, Int.reduceToNat, Nat.reduceLeDiff, Int.reduceLE, Int.reduceLT, ↓reduceIte, Int.reduceBEq, Int.reduceBNe, Int.reduceAdd, Int.reduceSub, Int.reduceMul]; try refine okTr_and rfl ?_)
    refine CallK.p (fault_Good s.code s.fat) ?_; (simp only [go_sem, Nat.reduceAdd, Nat.reduceMul, Int.reduceToNat, Nat.reduceLeDiff, Int.reduceLE, Int.reduceLT, ↓reduceIte, Int.reduceBEq, Int.reduceBNe, Int.reduceAdd, Int.reduceSub, Int.reduceMul, q]; try refine okTr_and rfl ?_)
    exact FinK.finA r59 [0]
  · have q : (s.code == 0) = false := by simpa using hc
    have e : got2 s u = (sg20, (s.code, s.fat)) := by unfold got2; rw [if_neg hc]
    rw [e]
    refine Does.runA Tryz.func59 b59 n59 Tryz.ntmps59 ?_; simp only [c59, go_sem, Nat.reduceAdd, Nat.reduceMul, Int.reduceToNat, Nat.reduceLeDiff, Int.reduceLE, Int.reduceLT, ↓reduceIte, Int.reduceBEq, Int.reduceBNe, Int.reduceAdd, Int.reduceSub, Int.reduceMul]; try refine okTr_and rfl ?_
    refine CallK.r1 (Reader_Fault s 0) rfl ?_; (simp only [go_sem, Nat.reduceAdd, Nat.reduceMul, Int.reduceToNat, Nat.reduceLeDiff, Int.reduceLE, Int.reduceLT, ↓reduceIte, Int.reduceBEq, Int.reduceBNe, Int.reduceAdd, Int.reduceSub, Int.reduceMul]; try refine okTr_and rfl ?_)
    refine CallK.p (fault_Good s.code s.fat) ?_; (simp only [go_sem, Nat.reduceAdd, Nat.reduceMul, Int.reduceToNat, Nat.reduceLeDiff, Int.reduceLE, Int.reduceLT, ↓reduceIte, Int.reduceBEq, Int.reduceBNe, Int.reduceAdd, Int.reduceSub, Int.reduceMul, q]; try refine okTr_and rfl ?_)
    (refine FinK.wao (ys := [uA 0, slB []]) 2 rfl (by repeat (first | exact Wa.refl _ | exact WaL.nil | exact Wa.nil | exact Wa.none | refine WaL.cons ?_ ?_ | refine Wa.agg ?_ | refine Wa.slN ?_ | refine Wa.slS ?_ | exact WaL.refl _)) ?_; simp only [List.set_cons_zero, List.set_cons_succ])
    ((refine FinK.finB r59 [0] ?_ ?_); (· first | with_reducible rfl | (simp [sg20, bts_nil]; done) | rfl); (· simp [resAL, resA1, loadA, oneOr, sg20, bts_nil]))
set_option maxHeartbeats 1000000 in
set_option maxRecDepth 100000 in
theorem legacy_Decode20 (b : List Int) (hb : Bys b) (hn : b.length ≤ 1000000) : Does Tryz.prog 10 [slA .u8 b] [] (.tup [sg2A (dec2 b).1, fltA (dec2 b).2]) [] := by
  have hok : ROk (RS.new b) := ROk.new hb (by omega)
  have hbk := begin_keep hok 2
  have hir := int_range (s := (RS.new b).begin 2) (m := 32) hbk.1.bys
  have hik := hbk.1.int 32
  have hbl : (RS.new b).l = b := rfl
  have hck := counted_keep (batF_ok (RS.new b).header.2.ep) hbk.1 32
  have hdef : dec2 b = got2 (RS.new b).dec2.1 (RS.new b).dec2.2 := rfl
  have hd1 : (RS.new b).dec2 = ((((RS.new b).begin 2).bats (RS.new b).header.2.ep).1.rest9, ⟨(RS.new b).header.2.ep, (((RS.new b).begin 2).bats (RS.new b).header.2.ep).2⟩) := rfl
  rw [hdef, hd1]
  have hom : ((RS.new b).begin 2).bats (RS.new b).header.2.ep = (batF (RS.new b).header.2.ep).many (((RS.new b).begin 2).int 32).2.toNat (((RS.new b).begin 2).int 32).1 [] := rfl
  have hck1 : ROk (((RS.new b).begin 2).bats (RS.new b).header.2.ep).1 := hck.1
  have hbg := legacy_begin (RS.new b) 2 2 hok (by decide)
  obtain ⟨H, hH⟩ : ∃ H, (RS.new b).header.2 = H := ⟨_, rfl⟩
  rw [hH] at hck1 hom hbg ⊢
  obtain ⟨B, hB⟩ : ∃ B, (RS.new b).begin 2 = B := ⟨_, rfl⟩
  rw [hB] at hbk hir hik hck1 hom hbg ⊢
  have hin := varint_ReadInt B 32 2 (by decide) hbk.1.ok hbk.1.bys
  obtain ⟨C, hC⟩ : ∃ C, B.int 32 = C := ⟨_, rfl⟩
  rw [hC] at hir hik hom hin
  have hN : C.2 = (C.2.toNat : Int) := by omega
  have hmn := legacy_manyB C.1 H.ep C.2.toNat hik.1 (by omega) (by rw [hik.2, hbk.2, hbl]; exact hn) 2 3 5 (by decide)
  rw [← hom, ← hN] at hmn
  obtain ⟨O, hO⟩ : ∃ O, B.bats H.ep = O := ⟨_, rfl⟩
  rw [hO] at hck1 hmn ⊢
  obtain ⟨x, hx⟩ : ∃ x, (if O.1.code = 0 then slB O.2 else AV.any) = x := ⟨_, rfl⟩
  have hx1 : O.1.rest9.code = 0 → x = slB (⟨H.ep, O.2⟩ : Sg2).bt := fun h => by rw [← hx, if_pos (rest9_code h).1]
  have hx2 : ∀ ρ, x.ren ρ = x := fun ρ => by rw [← hx]; split <;> simp [ixs_z]
  have hx3 : x = .any ∨ ∃ l, x = slB l := by
    rw [← hx]; split
    · exact .inr ⟨_, rfl⟩
    · exact .inl rfl
  have hbf : bsF H.ep O = .cells [uA H.ep, x] := by rw [← hx]
  rw [hbf] at hmn
  have hgt := legacy_got20 O.1.rest9 ⟨H.ep, O.2⟩ x hx1 hx2 hx3
  have hgc : Ct Tryz.prog 59 [.ref 2 0, .agg [uA H.ep, x]] [(2, rdr O.1.rest9)] (fun _ => .tup [sg2A (got2 O.1.rest9 ⟨H.ep, O.2⟩).1, fltA (got2 O.1.rest9 ⟨H.ep, O.2⟩).2]) [] (fun _ => []) :=
    Ct.r1 hgt 2 (by intros; simp [ixs_z, ixs, hx2]) (fun ρ => rdr_ren ρ _) (rdr_dead _) cl
  have hut : untag1 x = x := by rcases hx3 with h | ⟨l, h⟩ <;> rw [h] <;> rfl
  refine Does.runA Tryz.func10 b10 n10 Tryz.ntmps10 ?_; simp only [c10, go_sem, Nat.reduceAdd, Nat.reduceMul, Int.reduceToNat, Nat.reduceLeDiff, Int.reduceLE, Int.reduceLT, ↓reduceIte, Int.reduceBEq, Int.reduceBNe, Int.reduceAdd, Int.reduceSub, Int.reduceMul]; try refine okTr_and rfl ?_
  refine CallK.n (cursor_New b) ?_; (simp only [go_sem, Nat.reduceAdd, Nat.reduceMul, Int.reduceToNat, Nat.reduceLeDiff, Int.reduceLE, Int.reduceLT, ↓reduceIte, Int.reduceBEq, Int.reduceBNe, Int.reduceAdd, Int.reduceSub, Int.reduceMul]; try refine okTr_and rfl ?_)
  refine CallK.u1 (hbg) rfl ?_; (simp only [go_sem, Nat.reduceAdd, Nat.reduceMul, Int.reduceToNat, Nat.reduceLeDiff, Int.reduceLE, Int.reduceLT, ↓reduceIte, Int.reduceBEq, Int.reduceBNe, Int.reduceAdd, Int.reduceSub, Int.reduceMul]; try refine okTr_and rfl ?_)
  refine CallK.u1 (hin) rfl ?_; (simp only [go_sem, Nat.reduceAdd, Nat.reduceMul, Int.reduceToNat, Nat.reduceLeDiff, Int.reduceLE, Int.reduceLT, ↓reduceIte, Int.reduceBEq, Int.reduceBNe, Int.reduceAdd, Int.reduceSub, Int.reduceMul]; try refine okTr_and rfl ?_)
  refine CallK.u3 hmn rfl rfl rfl ?_
  (simp only [go_sem, Nat.reduceAdd, Nat.reduceMul, Int.reduceToNat, Nat.reduceLeDiff, Int.reduceLE, Int.reduceLT, ↓reduceIte, Int.reduceBEq, Int.reduceBNe, Int.reduceAdd, Int.reduceSub, Int.reduceMul]; try refine okTr_and rfl ?_)
  refine CallK.u1 (Reader_End O.1 2 hck1) rfl ?_; (simp only [go_sem, Nat.reduceAdd, Nat.reduceMul, Int.reduceToNat, Nat.reduceLeDiff, Int.reduceLE, Int.reduceLT, ↓reduceIte, Int.reduceBEq, Int.reduceBNe, Int.reduceAdd, Int.reduceSub, Int.reduceMul]; try refine okTr_and rfl ?_)
  refine CallK.r1 (i := 2) (o := rdr O.1.rest9) (r := .tup [sg2A (got2 O.1.rest9 ⟨H.ep, O.2⟩).1, fltA (got2 O.1.rest9 ⟨H.ep, O.2⟩).2]) (show Ct _ _ [.ref 2 0, .agg [uA H.ep, untag1 x]] _ _ _ _ from by rw [hut]; exact hgc) rfl ?_
  (simp only [go_sem, Nat.reduceAdd, Nat.reduceMul, Int.reduceToNat, Nat.reduceLeDiff, Int.reduceLE, Int.reduceLT, ↓reduceIte, Int.reduceBEq, Int.reduceBNe, Int.reduceAdd, Int.reduceSub, Int.reduceMul]; try refine okTr_and rfl ?_)
  exact FinK.finA r10 []
theorem legacy_Decode2 (b : List Int) (hb : Bys b) (hn : b.length ≤ 1000000) : Ct Tryz.prog 10 [slA .u8 b] [] (fun _ => .tup [sg2A (dec2 b).1, fltA (dec2 b).2]) [] (fun _ => []) := (legacy_Decode20 b hb hn).toCt cl cl
end Go.Proofs.YtnfagphepkeedaaGreat
end
section
namespace Go.Proofs.YtnfagphepkeedaaGreat
open Go.RowKit

structure S2 where
  t : RS
  xs : List AV
  i : Nat
structure S2.ok (ep : Int) (u : RS) (N : Nat) (s : S2) : Prop where
  i : s.i ≤ N
  x : s.xs.length ≤ N
  st : (∃ acc, s.xs = bts acc ∧ acc.length = s.i ∧ (batF ep).On u N (s.t, acc)) ∨ (¬ s.t.code = 0 ∧ (batF ep).many N u [] = (s.t, []))
  k : 3 ≤ 3
  okx : ∀ ρ : Nat → Nat, s.xs.map (fun x => x.ren ρ) = s.xs
end Go.Proofs.YtnfagphepkeedaaGreat
end
section
namespace Go.Proofs.YtnfagphepkeedaaGreat
open Go.RowKit

theorem encE_take {base : Int} {l : List En} {k : Nat} (h : k < l.length) : encs (entF base).enc [] (l.take (k + 1)) = encs (entF base).enc [] (l.take k) ++ (linksB (base + k) (l.getD k en0).lk ++ blobB (l.getD k en0).data) := by
  have el : (l.take k).length = k := by rw [List.length_take]; omega
  rw [en_take l k h, encs_snoc, List.nil_append]
  simp only [entF]
  rw [el]
theorem encE_le {base : Int} {l : List En} : ∀ k, k ≤ l.length → (encs (entF base).enc [] (l.take k)).length ≤ (encs (entF base).enc [] l).length := by
  intro k hk
  have gen : ∀ n, k + n = l.length → (encs (entF base).enc [] (l.take k)).length ≤ (encs (entF base).enc [] l).length := by
    intro n
    induction n generalizing k with
    | zero => intro h; rw [List.take_of_length_le (by omega)]; exact Nat.le_refl _
    | succ n ih =>
      intro h
      have h1 := ih (k + 1) (by omega) (by omega)
      rw [encE_take (by omega), List.length_append] at h1
      omega
  exact gen (l.length - k) (by omega)
set_option maxHeartbeats 2000000 in
set_option maxRecDepth 100000 in
theorem legacy_plain0 (b : Bt) (hb : b.ok) (hs : SmallB b) (hr : rightB b = true) (hsg : singleB b = true) : Does Tryz.prog 87 [btA b] [] (slA .u8 (plB b)) [] := by
  obtain ⟨g1, ⟨⟨g2, g2'⟩, g3, g4⟩, hwf⟩ := (rightB_wf hb.en).1 ⟨hr, hsg⟩
  obtain ⟨r1, r2, r3, r4⟩ := rightB_iff.1 hr
  have hen := encs_ents hb.b0 hwf
  have hes := ent_sum hwf
  have b0 := hb.b0
  obtain ⟨Z, hZ⟩ : ∃ Z : Nat → Nat, Z = fun k => (encs (entF b.base).enc [] (b.en.take k)).length := ⟨_, rfl⟩
  have hZ0 : Z 0 = 0 := by rw [hZ]; simp [encs]
  have hZn : Z b.en.length = (encs (entF b.base).enc [] b.en).length := by rw [hZ]; simp
  have hZs : ∀ k, k < b.en.length → Z (k + 1) = Z k + ((linksB (b.base + k) (b.en.getD k en0).lk).length + ((vb ((b.en.getD k en0).data.length : Int)).length + (b.en.getD k en0).data.length)) := fun k hk => by
    rw [hZ]; simp only; rw [encE_take hk]; simp only [blobB, List.length_append]
  have hZl : ∀ k, k ≤ b.en.length → Z k ≤ 1070000 := fun k hk => by
    have := encE_le (base := b.base) (l := b.en) k hk
    rw [hZ]; simp only; omega
  refine Does.runA Tryz.func87 b87 n87 Tryz.ntmps87 ?_; simp only [c87, go_sem, Nat.reduceAdd, Nat.reduceMul, Int.reduceToNat, Nat.reduceLeDiff, Int.reduceLE, Int.reduceLT, ↓reduceIte, Int.reduceBEq, Int.reduceBNe, Int.reduceAdd, Int.reduceSub, Int.reduceMul, ens_length]; try refine okTr_and rfl ?_
  refine loop_of (α := Nat) (fun k => [.any, .ref 0 0, .any, iA (30 + (Z k : Int)), .any, .any, .any, .any, .any, .any, .any, .any, slE b.en, iA b.en.length, iA k, .any, .any, .any, .any, .any, .any, .any, .any, .any, .any, .any, .any, .any, .any, .any, .any, .any, .any, .any, .any, .any, .any, .any, .any, .any, .any, .any, .any, .any, .any, .any, .any, .any, .any, .any, .any, .any, .any, .any, .any, .any, .any, .any, .any, .any, .any, .any, .any, .any, .any, .any, .any, .any, .any, .any, .any, .any, .any, .any, .any, .any, .any]) (fun _ => [btO b]) (fun k => k ≤ b.en.length) (fun k => b.en.length - k) 0 (by simp) (Wk.to (by simp) (by simp [leT, hZ0])) ?_
  intro k hk
  (simp only [go_sem, Nat.reduceAdd, Nat.reduceMul, Int.reduceToNat, Nat.reduceLeDiff, Int.reduceLE, Int.reduceLT, ↓reduceIte, Int.reduceBEq, Int.reduceBNe, Int.reduceAdd, Int.reduceSub, Int.reduceMul]; try refine okTr_and rfl ?_)
  by_cases hlt : k < b.en.length
  · have q1 : decide ((k : Int) < (b.en.length : Int)) = true := decide_eq_true (by omega)
    have ek := i64_succ k (by omega)
    have g := ens_get b.en k hlt
    have hm := en_mem b.en k hlt
    have hz := hZs k hlt
    have hzl := hZl (k + 1) hlt
    have hrk := r4 k hlt
    have hok := hb.en _ hm
    have hsm := hs.e _ hm
    have wk : IntKind.u64.wrap (k : Int) = k := IntWalk.u64_in _ (by omega)
    have wp : IntKind.u64.wrap (b.base + (k : Int)) = b.base + k := IntWalk.u64_in _ (by omega)
    obtain ⟨e, he⟩ : ∃ e, b.en.getD k en0 = e := ⟨_, rfl⟩
    rw [he] at g hm hz hrk hok hsm
    have hsz : sizeE (b.base + k) e = ((linksB (b.base + k) e.lk).length : Int) + (vb (e.data.length : Int)).length := by
      unfold sizeE; rw [if_pos hrk]; unfold headE; rw [List.length_append]; omega
    have hhs := entry_HeadSize (b.base + k) e hok hsm (by omega) (by omega)
    obtain ⟨y, hy⟩ : ∃ y, sizeE (b.base + k) e = y := ⟨_, rfl⟩
    rw [hy] at hsz hhs
    have w1 : IntKind.i64.wrap (y + (e.data.length : Int)) = y + e.data.length := IntWalk.i64_in _ (by omega)
    have w2 : IntKind.i64.wrap (30 + (Z k : Int) + (y + (e.data.length : Int))) = 30 + (Z (k + 1) : Nat) := by rw [IntWalk.i64_in _ (by omega)]; omega
    (simp only [go_sem, Nat.reduceAdd, Nat.reduceMul, Int.reduceToNat, Nat.reduceLeDiff, Int.reduceLE, Int.reduceLT, ↓reduceIte, Int.reduceBEq, Int.reduceBNe, Int.reduceAdd, Int.reduceSub, Int.reduceMul, q1, g, ens_length, Int.toNat_natCast, wk, wp]; try refine okTr_and rfl ?_)
    (repeat ((with_reducible refine And.intro ?_ ?_); (· exact sd)))
    refine CallK.p (hhs) ?_; (simp only [go_sem, Nat.reduceAdd, Nat.reduceMul, Int.reduceToNat, Nat.reduceLeDiff, Int.reduceLE, Int.reduceLT, ↓reduceIte, Int.reduceBEq, Int.reduceBNe, Int.reduceAdd, Int.reduceSub, Int.reduceMul, ints_length, w1, w2, ek]; try refine okTr_and rfl ?_)
    (repeat ((with_reducible refine And.intro ?_ ?_); (· exact sd)))
    exact ⟨k + 1, hlt, by omega, Wk.sel [0] (by simp) rfl (by simp) rfl (by simp [ixs_z]) (by simp [selT, ixs_z])⟩
  · have q1 : decide ((k : Int) < (b.en.length : Int)) = false := decide_eq_false (by omega)
    have ek : k = b.en.length := by omega
    subst ek
    have hzl := hZl _ (Nat.le_refl b.en.length)
    obtain ⟨m, hm⟩ : ∃ m : Int, 30 + (Z b.en.length : Int) = m := ⟨_, rfl⟩
    have f0 : (WS.new m).fine := WS.fine.new (by omega)
    have w4 : IntKind.u64.wrap (b.en.length : Int) = b.en.length := IntWalk.u64_in _ (by omega)
    have v1 := (vb_len b.ep).2
    have v2 := (vb_len b.base).2
    have v3 := (vb_len (b.en.length : Int)).2
    have a1 : (WS.new m).epput b.ep (epRight b.ep) = ⟨m, vb b.ep, 0⟩ := by
      unfold WS.epput; rw [if_pos (epRight_iff.2 g1), WS.new_is (by omega), put_fit rfl (by simp; omega)]; simp
    have a2 : (⟨m, vb b.ep, 0⟩ : WS).epput b.base (epPos b.base) = ⟨m, vb b.ep ++ vb b.base, 0⟩ := by
      unfold WS.epput; rw [if_pos (epPos_iff.2 g3), put_fit rfl (by simp only; omega)]
    have a3 : (⟨m, vb b.ep ++ vb b.base, 0⟩ : WS).put (vb (b.en.length : Int)) = ⟨m, vb b.ep ++ vb b.base ++ vb (b.en.length : Int), 0⟩ := by
      rw [put_fit rfl (by simp only [List.length_append]; omega)]
    have f1 : (⟨m, vb b.ep, 0⟩ : WS).fine := ⟨by simp only; omega, by simp only; omega, by simp only; omega⟩
    have f2 : (⟨m, vb b.ep ++ vb b.base, 0⟩ : WS).fine := ⟨by simp only; omega, by simp only; omega, by simp only [List.length_append]; omega⟩
    obtain ⟨A, hA⟩ : ∃ A, vb b.ep ++ vb b.base ++ vb (b.en.length : Int) = A := ⟨_, rfl⟩
    have hAl : A.length ≤ 30 := by rw [← hA]; simp only [List.length_append]; omega
    rw [hA] at a3
    obtain ⟨W, hW⟩ : ∃ W : Nat → WS, W = fun k => ⟨m, A ++ encs (entF b.base).enc [] (b.en.take k), 0⟩ := ⟨_, rfl⟩
    have hlen : ∀ k, k ≤ b.en.length → (A ++ encs (entF b.base).enc [] (b.en.take k)).length ≤ m := fun k hk => by
      have := encE_le (base := b.base) (l := b.en) k hk
      rw [List.length_append]; omega
    have hfine : ∀ k, k ≤ b.en.length → (W k).fine := fun k hk => by
      have := hlen k hk
      rw [hW]; exact ⟨by simp only; omega, by simp only; omega, by simp only; omega⟩
    have hW0 : (⟨m, A, 0⟩ : WS) = W 0 := by rw [hW]; simp [encs]
    rw [hW0] at a3
    have hWn : ∀ k, k < b.en.length → ((((W k).links (b.base + k) (b.en.getD k en0).lk).put (vb ((b.en.getD k en0).data.length : Int))).put (b.en.getD k en0).data) = W (k + 1) := fun k hk => by
      have hl := hlen (k + 1) hk
      rw [encE_take hk] at hl
      unfold blobB at hl
      simp only [List.length_append] at hl
      obtain ⟨X, hX⟩ : ∃ X, A ++ encs (entF b.base).enc [] (b.en.take k) = X := ⟨_, rfl⟩
      have hXl := congrArg List.length hX
      rw [List.length_append] at hXl
      have p0 : W k = ⟨m, X, 0⟩ := by rw [hW, ← hX]
      have p1 := links_fit (s := ⟨m, X, 0⟩) (rightE_iff.1 (r4 k hk)).1 rfl (by simp only; omega)
      have p2 := put_fit (s := ⟨m, X ++ linksB (b.base + k) (b.en.getD k en0).lk, 0⟩) (m := vb ((b.en.getD k en0).data.length : Int)) rfl (by simp only [List.length_append]; omega)
      have p3 := put_fit (s := ⟨m, X ++ linksB (b.base + k) (b.en.getD k en0).lk ++ vb ((b.en.getD k en0).data.length : Int), 0⟩) (m := (b.en.getD k en0).data) rfl (by simp only [List.length_append]; omega)
      simp only at p1 p2 p3
      rw [p0, p1, p2, p3, hW]
      simp only
      rw [encE_take hk, ← hX]
      simp only [List.append_assoc, blobB]
    have hfin : (W b.en.length).bytes = plB b := by
      rw [hW]; unfold WS.bytes plB; simp only [if_true, List.take_length]; rw [← hA]; simp only [List.append_assoc]
    (simp only [go_sem, Nat.reduceAdd, Nat.reduceMul, Int.reduceToNat, Nat.reduceLeDiff, Int.reduceLE, Int.reduceLT, ↓reduceIte, Int.reduceBEq, Int.reduceBNe, Int.reduceAdd, Int.reduceSub, Int.reduceMul, q1, hm]; try refine okTr_and rfl ?_)
    refine CallK.n (pen_New m) ?_; (simp only [go_sem, Nat.reduceAdd, Nat.reduceMul, Int.reduceToNat, Nat.reduceLeDiff, Int.reduceLE, Int.reduceLT, ↓reduceIte, Int.reduceBEq, Int.reduceBNe, Int.reduceAdd, Int.reduceSub, Int.reduceMul]; try refine okTr_and rfl ?_)
    refine CallK.u2 (epoch_Put (WS.new m) b.ep 1 2 (by decide) hb.e0 hb.e1 f0) rfl rfl ?_; (simp only [go_sem, Nat.reduceAdd, Nat.reduceMul, Int.reduceToNat, Nat.reduceLeDiff, Int.reduceLE, Int.reduceLT, ↓reduceIte, Int.reduceBEq, Int.reduceBNe, Int.reduceAdd, Int.reduceSub, Int.reduceMul, a1]; try refine okTr_and rfl ?_)
    refine CallK.u2 (epoch_PutPos ⟨m, vb b.ep, 0⟩ b.base 1 2 (by decide) hb.b0 hb.b1 f1) rfl rfl ?_; (simp only [go_sem, Nat.reduceAdd, Nat.reduceMul, Int.reduceToNat, Nat.reduceLeDiff, Int.reduceLE, Int.reduceLT, ↓reduceIte, Int.reduceBEq, Int.reduceBNe, Int.reduceAdd, Int.reduceSub, Int.reduceMul, a2, ens_length, w4]; try refine okTr_and rfl ?_)
    refine CallK.u2 (varint_Put ⟨m, vb b.ep ++ vb b.base, 0⟩ b.en.length 1 2 (by decide) (by omega) (by omega) f2.ok (f2.room _)) rfl rfl ?_; (simp only [go_sem, Nat.reduceAdd, Nat.reduceMul, Int.reduceToNat, Nat.reduceLeDiff, Int.reduceLE, Int.reduceLT, ↓reduceIte, Int.reduceBEq, Int.reduceBNe, Int.reduceAdd, Int.reduceSub, Int.reduceMul, a3, ens_length]; try refine okTr_and rfl ?_)
    refine loop_of (α := Nat) (fun k => [.any, .ref 0 0, .any, .any, .any, .any, .ref 1 0, .any, .any, .any, .any, .any, .any, .any, .any, .any, .any, .any, .any, .any, .any, .any, .any, .any, .any, .any, .any, .any, .any, .any, .any, .any, .any, .any, .any, .any, .any, .any, .any, .any, .any, .any, .any, .any, .any, .any, .any, .any, .any, .any, slE b.en, iA b.en.length, iA k, .any, .any, .any, .any, .any, .any, .any, .any, .any, .any, .any, .any, .any, .any, .any, .any, .any, .any, .any, .any, .any, .any, .any, .any]) (fun k => [btO b, wob 2 (W k), wrow (W k)]) (fun k => k ≤ b.en.length) (fun k => b.en.length - k) 0 (by simp) (Wk.to (by rfl) (by simp [leT])) ?_
    intro k hk
    (simp only [go_sem, Nat.reduceAdd, Nat.reduceMul, Int.reduceToNat, Nat.reduceLeDiff, Int.reduceLE, Int.reduceLT, ↓reduceIte, Int.reduceBEq, Int.reduceBNe, Int.reduceAdd, Int.reduceSub, Int.reduceMul]; try refine okTr_and rfl ?_)
    by_cases hlt : k < b.en.length
    · have q1 : decide ((k : Int) < (b.en.length : Int)) = true := decide_eq_true (by omega)
      have ek := i64_succ k (by omega)
      have g := ens_get b.en k hlt
      have hm := en_mem b.en k hlt
      have hok := hb.en _ hm
      have hsm := hs.e _ hm
      have hwn := hWn k hlt
      have hf := hfine k (by omega)
      have wk : IntKind.u64.wrap (k : Int) = k := IntWalk.u64_in _ (by omega)
      have wp : IntKind.u64.wrap (b.base + (k : Int)) = b.base + k := IntWalk.u64_in _ (by omega)
      obtain ⟨e, he⟩ : ∃ e, b.en.getD k en0 = e := ⟨_, rfl⟩
      rw [he] at g hm hok hsm hwn
      (simp only [go_sem, Nat.reduceAdd, Nat.reduceMul, Int.reduceToNat, Nat.reduceLeDiff, Int.reduceLE, Int.reduceLT, ↓reduceIte, Int.reduceBEq, Int.reduceBNe, Int.reduceAdd, Int.reduceSub, Int.reduceMul, q1, g, ens_length, Int.toNat_natCast, wk, wp]; try refine okTr_and rfl ?_)
      (repeat ((with_reducible refine And.intro ?_ ?_); (· exact sd)))
      refine CallK.u2 (link_Put (W k) (b.base + k) e.lk 1 2 (by decide) hf hok.lk hsm.1 (by omega) (by omega)) rfl rfl ?_; (simp only [go_sem, Nat.reduceAdd, Nat.reduceMul, Int.reduceToNat, Nat.reduceLeDiff, Int.reduceLE, Int.reduceLT, ↓reduceIte, Int.reduceBEq, Int.reduceBNe, Int.reduceAdd, Int.reduceSub, Int.reduceMul]; try refine okTr_and rfl ?_)
      refine CallK.u2 (blob_Put ((W k).links (b.base + k) e.lk) e.data 1 2 (by decide) (hf.links _ _) (by have := hsm.2; omega)) rfl rfl ?_; (simp only [go_sem, Nat.reduceAdd, Nat.reduceMul, Int.reduceToNat, Nat.reduceLeDiff, Int.reduceLE, Int.reduceLT, ↓reduceIte, Int.reduceBEq, Int.reduceBNe, Int.reduceAdd, Int.reduceSub, Int.reduceMul, hwn, ek]; try refine okTr_and rfl ?_)
      exact ⟨k + 1, hlt, by omega, Wk.sel [0, 1, 2] (by simp) rfl (by simp) rfl (by simp [ixs_z, wob_ren, wrow_ren, ixs]) (by simp [selT, ixs_z, ixs])⟩
    · have q1 : decide ((k : Int) < (b.en.length : Int)) = false := decide_eq_false (by omega)
      have ek : k = b.en.length := by omega
      subst ek
      have hff := (hfine _ (Nat.le_refl _)).len
      (simp only [go_sem, Nat.reduceAdd, Nat.reduceMul, Int.reduceToNat, Nat.reduceLeDiff, Int.reduceLE, Int.reduceLT, ↓reduceIte, Int.reduceBEq, Int.reduceBNe, Int.reduceAdd, Int.reduceSub, Int.reduceMul, q1]; try refine okTr_and rfl ?_)
      refine CallK.r2 (Writer_Bytes (W b.en.length) 1 2 (by decide) hff) rfl rfl ?_; (simp only [go_sem, Nat.reduceAdd, Nat.reduceMul, Int.reduceToNat, Nat.reduceLeDiff, Int.reduceLE, Int.reduceLT, ↓reduceIte, Int.reduceBEq, Int.reduceBNe, Int.reduceAdd, Int.reduceSub, Int.reduceMul, hfin]; try refine okTr_and rfl ?_)
      exact FinK.finA r87 []
theorem legacy_plain (b : Bt) (hb : b.ok) (hs : SmallB b) (hr : rightB b = true) (hsg : singleB b = true) : Ct Tryz.prog 87 [btA b] [] (fun _ => slA .u8 (plB b)) [] (fun _ => []) := (legacy_plain0 b hb hs hr hsg).toCt cl cl
def bytes2 (u : Sg2) : List Int := if right2 u = true then seg2B u else []
def err2 (u : Sg2) : Int := if right2 u = true then 0 else 3
theorem encB_take {ep : Int} {l : List Bt} {k : Nat} (h : k < l.length) : encs (batF ep).enc [] (l.take (k + 1)) = encs (batF ep).enc [] (l.take k) ++ frameB (plB (l.getD k bt0)) := by
  rw [bt_take l k h, encs_snoc]; rfl
theorem encB_le {ep : Int} {l : List Bt} (h : Wf (batF ep).nx [] l) : ∀ k, k ≤ l.length → (encs (batF ep).enc [] (l.take k)).length ≤ 1080014 * k := fun k hk => by
  have h1 := encs_bats (wf_take k h)
  rw [List.length_take, Nat.min_eq_left hk] at h1
  exact h1
set_option maxHeartbeats 1000000 in
set_option maxRecDepth 100000 in
theorem legacy_Bytes20 (u : Sg2) (hs : Small2 u) : Does Tryz.prog 21 [sg2A u] [] (.tup [slA .u8 (bytes2 u), iA (err2 u)]) [] := by
  have hR := legacy_Right2 u hs
  refine Does.runA Tryz.func21 b21 n21 Tryz.ntmps21 ?_; simp only [c21, go_sem, Nat.reduceAdd, Nat.reduceMul, Int.reduceToNat, Nat.reduceLeDiff, Int.reduceLE, Int.reduceLT, ↓reduceIte, Int.reduceBEq, Int.reduceBNe, Int.reduceAdd, Int.reduceSub, Int.reduceMul]; try refine okTr_and rfl ?_
  refine CallK.p (hR) ?_
  by_cases hr : right2 u = true
  · have e1 : bytes2 u = seg2B u := by unfold bytes2; rw [if_pos hr]
    have e2 : err2 u = 0 := by unfold err2; rw [if_pos hr]
    obtain ⟨h1, h2, hwf⟩ := (right2_wf hs.ok).1 hr
    have hsl := seg2_len hs.ok hr
    have w4 : IntKind.u64.wrap (u.bt.length : Int) = u.bt.length := IntWalk.u64_in _ (by omega)
    have hho := header_BytesO ⟨2, u.ep, 0⟩ (rightH2 hr) (Int.le_refl 0)
    have hsg : seg2B u = headerB ⟨2, u.ep, 0⟩ ++ (vb u.bt.length ++ encs (batF u.ep).enc [] u.bt) := rfl
    have hhl := (plainB_len ⟨2, u.ep, 0⟩).2
    have hhl2 := headerB_len ⟨2, u.ep, 0⟩
    have hvl := (vb_len (u.bt.length : Int)).2
    obtain ⟨HB, hHB⟩ : ∃ HB, headerB ⟨2, u.ep, 0⟩ = HB := ⟨_, rfl⟩
    rw [hHB] at hho hsg hhl2
    obtain ⟨W, hW⟩ : ∃ W : Nat → List Int, W = fun k => HB ++ (vb (u.bt.length : Int) ++ encs (batF u.ep).enc [] (u.bt.take k)) := ⟨_, rfl⟩
    have hW0 : HB ++ vb (u.bt.length : Int) = W 0 := by rw [hW]; simp [encs]
    have hlen : ∀ k, k ≤ u.bt.length → (W k).length ≤ 40000000 := fun k hk => by
      have := encB_le hwf k hk
      rw [hW]; simp only [List.length_append]; omega
    have hWn : ∀ k, k < u.bt.length → W k ++ frameB (plB (u.bt.getD k bt0)) = W (k + 1) := fun k hk => by
      rw [hW]; simp only; rw [encB_take hk]; simp only [List.append_assoc]
    have hfin : W u.bt.length = seg2B u := by rw [hW, hsg]; simp
    rw [e1, e2]
    (simp only [go_sem, Nat.reduceAdd, Nat.reduceMul, Int.reduceToNat, Nat.reduceLeDiff, Int.reduceLE, Int.reduceLT, ↓reduceIte, Int.reduceBEq, Int.reduceBNe, Int.reduceAdd, Int.reduceSub, Int.reduceMul, hr]; try refine okTr_and rfl ?_)
    refine CallK.n (hho) ?_; (simp only [go_sem, Nat.reduceAdd, Nat.reduceMul, Int.reduceToNat, Nat.reduceLeDiff, Int.reduceLE, Int.reduceLT, ↓reduceIte, Int.reduceBEq, Int.reduceBNe, Int.reduceAdd, Int.reduceSub, Int.reduceMul, bts_length, w4]; try refine okTr_and rfl ?_)
    refine CallK.p (varint_Bytes (u.bt.length : Int) (by omega) (by omega)) ?_; (simp only [go_sem, Nat.reduceAdd, Nat.reduceMul, Int.reduceToNat, Nat.reduceLeDiff, Int.reduceLE, Int.reduceLT, ↓reduceIte, Int.reduceBEq, Int.reduceBNe, Int.reduceAdd, Int.reduceSub, Int.reduceMul, ints_append, ints_length, hW0, bts_length]; try refine okTr_and rfl ?_)
    (repeat ((with_reducible refine And.intro ?_ ?_); (· exact sd)))
    refine loop_of (α := Nat) (fun k => [.any, .ref 0 0, .any, .any, ownA 1 (W k), .any, .any, .any, .any, .any, .any, .any, .any, .any, .any, .any, .any, .any, .any, .any, .any, .any, .any, .any, .any, .any, .any, .any, slB u.bt, iA u.bt.length, iA k, .any, .any, .any, .any, .any, .any, .any, .any, .any, .any, .any, .any, .any, .any]) (fun k => [sg2O u, .row 1 (W k).length]) (fun k => k ≤ u.bt.length) (fun k => u.bt.length - k) 0 (by simp) (Wk.to (by rw [← hW0, List.length_append]) (by simp [leT])) ?_
    intro k hk
    have hlk := hlen k hk
    (simp only [go_sem, Nat.reduceAdd, Nat.reduceMul, Int.reduceToNat, Nat.reduceLeDiff, Int.reduceLE, Int.reduceLT, ↓reduceIte, Int.reduceBEq, Int.reduceBNe, Int.reduceAdd, Int.reduceSub, Int.reduceMul]; try refine okTr_and rfl ?_)
    by_cases hlt : k < u.bt.length
    · have q1 : decide ((k : Int) < (u.bt.length : Int)) = true := decide_eq_true (by omega)
      have ek := i64_succ k (by omega)
      have g := bts_get u.bt k hlt
      have hm := bt_mem u.bt k hlt
      have hwn := hWn k hlt
      have hlk1 := hlen (k + 1) hlt
      have hnx := wf_get k hlt hwf
      have e : u.bt[k] = u.bt.getD k bt0 := by simp [hlt]
      rw [e] at hnx
      obtain ⟨b, hb⟩ : ∃ b, u.bt.getD k bt0 = b := ⟨_, rfl⟩
      rw [hb] at g hm hwn hnx
      have hsb := hs.s _ hm
      have hpb := plB_bys hnx.ok hnx.rt hnx.sg
      have hpl := plB_len hnx.ok hnx.rt hnx.sg
      (simp only [go_sem, Nat.reduceAdd, Nat.reduceMul, Int.reduceToNat, Nat.reduceLeDiff, Int.reduceLE, Int.reduceLT, ↓reduceIte, Int.reduceBEq, Int.reduceBNe, Int.reduceAdd, Int.reduceSub, Int.reduceMul, q1, g, bts_length, Int.toNat_natCast]; try refine okTr_and rfl ?_)
      (repeat ((with_reducible refine And.intro ?_ ?_); (· exact sd)))
      refine CallK.p (legacy_plain b hnx.ok hsb hnx.rt hnx.sg) ?_; (simp only [go_sem, Nat.reduceAdd, Nat.reduceMul, Int.reduceToNat, Nat.reduceLeDiff, Int.reduceLE, Int.reduceLT, ↓reduceIte, Int.reduceBEq, Int.reduceBNe, Int.reduceAdd, Int.reduceSub, Int.reduceMul]; try refine okTr_and rfl ?_)
      have hll : (W k).length + (frameB (plB b)).length = (W (k + 1)).length := by rw [← hwn, List.length_append]
      refine CallK.p (frame_Bytes (plB b) hpb (by omega)) ?_; (simp only [go_sem, Nat.reduceAdd, Nat.reduceMul, Int.reduceToNat, Nat.reduceLeDiff, Int.reduceLE, Int.reduceLT, ↓reduceIte, Int.reduceBEq, Int.reduceBNe, Int.reduceAdd, Int.reduceSub, Int.reduceMul, ints_append, ints_length, hwn, ek, hll]; try refine okTr_and rfl ?_)
      (repeat ((with_reducible refine And.intro ?_ ?_); (· exact sd)))
      exact ⟨k + 1, hlt, by omega, Wk.sel [0, 1] (by simp) rfl (by simp) rfl (by simp [ixs_z, ixs]) (by simp [selT, ixs_z, ren_ints, ixs])⟩
    · have q1 : decide ((k : Int) < (u.bt.length : Int)) = false := decide_eq_false (by omega)
      have ek : k = u.bt.length := by omega
      subst ek
      rw [hfin]
      (simp only [go_sem, Nat.reduceAdd, Nat.reduceMul, Int.reduceToNat, Nat.reduceLeDiff, Int.reduceLE, Int.reduceLT, ↓reduceIte, Int.reduceBEq, Int.reduceBNe, Int.reduceAdd, Int.reduceSub, Int.reduceMul, q1]; try refine okTr_and rfl ?_)
      (refine FinK.untag 2 rfl ?_; simp only [untag1_sl, List.set_cons_zero, List.set_cons_succ])
      exact FinK.finA r21 []
  · have hr' : right2 u = false := by simpa using hr
    have e1 : bytes2 u = [] := by unfold bytes2; rw [if_neg hr]
    have e2 : err2 u = 3 := by unfold err2; rw [if_neg hr]
    rw [e1, e2]
    (simp only [go_sem, Nat.reduceAdd, Nat.reduceMul, Int.reduceToNat, Nat.reduceLeDiff, Int.reduceLE, Int.reduceLT, ↓reduceIte, Int.reduceBEq, Int.reduceBNe, Int.reduceAdd, Int.reduceSub, Int.reduceMul, hr']; try refine okTr_and rfl ?_)
    (refine FinK.untag 2 rfl ?_; simp only [untag1_sl, List.set_cons_zero, List.set_cons_succ])
    exact FinK.finA r21 []
theorem legacy_Bytes2 (u : Sg2) (hs : Small2 u) : Ct Tryz.prog 21 [sg2A u] [] (fun _ => .tup [slA .u8 (bytes2 u), iA (err2 u)]) [] (fun _ => []) := (legacy_Bytes20 u hs).toCt cl cl
set_option maxHeartbeats 1000000 in
set_option maxRecDepth 100000 in
theorem ref35_Plain0 (b : Bt) (hb : b.ok) (hr : rightB b = true) (hsg : singleB b = true) : Does Tryz.prog 100 [btA b] [] (ownA 0 (plB b)) [.row 1 (plB b).length] := by
  obtain ⟨g1, ⟨⟨g2, g2'⟩, g3, g4⟩, hwf⟩ := (rightB_wf hb.en).1 ⟨hr, hsg⟩
  obtain ⟨r1, r2, r3, r4⟩ := rightB_iff.1 hr
  have hpl := plB_len hb hr hsg
  have b0 := hb.b0
  have hpd : plB b = vb b.ep ++ (vb b.base ++ (vb b.en.length ++ encs (entF b.base).enc [] b.en)) := rfl
  have wu : IntKind.u8.wrap (b.en.length : Int) = b.en.length := IntWalk.u8_in _ (by omega)
  have hvb : vb (b.en.length : Int) = [(b.en.length : Int)] := vb_lt (by omega)
  have v1 := (vb_len b.ep).2
  have v2 := (vb_len b.base).2
  obtain ⟨W, hW⟩ : ∃ W : Nat → List Int, W = fun k => vb b.ep ++ vb b.base ++ vb (b.en.length : Int) ++ encs (entF b.base).enc [] (b.en.take k) := ⟨_, rfl⟩
  have hW0 : ints .u8 (vb b.ep ++ vb b.base) ++ [.lit (.int .u8 (b.en.length : Int))] = ints .u8 (W 0) := by rw [hW]; simp [encs, hvb, ints]
  have hW0l : (vb b.ep ++ vb b.base).length + 1 = (W 0).length := by rw [hW]; simp [encs, hvb]; omega
  have hlen : ∀ k, k ≤ b.en.length → (W k).length ≤ 1080000 := fun k hk => by
    have := encE_le (base := b.base) (l := b.en) k hk
    rw [hpd] at hpl
    simp only [List.length_append] at hpl
    rw [hW]; simp only [List.length_append]; omega
  have hWn : ∀ k, k < b.en.length → W k ++ linksB (b.base + k) (b.en.getD k en0).lk ++ blobB (b.en.getD k en0).data = W (k + 1) := fun k hk => by
    rw [hW]; simp only; rw [encE_take hk]; simp only [List.append_assoc]
  have hfin : W b.en.length = plB b := by rw [hW, hpd]; simp
  have hl0 := hlen 0 (Nat.zero_le _)
  refine Does.runA Tryz.func100 b100 n100 Tryz.ntmps100 ?_; simp only [c100, go_sem, Nat.reduceAdd, Nat.reduceMul, Int.reduceToNat, Nat.reduceLeDiff, Int.reduceLE, Int.reduceLT, ↓reduceIte, Int.reduceBEq, Int.reduceBNe, Int.reduceAdd, Int.reduceSub, Int.reduceMul]; try refine okTr_and rfl ?_
  refine CallK.n (ref04_BytesO b.ep hb.e0 hb.e1) ?_; (simp only [go_sem, Nat.reduceAdd, Nat.reduceMul, Int.reduceToNat, Nat.reduceLeDiff, Int.reduceLE, Int.reduceLT, ↓reduceIte, Int.reduceBEq, Int.reduceBNe, Int.reduceAdd, Int.reduceSub, Int.reduceMul]; try refine okTr_and rfl ?_)
  refine CallK.p (ref04_Bytes b.base hb.b0 hb.b1) ?_; (simp only [go_sem, Nat.reduceAdd, Nat.reduceMul, Int.reduceToNat, Nat.reduceLeDiff, Int.reduceLE, Int.reduceLT, ↓reduceIte, Int.reduceBEq, Int.reduceBNe, Int.reduceAdd, Int.reduceSub, Int.reduceMul, ints_append, ints_length, ens_length, wu, hW0, ← List.length_append, hW0l]; try refine okTr_and rfl ?_)
  (repeat ((with_reducible refine And.intro ?_ ?_); (· exact sd)))
  refine loop_of (α := Nat) (fun k => [.any, .ref 0 0, .any, ownA 1 (W k), iA k, .any, .any, .any, .any, .any, .any, .any, .any, .any, .any, .any, .any, .any, .any, .any, .any, .any, .any, .any, .any, .any, .any, .any, .any, .any, .any, .any, .any, .any, .any, .any, .any, .any, .any, .any, .any, .any, .any, .any, .any, .any, .any, .any, .any, .any]) (fun k => [btO b, .row 1 (W k).length]) (fun k => k ≤ b.en.length) (fun k => b.en.length - k) 0 (by simp) (Wk.to (by simp) (by simp [leT])) ?_
  intro k hk
  have hlk := hlen k hk
  (simp only [go_sem, Nat.reduceAdd, Nat.reduceMul, Int.reduceToNat, Nat.reduceLeDiff, Int.reduceLE, Int.reduceLT, ↓reduceIte, Int.reduceBEq, Int.reduceBNe, Int.reduceAdd, Int.reduceSub, Int.reduceMul, ens_length]; try refine okTr_and rfl ?_)
  by_cases hlt : k < b.en.length
  · have q1 : decide ((k : Int) < (b.en.length : Int)) = true := decide_eq_true (by omega)
    have ek := i64_succ k (by omega)
    have g := ens_get b.en k hlt
    have hm := en_mem b.en k hlt
    have hok := hb.en _ hm
    have hwn := hWn k hlt
    have hlk1 := hlen (k + 1) hlt
    have hrk := (rightE_iff.1 (r4 k hlt)).1
    have wk : IntKind.u64.wrap (k : Int) = k := IntWalk.u64_in _ (by omega)
    have wp : IntKind.u64.wrap (b.base + (k : Int)) = b.base + k := IntWalk.u64_in _ (by omega)
    obtain ⟨e, he⟩ : ∃ e, b.en.getD k en0 = e := ⟨_, rfl⟩
    rw [he] at g hm hok hwn hrk
    have hll : (W k ++ linksB (b.base + k) e.lk).length + (blobB e.data).length = (W (k + 1)).length := by rw [← hwn]; exact List.length_append.symm
    have hl1 : (W k).length + (linksB (b.base + k) e.lk).length ≤ 1080000 := by
      rw [List.length_append] at hll; omega
    have hdl : e.data.length ≤ 1080000 := by
      unfold blobB at hll; simp only [List.length_append] at hll; omega
    (simp only [go_sem, Nat.reduceAdd, Nat.reduceMul, Int.reduceToNat, Nat.reduceLeDiff, Int.reduceLE, Int.reduceLT, ↓reduceIte, Int.reduceBEq, Int.reduceBNe, Int.reduceAdd, Int.reduceSub, Int.reduceMul, q1, g, ens_length, Int.toNat_natCast, wk, wp]; try refine okTr_and rfl ?_)
    (repeat ((with_reducible refine And.intro ?_ ?_); (· exact sd)))
    refine CallK.n (ref23_Bytes (b.base + k) e.lk hok.lk hrk (by omega) (by omega)) ?_; (simp only [go_sem, Nat.reduceAdd, Nat.reduceMul, Int.reduceToNat, Nat.reduceLeDiff, Int.reduceLE, Int.reduceLT, ↓reduceIte, Int.reduceBEq, Int.reduceBNe, Int.reduceAdd, Int.reduceSub, Int.reduceMul, ints_append, ints_length, g, ens_length, Int.toNat_natCast, ← List.length_append]; try refine okTr_and rfl ?_)
    (repeat ((with_reducible refine And.intro ?_ ?_); (· exact sd)))
    refine CallK.n (ref06_Bytes e.data (by omega)) ?_; (simp only [go_sem, Nat.reduceAdd, Nat.reduceMul, Int.reduceToNat, Nat.reduceLeDiff, Int.reduceLE, Int.reduceLT, ↓reduceIte, Int.reduceBEq, Int.reduceBNe, Int.reduceAdd, Int.reduceSub, Int.reduceMul, ints_append, ints_length, hwn, hll, ek]; try refine okTr_and rfl ?_)
    (repeat ((with_reducible refine And.intro ?_ ?_); (· exact sd)))
    exact ⟨k + 1, hlt, by omega, Wk.sel [0, 1] (by simp) rfl (by simp) rfl (by simp [ixs_z, ixs, ← hwn]) (by simp [selT, ixs_z, ren_ints, ixs])⟩
  · have q1 : decide ((k : Int) < (b.en.length : Int)) = false := decide_eq_false (by omega)
    have ek : k = b.en.length := by omega
    subst ek
    rw [hfin]
    (simp only [go_sem, Nat.reduceAdd, Nat.reduceMul, Int.reduceToNat, Nat.reduceLeDiff, Int.reduceLE, Int.reduceLT, ↓reduceIte, Int.reduceBEq, Int.reduceBNe, Int.reduceAdd, Int.reduceSub, Int.reduceMul, q1]; try refine okTr_and rfl ?_)
    exact FinK.finA r100 [1]
theorem ref35_Plain (b : Bt) (hb : b.ok) (hr : rightB b = true) (hsg : singleB b = true) : Ct Tryz.prog 100 [btA b] [] (fun n => ownA n (plB b)) [] (fun _ => [.row 1 (plB b).length]) := Ct.n (ref35_Plain0 b hb hr hsg) cl cl clo
set_option maxHeartbeats 1000000 in
set_option maxRecDepth 100000 in
theorem ref35_Bytes20 (u : Sg2) (hs : Small2 u) (hr : right2 u = true) : Does Tryz.prog 26 [sg2A u] [] (ownA 0 (seg2B u)) [.row 1 (seg2B u).length] := by
  obtain ⟨h1, h2, hwf⟩ := (right2_wf hs.ok).1 hr
  have hsl := seg2_len hs.ok hr
  have wu : IntKind.u8.wrap (u.bt.length : Int) = u.bt.length := IntWalk.u8_in _ (by omega)
  have hvb : vb (u.bt.length : Int) = [(u.bt.length : Int)] := vb_lt (by omega)
  have hho := ref31_Bytes ⟨2, u.ep, 0⟩ (rightH2 hr) (Int.le_refl 0)
  have hsg : seg2B u = headerB ⟨2, u.ep, 0⟩ ++ (vb u.bt.length ++ encs (batF u.ep).enc [] u.bt) := rfl
  have hhl := (plainB_len ⟨2, u.ep, 0⟩).2
  have hhl2 := headerB_len ⟨2, u.ep, 0⟩
  obtain ⟨HB, hHB⟩ : ∃ HB, headerB ⟨2, u.ep, 0⟩ = HB := ⟨_, rfl⟩
  rw [hHB] at hho hsg hhl2
  obtain ⟨W, hW⟩ : ∃ W : Nat → List Int, W = fun k => HB ++ (vb (u.bt.length : Int) ++ encs (batF u.ep).enc [] (u.bt.take k)) := ⟨_, rfl⟩
  have hW0 : ints .u8 HB ++ [.lit (.int .u8 (u.bt.length : Int))] = ints .u8 (W 0) := by rw [hW]; simp [encs, hvb, ints]
  have hW0l : HB.length + 1 = (W 0).length := by rw [hW]; simp [encs, hvb]
  have hlen : ∀ k, k ≤ u.bt.length → (W k).length ≤ 40000000 := fun k hk => by
    have := encB_le hwf k hk
    have hvl := (vb_len (u.bt.length : Int)).2
    rw [hW]; simp only [List.length_append]; omega
  have hWn : ∀ k, k < u.bt.length → W k ++ frameB (plB (u.bt.getD k bt0)) = W (k + 1) := fun k hk => by
    rw [hW]; simp only; rw [encB_take hk]; simp only [List.append_assoc]
  have hfin : W u.bt.length = seg2B u := by rw [hW, hsg]; simp
  have hl0 := hlen 0 (Nat.zero_le _)
  refine Does.runA Tryz.func26 b26 n26 Tryz.ntmps26 ?_; simp only [c26, go_sem, Nat.reduceAdd, Nat.reduceMul, Int.reduceToNat, Nat.reduceLeDiff, Int.reduceLE, Int.reduceLT, ↓reduceIte, Int.reduceBEq, Int.reduceBNe, Int.reduceAdd, Int.reduceSub, Int.reduceMul]; try refine okTr_and rfl ?_
  refine CallK.n (hho) ?_; (simp only [go_sem, Nat.reduceAdd, Nat.reduceMul, Int.reduceToNat, Nat.reduceLeDiff, Int.reduceLE, Int.reduceLT, ↓reduceIte, Int.reduceBEq, Int.reduceBNe, Int.reduceAdd, Int.reduceSub, Int.reduceMul, ints_length, bts_length, wu, hW0, hW0l]; try refine okTr_and rfl ?_)
  (repeat ((with_reducible refine And.intro ?_ ?_); (· exact sd)))
  refine loop_of (α := Nat) (fun k => [.any, .ref 0 0, .any, ownA 1 (W k), iA k, .any, .any, .any, .any, .any, .any, .any, .any, .any, .any, .any, .any, .any, .any, .any, .any, .any, .any, .any, .any, .any, .any, .any, .any, .any, .any, .any, .any]) (fun k => [sg2O u, .row 1 (W k).length]) (fun k => k ≤ u.bt.length) (fun k => u.bt.length - k) 0 (by simp) (Wk.to (by simp) (by simp [leT])) ?_
  intro k hk
  have hlk := hlen k hk
  (simp only [go_sem, Nat.reduceAdd, Nat.reduceMul, Int.reduceToNat, Nat.reduceLeDiff, Int.reduceLE, Int.reduceLT, ↓reduceIte, Int.reduceBEq, Int.reduceBNe, Int.reduceAdd, Int.reduceSub, Int.reduceMul, bts_length]; try refine okTr_and rfl ?_)
  by_cases hlt : k < u.bt.length
  · have q1 : decide ((k : Int) < (u.bt.length : Int)) = true := decide_eq_true (by omega)
    have ek := i64_succ k (by omega)
    have g := bts_get u.bt k hlt
    have hm := bt_mem u.bt k hlt
    have hwn := hWn k hlt
    have hlk1 := hlen (k + 1) hlt
    have hnx := wf_get k hlt hwf
    have e : u.bt[k] = u.bt.getD k bt0 := by simp [hlt]
    rw [e] at hnx
    obtain ⟨b, hb⟩ : ∃ b, u.bt.getD k bt0 = b := ⟨_, rfl⟩
    rw [hb] at g hm hwn hnx
    have hpb := plB_bys hnx.ok hnx.rt hnx.sg
    have hpl := plB_len hnx.ok hnx.rt hnx.sg
    have hll : (W k).length + (frameB (plB b)).length = (W (k + 1)).length := by rw [← hwn, List.length_append]
    (simp only [go_sem, Nat.reduceAdd, Nat.reduceMul, Int.reduceToNat, Nat.reduceLeDiff, Int.reduceLE, Int.reduceLT, ↓reduceIte, Int.reduceBEq, Int.reduceBNe, Int.reduceAdd, Int.reduceSub, Int.reduceMul, q1, g, bts_length, Int.toNat_natCast]; try refine okTr_and rfl ?_)
    (repeat ((with_reducible refine And.intro ?_ ?_); (· exact sd)))
    refine CallK.n (ref35_Plain b hnx.ok hnx.rt hnx.sg) ?_; (simp only [go_sem, Nat.reduceAdd, Nat.reduceMul, Int.reduceToNat, Nat.reduceLeDiff, Int.reduceLE, Int.reduceLT, ↓reduceIte, Int.reduceBEq, Int.reduceBNe, Int.reduceAdd, Int.reduceSub, Int.reduceMul]; try refine okTr_and rfl ?_)
    refine CallK.n (ref08_Bytes (plB b) hpb (by omega)) ?_; (simp only [go_sem, Nat.reduceAdd, Nat.reduceMul, Int.reduceToNat, Nat.reduceLeDiff, Int.reduceLE, Int.reduceLT, ↓reduceIte, Int.reduceBEq, Int.reduceBNe, Int.reduceAdd, Int.reduceSub, Int.reduceMul, ints_append, ints_length, hwn, hll, ek]; try refine okTr_and rfl ?_)
    (repeat ((with_reducible refine And.intro ?_ ?_); (· exact sd)))
    exact ⟨k + 1, hlt, by omega, Wk.sel [0, 1] (by simp) rfl (by simp) rfl (by simp [ixs_z, ixs]) (by simp [selT, ixs_z, ren_ints, ixs])⟩
  · have q1 : decide ((k : Int) < (u.bt.length : Int)) = false := decide_eq_false (by omega)
    have ek : k = u.bt.length := by omega
    subst ek
    rw [hfin]
    (simp only [go_sem, Nat.reduceAdd, Nat.reduceMul, Int.reduceToNat, Nat.reduceLeDiff, Int.reduceLE, Int.reduceLT, ↓reduceIte, Int.reduceBEq, Int.reduceBNe, Int.reduceAdd, Int.reduceSub, Int.reduceMul, q1]; try refine okTr_and rfl ?_)
    exact FinK.finA r26 [1]
theorem ref35_Bytes2 (u : Sg2) (hs : Small2 u) (hr : right2 u = true) : Ct Tryz.prog 26 [sg2A u] [] (fun n => ownA n (seg2B u)) [] (fun _ => [.row 1 (seg2B u).length]) := Ct.n (ref35_Bytes20 u hs hr) cl cl clo
end Go.Proofs.YtnfagphepkeedaaGreat
end
section
namespace Go.Proofs.YtnfagphepkeedaaGreat
open Go.RowKit

theorem plB_len2 {b : Bt} (hb : b.ok) (hr : rightB b = true) (hs : singleB b = true) (hj : (joinE b.en).length ≤ 300) : (plB b).length ≤ 16100 := by
  obtain ⟨g1, g2, hwf⟩ := (rightB_wf hb.en).1 ⟨hr, hs⟩
  have h1 := encs_ents hb.b0 hwf
  have e1 := (vb_len b.ep).2
  have e2 := (vb_len b.base).2
  have e3 := (vb_len (b.en.length : Int)).2
  unfold plB
  simp only [List.length_append]; omega
theorem seg2_len2 {u : Sg2} (hl : Bts u.bt) (hr : right2 u = true) (hj : ∀ b ∈ u.bt, (joinE b.en).length ≤ 300) : (seg2B u).length ≤ 1000000 := by
  obtain ⟨h1, h2, h3⟩ := (right2_wf hl).1 hr
  have gen : ∀ k, k ≤ u.bt.length → (encs (batF u.ep).enc [] (u.bt.take k)).length ≤ 16120 * k := by
    intro k
    induction k with
    | zero => intro _; simp [encs]
    | succ k ih =>
      intro hk
      have hi := ih (by omega)
      have hnx := wf_get k (by omega) h3
      have e : u.bt[k] = u.bt.getD k bt0 := by simp [show k < u.bt.length by omega]
      rw [e] at hnx
      have hp := plB_len2 hnx.ok hnx.rt hnx.sg (hj _ (bt_mem u.bt k (by omega)))
      have hv := (vb_len ((plB (u.bt.getD k bt0)).length : Int)).2
      rw [encB_take (by omega), List.length_append, frameB_len]
      unfold blobB
      rw [List.length_append]
      omega
  have h4 := gen u.bt.length (Nat.le_refl _)
  rw [List.take_length] at h4
  have h5 := (plainB_len ⟨2, u.ep, 0⟩).2
  have h6 := (vb_len (u.bt.length : Int)).2
  unfold seg2B
  rw [List.length_append, List.length_append, headerB_len]; omega
set_option maxHeartbeats 1000000 in
set_option maxRecDepth 100000 in
theorem law_LegacyTwos (u o : Sg2) (hu : Bts u.bt) (ho : Bts o.bt) : Does Tryz.prog 6 [sg2A u, sg2A o] [] (bA true) [] := by
  refine Does.runA Tryz.func6 b6 n6 Tryz.ntmps6 ?_; simp only [c6, go_sem, Nat.reduceAdd, Nat.reduceMul, Int.reduceToNat, Nat.reduceLeDiff, Int.reduceLE, Int.reduceLT, ↓reduceIte, Int.reduceBEq, Int.reduceBNe, Int.reduceAdd, Int.reduceSub, Int.reduceMul]; try refine okTr_and rfl ?_
  refine CallK.p (law35_Long2 u) ?_
  cases h1 : long2 u.bt with
  | true =>
    (simp only [go_sem, Nat.reduceAdd, Nat.reduceMul, Int.reduceToNat, Nat.reduceLeDiff, Int.reduceLE, Int.reduceLT, ↓reduceIte, Int.reduceBEq, Int.reduceBNe, Int.reduceAdd, Int.reduceSub, Int.reduceMul]; try refine okTr_and rfl ?_)
    refine CallK.p (live35) ?_; (simp only [go_sem, Nat.reduceAdd, Nat.reduceMul, Int.reduceToNat, Nat.reduceLeDiff, Int.reduceLE, Int.reduceLT, ↓reduceIte, Int.reduceBEq, Int.reduceBNe, Int.reduceAdd, Int.reduceSub, Int.reduceMul]; try refine okTr_and rfl ?_)
    exact FinK.finA r6 []
  | false =>
    (simp only [go_sem, Nat.reduceAdd, Nat.reduceMul, Int.reduceToNat, Nat.reduceLeDiff, Int.reduceLE, Int.reduceLT, ↓reduceIte, Int.reduceBEq, Int.reduceBNe, Int.reduceAdd, Int.reduceSub, Int.reduceMul]; try refine okTr_and rfl ?_)
    refine CallK.p (law35_Long2 o) ?_
    cases h2 : long2 o.bt with
    | true =>
      (simp only [go_sem, Nat.reduceAdd, Nat.reduceMul, Int.reduceToNat, Nat.reduceLeDiff, Int.reduceLE, Int.reduceLT, ↓reduceIte, Int.reduceBEq, Int.reduceBNe, Int.reduceAdd, Int.reduceSub, Int.reduceMul]; try refine okTr_and rfl ?_)
      refine CallK.p (live35) ?_; (simp only [go_sem, Nat.reduceAdd, Nat.reduceMul, Int.reduceToNat, Nat.reduceLeDiff, Int.reduceLE, Int.reduceLT, ↓reduceIte, Int.reduceBEq, Int.reduceBNe, Int.reduceAdd, Int.reduceSub, Int.reduceMul]; try refine okTr_and rfl ?_)
      exact FinK.finA r6 []
    | false =>
      obtain ⟨l1, l2⟩ := long2_no h1
      have hs : Small2 u := ⟨by omega, fun b hb => (longB_small (l2 b hb)).1, hu⟩
      have hj : ∀ b ∈ u.bt, (joinE b.en).length ≤ 300 := fun b hb => (longB_small (l2 b hb)).2.2
      have hxr : ∀ b : Bool, (!(b == b)) = false := by decide
      have hx1 := hxr (right2 u)
      have hx2 := hxr (same2 u o)
      (simp only [go_sem, Nat.reduceAdd, Nat.reduceMul, Int.reduceToNat, Nat.reduceLeDiff, Int.reduceLE, Int.reduceLT, ↓reduceIte, Int.reduceBEq, Int.reduceBNe, Int.reduceAdd, Int.reduceSub, Int.reduceMul]; try refine okTr_and rfl ?_)
      refine CallK.p (legacy_Bytes2 u hs) ?_; (simp only [go_sem, Nat.reduceAdd, Nat.reduceMul, Int.reduceToNat, Nat.reduceLeDiff, Int.reduceLE, Int.reduceLT, ↓reduceIte, Int.reduceBEq, Int.reduceBNe, Int.reduceAdd, Int.reduceSub, Int.reduceMul]; try refine okTr_and rfl ?_)
      refine CallK.p (legacy_Right2 u hs) ?_; (simp only [go_sem, Nat.reduceAdd, Nat.reduceMul, Int.reduceToNat, Nat.reduceLeDiff, Int.reduceLE, Int.reduceLT, ↓reduceIte, Int.reduceBEq, Int.reduceBNe, Int.reduceAdd, Int.reduceSub, Int.reduceMul]; try refine okTr_and rfl ?_)
      refine CallK.p (ref35_Right2 u hs) ?_; (simp only [go_sem, Nat.reduceAdd, Nat.reduceMul, Int.reduceToNat, Nat.reduceLeDiff, Int.reduceLE, Int.reduceLT, ↓reduceIte, Int.reduceBEq, Int.reduceBNe, Int.reduceAdd, Int.reduceSub, Int.reduceMul, hx1]; try refine okTr_and rfl ?_)
      refine CallK.p (legacy_Same2 u o hs.n hs.s hu ho) ?_; (simp only [go_sem, Nat.reduceAdd, Nat.reduceMul, Int.reduceToNat, Nat.reduceLeDiff, Int.reduceLE, Int.reduceLT, ↓reduceIte, Int.reduceBEq, Int.reduceBNe, Int.reduceAdd, Int.reduceSub, Int.reduceMul]; try refine okTr_and rfl ?_)
      refine CallK.p (ref35_Same2 u o hs.n hs.s hu ho) ?_; (simp only [go_sem, Nat.reduceAdd, Nat.reduceMul, Int.reduceToNat, Nat.reduceLeDiff, Int.reduceLE, Int.reduceLT, ↓reduceIte, Int.reduceBEq, Int.reduceBNe, Int.reduceAdd, Int.reduceSub, Int.reduceMul, hx2]; try refine okTr_and rfl ?_)
      refine CallK.p (ref35_Right2 u hs) ?_
      by_cases hr : right2 u = true
      · have e1 : bytes2 u = seg2B u := by unfold bytes2; rw [if_pos hr]
        have e2 : err2 u = 0 := by unfold err2; rw [if_pos hr]
        have hB := seg2_bys hu hr
        have hn := seg2_len2 hu hr hj
        obtain ⟨w1, w2, w3⟩ := seg2_own hu hr
        have d2 := legacy_Decode2 (seg2B u) hB hn
        have d1 := legacy_Decode1 (seg2B u) hB hn
        have hd := dec1_other w2 (by rw [w3]; decide)
        rw [w1] at d2
        rw [hd] at d1
        have e3 := same2_self u
        rw [e1, e2]
        (simp only [go_sem, Nat.reduceAdd, Nat.reduceMul, Int.reduceToNat, Nat.reduceLeDiff, Int.reduceLE, Int.reduceLT, ↓reduceIte, Int.reduceBEq, Int.reduceBNe, Int.reduceAdd, Int.reduceSub, Int.reduceMul, hr]; try refine okTr_and rfl ?_)
        refine CallK.p (d2) ?_; (simp only [go_sem, Nat.reduceAdd, Nat.reduceMul, Int.reduceToNat, Nat.reduceLeDiff, Int.reduceLE, Int.reduceLT, ↓reduceIte, Int.reduceBEq, Int.reduceBNe, Int.reduceAdd, Int.reduceSub, Int.reduceMul]; try refine okTr_and rfl ?_)
        refine CallK.p (d1) ?_; (simp only [go_sem, Nat.reduceAdd, Nat.reduceMul, Int.reduceToNat, Nat.reduceLeDiff, Int.reduceLE, Int.reduceLT, ↓reduceIte, Int.reduceBEq, Int.reduceBNe, Int.reduceAdd, Int.reduceSub, Int.reduceMul]; try refine okTr_and rfl ?_)
        refine CallK.n (ref35_Bytes2 u hs hr) ?_; (simp only [go_sem, Nat.reduceAdd, Nat.reduceMul, Int.reduceToNat, Nat.reduceLeDiff, Int.reduceLE, Int.reduceLT, ↓reduceIte, Int.reduceBEq, Int.reduceBNe, Int.reduceAdd, Int.reduceSub, Int.reduceMul]; try refine okTr_and rfl ?_)
        refine CallK.p (ref02_Same (seg2B u) (seg2B u) hB hB) ?_; (simp only [go_sem, Nat.reduceAdd, Nat.reduceMul, Int.reduceToNat, Nat.reduceLeDiff, Int.reduceLE, Int.reduceLT, ↓reduceIte, Int.reduceBEq, Int.reduceBNe, Int.reduceAdd, Int.reduceSub, Int.reduceMul, same_self]; try refine okTr_and rfl ?_)
        refine CallK.p (ref35_Same2 u u hs.n hs.s hu hu) ?_; (simp only [go_sem, Nat.reduceAdd, Nat.reduceMul, Int.reduceToNat, Nat.reduceLeDiff, Int.reduceLE, Int.reduceLT, ↓reduceIte, Int.reduceBEq, Int.reduceBNe, Int.reduceAdd, Int.reduceSub, Int.reduceMul, e3]; try refine okTr_and rfl ?_)
        (repeat ((with_reducible refine And.intro ?_ ?_); (· exact sd)))
        refine CallK.p (live35) ?_; (simp only [go_sem, Nat.reduceAdd, Nat.reduceMul, Int.reduceToNat, Nat.reduceLeDiff, Int.reduceLE, Int.reduceLT, ↓reduceIte, Int.reduceBEq, Int.reduceBNe, Int.reduceAdd, Int.reduceSub, Int.reduceMul]; try refine okTr_and rfl ?_)
        exact FinK.finA r6 []
      · have hr' : right2 u = false := by simpa using hr
        have e1 : bytes2 u = [] := by unfold bytes2; rw [if_neg hr]
        have e2 : err2 u = 3 := by unfold err2; rw [if_neg hr]
        rw [e1, e2]
        (simp only [go_sem, Nat.reduceAdd, Nat.reduceMul, Int.reduceToNat, Nat.reduceLeDiff, Int.reduceLE, Int.reduceLT, ↓reduceIte, Int.reduceBEq, Int.reduceBNe, Int.reduceAdd, Int.reduceSub, Int.reduceMul, hr', ints_nil]; try refine okTr_and rfl ?_)
        refine CallK.p (live35) ?_; (simp only [go_sem, Nat.reduceAdd, Nat.reduceMul, Int.reduceToNat, Nat.reduceLeDiff, Int.reduceLE, Int.reduceLT, ↓reduceIte, Int.reduceBEq, Int.reduceBNe, Int.reduceAdd, Int.reduceSub, Int.reduceMul]; try refine okTr_and rfl ?_)
        exact FinK.finA r6 []
end Go.Proofs.YtnfagphepkeedaaGreat
end
section
namespace Go.Proofs.YtnfagphepkeedaaGreat
open Go.RowKit Go.ChangeShapes Go.WideShapes Go.ChangeAt

/-- The shape of a type: an integer; a slice of elements of n cells (agg: are these structs); a struct's fields, one behind the other. -/
inductive Sh where
  | bool
  | int (k : IntKind)
  | sl (agg : Bool) (n : Nat) (e : Sh)
  | nil
  | pair (a b : Sh)
def elA (agg : Bool) (y : List AV) : AV := if agg then .agg y else y.headD .any
def Sh.Ty : Sh → List AV → Prop
  | .bool, xs => ∃ b, xs = [.lit (.bool b)]
  | .int k, xs => ∃ n, xs = [.lit (.int k n)] ∧ (Lit.int k n).wf = true
  | .sl g n e, xs => ∃ ys : List (List AV), xs = [.sl .none n (ys.map (elA g))] ∧ ∀ y ∈ ys, y.length = n ∧ e.Ty y
  | .nil, xs => xs = []
  | .pair a b, xs => ∃ ys zs, xs = ys ++ zs ∧ a.Ty ys ∧ b.Ty zs
def Sh.flat : Sh → Bool
  | .int _ => true
  | .sl .. => true
  | _ => false
section
variable {P : Program}
def shFs (P : Program) (sub : TypeId → Option Sh) : List Field → Nat → Nat → Option Sh
  | [], off, tot => if off = tot then some .nil else none
  | f :: fs, off, tot => if f.offset = off then (sub f.type).bind fun a => (shFs P sub fs (off + P.cellsOf f.type) tot).map (Sh.pair a) else none
def isSt (P : Program) (t : TypeId) : Bool := match P.underlying t with | some (.struct _) => true | _ => false
def shOf (P : Program) : Nat → TypeId → Option Sh
  | 0, _ => none
  | f + 1, t => match P.underlying t with
    | some .bool => some .bool
    | some (.int k) => some (.int k)
    | some (.slice e) => match shOf P f e with
      | some s => if 1 ≤ P.cellsOf e ∧ (isSt P e = true ∨ s.flat = true ∧ P.cellsOf e = 1) then some (.sl (isSt P e) (P.cellsOf e) s) else none
      | none => none
    | some (.struct fs) => shFs P (shOf P f) fs.toList 0 (P.cellsOf t)
    | _ => none

variable {H : Type} {enc : TypeId × Value → H} {W : World} {sp : Nat → Bool} {held : Bool}
theorem flat_cells {s : Sh} (hf : s.flat = true) {y : List AV} (h : s.Ty y) : ∃ x, y = [x] ∧ x.cells = [x] := by
  cases s with
  | bool => cases hf
  | int k => obtain ⟨n, rfl, _⟩ := h; exact ⟨_, rfl, rfl⟩
  | sl g n e => obtain ⟨ys, rfl, _⟩ := h; exact ⟨_, rfl, rfl⟩
  | nil => cases hf
  | pair a b => cases hf
theorem elA_cells {g : Bool} {s : Sh} (hg : g = true ∨ s.flat = true) {y : List AV} (h : s.Ty y) : (elA g y).cells = y := by
  cases g with
  | true => simp [elA, AV.cells]
  | false =>
    rcases hg with hg | hg
    · cases hg
    · obtain ⟨x, rfl, hx⟩ := flat_cells hg h
      simpa [elA] using hx
theorem shape_struct {n : Nat} {sub : TypeId → Option Sh}
    (ih : ∀ (t : TypeId) (s : Sh) (cs : List Value) (x : DataW H × List MemPlace), sub t = some s → DataW.trod enc P W 0 sp held n t cs = some x → ∃ xs, RepL (G0 W) xs cs ∧ (∀ v ∈ cs, v.oneCell' = true) ∧ s.Ty xs) :
    ∀ (fs : List Field) (off tot : Nat) (s : Sh) (cs : List Value) (zs : List (DataW H × List MemPlace)), shFs P sub fs off tot = some s → cs.length = tot → zs.length = fs.length →
      (∀ (i : Nat) (f : Field), fs[i]? = some f → DataW.trod enc P W 0 sp held n f.type ((cs.drop f.offset).take (P.cellsOf f.type)) = zs[i]?) →
      ∃ xs, RepL (G0 W) xs (cs.drop off) ∧ (∀ v ∈ cs.drop off, v.oneCell' = true) ∧ s.Ty xs := by
  intro fs
  induction fs with
  | nil =>
    intro off tot s cs zs hs hl _ _
    simp only [shFs] at hs
    split at hs
    · rename_i ho
      injection hs with hs; subst hs
      have : cs.drop off = [] := List.drop_eq_nil_of_le (by omega)
      rw [this]
      exact ⟨[], RepL.nil _, by simp, rfl⟩
    · cases hs
  | cons f fs ihf =>
    intro off tot s cs zs hs hl hz h
    simp only [shFs] at hs
    split at hs
    · rename_i ho
      cases ha : sub f.type with
      | none => simp [ha] at hs
      | some a =>
        simp only [ha, Option.bind_some, Option.map_eq_some_iff] at hs
        obtain ⟨b, hb, rfl⟩ := hs
        cases zs with
        | nil => simp at hz
        | cons z zs =>
          have h0 := h 0 f rfl
          simp only [List.getElem?_cons_zero] at h0
          obtain ⟨xs, r1, r2, r3⟩ := ih _ a _ z ha h0
          obtain ⟨ys, q1, q2, q3⟩ := ihf (off + P.cellsOf f.type) tot b cs zs hb hl (by simpa using hz) (fun i g hg => by simpa using h (i + 1) g (by simpa using hg))
          rw [ho] at r1 r2
          have e : cs.drop off = (cs.drop off).take (P.cellsOf f.type) ++ cs.drop (off + P.cellsOf f.type) := by
            rw [← List.drop_drop, List.take_append_drop]
          rw [e]
          exact ⟨xs ++ ys, r1.append q1, fun v hv => by rcases List.mem_append.1 hv with hv | hv; exact r2 v hv; exact q2 v hv, xs, ys, rfl, r3, q3⟩
    · cases hs
theorem cells_get {a : Addr} {n : Nat} {cs : List Value} (h : W.cells? 0 a n = some cs) : cs.length = n ∧ ∀ i, i < n → W.cell? (a.add i) = cs[i]? := by
  obtain ⟨h1, h2, h3⟩ := World.cells?_some h
  exact ⟨h2, h3⟩
/-- What is read of such a shape is so told. -/
theorem shape_rep : ∀ (f : Nat) (t : TypeId) (s : Sh) (n : Nat) (cs : List Value) (x : DataW H × List MemPlace), shOf P f t = some s → DataW.trod enc P W 0 sp held n t cs = some x →
    ∃ xs, RepL (G0 W) xs cs ∧ (∀ v ∈ cs, v.oneCell' = true) ∧ s.Ty xs := by
  intro f
  induction f with
  | zero => intro t s n cs x h; simp [shOf] at h
  | succ f ih =>
    intro t s n cs x hs hd
    simp only [shOf] at hs
    cases hu : P.underlying t with
    | none => simp [hu] at hs
    | some u =>
      rw [hu] at hs
      cases u with
      | bool =>
        injection hs with hs; subst hs
        obtain ⟨m, rfl, _⟩ := DataW.trod_bool hu hd
        exact ⟨[.lit (.bool m)], (RepL.nil _).cons (.lit _), by simp [Value.oneCell'], m, rfl⟩
      | int k =>
        injection hs with hs; subst hs
        obtain ⟨m, rfl, _, hw⟩ := DataW.trod_int hu hd
        exact ⟨[.lit (.int k m)], (RepL.nil _).cons (.lit _), by simp [Value.oneCell'], m, rfl, hw⟩
      | struct fs =>
        obtain ⟨xs, m, _, _, hl, hn, hf⟩ := DataW.trod_struct hu hd
        have := shape_struct (sub := shOf P f) (n := m) (fun t s cs x h1 h2 => ih t s m cs x h1 h2) fs.toList 0 (P.cellsOf t) s cs xs hs hl (by simpa using hn) (fun i f hi => hf i f (by simpa using hi))
        simpa using this
      | slice e =>
        simp only at hs
        cases he : shOf P f e with
        | none => simp [he] at hs
        | some se =>
          rw [he] at hs
          simp only at hs
          split at hs
          · rename_i hc
            injection hs with hs; subst hs
            obtain ⟨hc1, hc2⟩ := hc
            have hg : isSt P e = true ∨ se.flat = true := by rcases hc2 with h | h; exact .inl h; exact .inr h.1
            rcases DataW.trod_slice hu hd with ⟨rfl, _⟩ | ⟨a, len, cap, elems, rest, m, _, rfl, _, _, hle, _, hlen, hel, _, _⟩
            · refine ⟨[.sl .none (P.cellsOf e) []], (RepL.nil _).cons ?_, by simp [Value.oneCell'], [], rfl, by simp⟩
              exact .sl (A := none) (c := 0) (b := 0) (o := 0) (fun _ _ => undef) (by simp) (by simp) (by simp) (by simp) (by simp) (by simp) trivial
            · have each : ∀ i, i < len → ∃ (ce : List Value) (y : List AV), ce.length = P.cellsOf e ∧ (∀ j, j < P.cellsOf e → W.cell? ((a.add (i * P.cellsOf e)).add j) = ce[j]?) ∧ RepL (G0 W) y ce ∧ (∀ v ∈ ce, v.oneCell' = true) ∧ se.Ty y := by
                intro i hi
                have h1 := hel i hi
                have h2 : elems[i]? = some elems[i] := by simp
                rw [h2, Option.bind_eq_some_iff] at h1
                obtain ⟨ce, h3, h4⟩ := h1
                obtain ⟨k1, k2⟩ := cells_get h3
                obtain ⟨y, y1, y2, y3⟩ := ih e se m ce _ he h4
                exact ⟨ce, y, k1, k2, y1, y2, y3⟩
              -- choose them
              have pick : ∃ (cf : Nat → List Value) (yf : Nat → List AV), ∀ i, i < len → (cf i).length = P.cellsOf e ∧ (∀ j, j < P.cellsOf e → W.cell? ((a.add (i * P.cellsOf e)).add j) = (cf i)[j]?) ∧ RepL (G0 W) (yf i) (cf i) ∧ (∀ v ∈ cf i, v.oneCell' = true) ∧ se.Ty (yf i) := by
                refine ⟨fun i => if h : i < len then (each i h).choose else [], fun i => if h : i < len then (each i h).choose_spec.choose else [], fun i hi => ?_⟩
                simp only [dif_pos hi]
                exact (each i hi).choose_spec.choose_spec
              obtain ⟨cf, yf, hall⟩ := pick
              have hyl : ∀ i, i < len → (yf i).length = P.cellsOf e := fun i hi => by
                obtain ⟨p1, _, p3, _⟩ := hall i hi
                rw [p3.1, p1]
              have hlenY : ((List.range len).map yf).length = len := by simp
              have hty : ∀ y ∈ (List.range len).map yf, y.length = P.cellsOf e ∧ se.Ty y := by
                intro y hy
                simp only [List.mem_map, List.mem_range] at hy
                obtain ⟨i, hi, rfl⟩ := hy
                exact ⟨hyl i hi, (hall i hi).2.2.2.2⟩
              refine ⟨[.sl .none (P.cellsOf e) (((List.range len).map yf).map (elA (isSt P e)))], (RepL.nil _).cons ?_, by simp [Value.oneCell'], (List.range len).map yf, rfl, hty⟩
              have hL : (((List.range len).map yf).map (elA (isSt P e))).length = len := by simp
              have hget : ∀ i x, (((List.range len).map yf).map (elA (isSt P e)))[i]? = some x → i < len ∧ x = elA (isSt P e) (yf i) := by
                intro i x hx
                have hi : i < len := by
                  rcases Nat.lt_or_ge i len with h | h
                  · exact h
                  · rw [List.getElem?_eq_none (by simpa using h)] at hx; cases hx
                simp [hi] at hx
                exact ⟨hi, hx.symm⟩
              have hspot : 0 < len → a.spot = none := by
                intro h0
                obtain ⟨p1, p2, _⟩ := hall 0 h0
                have := p2 0 (by omega)
                rw [List.getElem?_eq_getElem (by omega)] at this
                have := spot_none this
                simpa [Addr.add] using this
              have hcell : ∀ i j, i < len → j < P.cellsOf e → W.cell? ⟨a.block, a.off + i * P.cellsOf e + j, none⟩ = (cf i)[j]? := by
                intro i j hi hj
                have hs := hspot (by omega)
                obtain ⟨_, p2, _⟩ := hall i hi
                rw [← p2 j hj]
                obtain ⟨b, o, s⟩ := a
                simp only at hs
                subst hs
                rw [add_none, add_none]
              have main : Rep (G0 W) (.sl .none (P.cellsOf e) (((List.range len).map yf).map (elA (isSt P e)))) (.slice (some a) (((List.range len).map yf).map (elA (isSt P e))).length cap) := by
                refine .sl (b := a.block) (o := a.off) (fun i j => (cf i).getD j undef) (by rw [hL]; exact hle) (fun h => ?_) (fun i x hx => ?_) (fun i j hi hj => ?_) (fun i j hi hj => ?_) (fun i j x y hx hy => ?_) trivial
                · have hs := hspot (by rw [hL] at h; exact h)
                  obtain ⟨b, o, s⟩ := a
                  simp only at hs
                  subst hs; rfl
                · obtain ⟨hi, rfl⟩ := hget i x hx
                  rw [elA_cells hg (hall i hi).2.2.2.2]; exact hyl i hi
                · rw [hL] at hi
                  have hc := hcell i j hi hj
                  have p1 := (hall i hi).1
                  rw [List.getElem?_eq_getElem (by omega)] at hc
                  have e2 : (cf i).getD j undef = (cf i)[j]'(by omega) := by simp [show j < (cf i).length by omega]
                  rw [e2]; exact hc
                · rw [hL] at hi
                  have p1 := (hall i hi).1
                  have e2 : (cf i).getD j undef = (cf i)[j]'(by omega) := by simp [show j < (cf i).length by omega]
                  rw [e2]; exact (hall i hi).2.2.2.1 _ (List.getElem_mem _)
                · obtain ⟨hi, rfl⟩ := hget i x hx
                  rw [elA_cells hg (hall i hi).2.2.2.2] at hy
                  have p3 := (hall i hi).2.2.1
                  have hj : j < (yf i).length := (List.getElem?_eq_some_iff.1 hy).1
                  have hj2 : j < (cf i).length := by rw [← p3.1]; exact hj
                  have e2 : (cf i).getD j undef = (cf i)[j] := by simp [hj2]
                  rw [e2]
                  exact p3.2 j y _ hy (List.getElem?_eq_getElem hj2)
              rw [hL] at main
              exact main
          · cases hs
      | _ => simp at hs
/-- An argument of a shape. -/
theorem open_sh {r : Reach} {b0 : Nat} {t : TypeId} {s : Sh} {v : Value} {d : DataW H} {ps : List MemPlace} (f : Nat) (hs : shOf P f t = some s) (hval : Value.okWide P W r b0 t v) (hd : DataW.Trod enc P W 0 sp held t v d ps) :
    ∃ xs, RepL (G0 W) xs v.cells.toList ∧ (∀ u ∈ v.cells.toList, u.oneCell' = true) ∧ s.Ty xs := by
  obtain ⟨fuel, hf⟩ := hd
  exact shape_rep f t s fuel _ _ hs hf
/-- A struct argument. -/
theorem open_stsh {r : Reach} {b0 : Nat} {t : TypeId} {fs : Array Field} {s : Sh} {v : Value} {d : DataW H} {ps : List MemPlace} (f : Nat) (hs : shOf P f t = some s) (ht : P.underlying t = some (.struct fs)) (hval : Value.okWide P W r b0 t v) (hd : DataW.Trod enc P W 0 sp held t v d ps) :
    ∃ xs, Rep (G0 W) (.agg xs) v ∧ s.Ty xs := by
  obtain ⟨xs, h1, h2, h3⟩ := open_sh f hs hval hd
  obtain ⟨cs, rfl, _⟩ := okWide_struct ht hval
  refine ⟨xs, .agg (by simpa [Value.cells] using h1.1) (fun j u hu => h2 u ?_) (fun j x u hx hu => h1.2 j x u hx (by simpa [Value.cells] using hu)), h3⟩
  simp only [Value.cells]
  exact Array.mem_toList_iff.2 (Array.mem_of_getElem? hu)
theorem ex_list {β : Type} {A : List AV → Prop} {g : β → List AV} {ok : β → Prop} : ∀ {ys : List (List AV)}, (∀ y ∈ ys, A y) → (∀ y, A y → ∃ m, y = g m ∧ ok m) → ∃ l : List β, ys = l.map g ∧ ∀ m ∈ l, ok m := by
  intro ys
  induction ys with
  | nil => intro _ _; exact ⟨[], rfl, by simp⟩
  | cons y ys ih =>
    intro h hg
    obtain ⟨l, rfl, hl⟩ := ih (fun y hy => h y (List.mem_cons_of_mem _ hy)) hg
    obtain ⟨m, rfl, hm⟩ := hg y (h y (List.mem_cons_self ..))
    exact ⟨m :: l, rfl, fun x hx => by rcases List.mem_cons.1 hx with rfl | hx; exact hm; exact hl x hx⟩
end
end Go.Proofs.YtnfagphepkeedaaGreat
end
section
namespace Go.Proofs.YtnfagphepkeedaaGreat
open Go.RowKit

end Go.Proofs.YtnfagphepkeedaaGreat
end
section
namespace Go.Proofs.YtnfagphepkeedaaGreat
open Go.RowKit

theorem bys_app {a b : List Int} (ha : Bys a) (hb : Bys b) : Bys (a ++ b) := fun x hx => by rcases List.mem_append.1 hx with hx | hx; exact ha x hx; exact hb x hx
theorem frameB_le (p : List Int) : (frameB p).length ≤ p.length + 14 ∧ p.length + 5 ≤ (frameB p).length := by
  rw [frameB_len]; unfold blobB; rw [List.length_append]; have := vb_len (p.length : Int); omega
end Go.Proofs.YtnfagphepkeedaaGreat
end
section
namespace Go.Proofs.YtnfagphepkeedaaGreat
end Go.Proofs.YtnfagphepkeedaaGreat
end
section
namespace Go.Proofs.YtnfagphepkeedaaGreat
open Go.RowKit

end Go.Proofs.YtnfagphepkeedaaGreat
end
section
namespace Go.Proofs.YtnfagphepkeedaaGreat
open Go.RowKit

/-- Rows of bytes. -/
def bss (l : List (List Int)) : List AV := l.map (slA .u8)
@[simp] theorem ren_bss (ρ : Nat → Nat) (l : List (List Int)) : (bss l).map (fun x => x.ren ρ) = bss l := by simp [bss, ixs_z]
def Byss (l : List (List Int)) : Prop := ∀ b ∈ l, Bys b
theorem ls_mem (l : List (List Int)) (k : Nat) (h : k < l.length) : l.getD k [] ∈ l := by simp [h]
/-- What was laid so far: frames at their places. -/
structure Laid (l : List (List Int)) (i : Nat) (all pl : List Int) : Prop where
  len : pl.length = i
  bys : Bys all
  le : all.length ≤ 110 * i
  at_ : ∀ j, j < i → (l.getD j []).length ≤ 60 ∧ 0 ≤ pl.getD j 0 ∧ (pl.getD j 0).toNat + (frameB (l.getD j [])).length ≤ all.length ∧ (all.drop (pl.getD j 0).toNat).take (frameB (l.getD j [])).length = frameB (l.getD j [])
  last : (if i = 0 then 0 else (pl.getD (i - 1) 0).toNat + (frameB (l.getD (i - 1) [])).length) = all.length
theorem Laid.next {l : List (List Int)} {i : Nat} {all pl x : List Int} (hl : Byss l) (h : Laid l i all pl) (hi : i < l.length) (hx : Bys x) (h1 : x.length ≤ 30) (h2 : (l.getD i []).length ≤ 60) :
    Laid l (i + 1) (all ++ x ++ frameB (l.getD i [])) (pl ++ [((all ++ x).length : Int)]) := by
  have hf := frameB_le (l.getD i [])
  have hb := frameB_bys (hl _ (ls_mem l i hi)) (by omega)
  obtain ⟨a1, a2, a3, a4, a5⟩ := h
  have hlast : (pl ++ [((all ++ x).length : Int)]).getD i 0 = ((all ++ x).length : Int) := by
    simp [← a1]
  refine ⟨by simp [a1], bys_app (bys_app a2 hx) hb, by simp only [List.length_append]; omega, fun j hj => ?_, ?_⟩
  · by_cases h3 : j < i
    · obtain ⟨b1, b2, b3, b4⟩ := a4 j h3
      have e : (pl ++ [((all ++ x).length : Int)]).getD j 0 = pl.getD j 0 := by
        simp [List.getElem?_append, a1, h3]
      rw [e]
      refine ⟨b1, b2, by simp only [List.length_append]; omega, ?_⟩
      rw [List.append_assoc, List.drop_append_of_le_length (by omega), List.take_append_of_le_length (by rw [List.length_drop]; omega)]
      exact b4
    · obtain rfl : j = i := by omega
      rw [hlast, Int.toNat_natCast]
      refine ⟨h2, by omega, by simp only [List.length_append]; omega, ?_⟩
      rw [List.drop_left, List.take_length]
  · rw [if_neg (by omega), Nat.add_sub_cancel, hlast, Int.toNat_natCast]
    simp only [List.length_append]
theorem Laid.whole {l : List (List Int)} {i : Nat} {all pl : List Int} (hl : Byss l) (h : Laid l i all pl) (hi : i = l.length) {j : Nat} (hj : j < i) : wholeF (all.drop (pl.getD j 0).toNat) 60 = (frameB (l.getD j [])).length := by
  obtain ⟨b1, b2, b3, b4⟩ := h.at_ j hj
  obtain ⟨p, hp⟩ : ∃ p, l.getD j [] = p := ⟨_, rfl⟩
  rw [hp] at b1 b3 b4 ⊢
  have e : all.drop (pl.getD j 0).toNat = vb (p.length : Int) ++ ((p ++ lowBytes 4 (crcI p)) ++ (all.drop (pl.getD j 0).toNat).drop (frameB p).length) := by
    conv => lhs; rw [← List.take_append_drop (frameB p).length (all.drop (pl.getD j 0).toNat), b4]
    unfold frameB blobB
    simp only [List.append_assoc]
  have hm : mfr 60 = 60 := by decide
  have hi := int_own (s := RS.new (all.drop (pl.getD j 0).toNat)) (x := (p.length : Int)) (m := mfr 60) rfl (by omega) (by rw [hm]; omega) (by omega) ((new_rest _).trans e)
  unfold wholeF
  rw [hi]
  show (if (0 : Int) = 0 then sizeF (p.length : Int) else 0) = _
  rw [if_pos rfl, sizeF_frame]
end Go.Proofs.YtnfagphepkeedaaGreat
end
section
namespace Go.Proofs.YtnfagphepkeedaaGreat

theorem ty_ints' {k : IntKind} {ys : List (List AV)} (h : ∀ y ∈ ys, y.length = 1 ∧ (Sh.int k).Ty y) : ∃ l : List Int, ys.map (elA false) = ints k l ∧ ∀ n ∈ l, (Lit.int k n).wf = true := by
  obtain ⟨l, rfl, hl⟩ := ex_list (g := fun n : Int => [AV.lit (.int k n)]) (ok := fun n => (Lit.int k n).wf = true) (fun y hy => (h y hy).2) fun y hy => hy
  exact ⟨l, by simp [ints, elA], hl⟩
end Go.Proofs.YtnfagphepkeedaaGreat
end
section
namespace Go.Proofs.YtnfagphepkeedaaGreat

def shLk : Sh := .pair (.int .u64) (.pair (.sl false 1 (.int .u64)) .nil)
theorem ty_lk {y : List AV} (h : shLk.Ty y) : ∃ x : Lk, y = [uA x.st, slA .u64 x.bk] ∧ x.ok := by
  obtain ⟨a, b, rfl, ⟨p, rfl, hp⟩, c, d, rfl, ⟨ys, rfl, hy⟩, rfl⟩ := h
  obtain ⟨l, e1, hl⟩ := ty_ints' hy
  have := u64_wf hp
  exact ⟨⟨p, l⟩, by rw [e1]; rfl, ⟨by simp only; omega, by simp only; omega, fun x hx => by have := u64_wf (hl x hx); omega⟩⟩
theorem lks_of {ys : List (List AV)} (h : ∀ y ∈ ys, y.length = 2 ∧ shLk.Ty y) : ∃ l : List Lk, ys.map (elA true) = lks l ∧ Lks l := by
  obtain ⟨l, rfl, hl⟩ := ex_list (g := fun x : Lk => [uA x.st, slA .u64 x.bk]) (ok := Lk.ok) (fun y hy => (h y hy).2) fun y hy => ty_lk hy
  exact ⟨l, by simp [lks, lkA, elA], hl⟩
def shEn : Sh := .pair (.sl true 2 shLk) (.pair (.sl false 1 (.int .u8)) .nil)
theorem ty_en {y : List AV} (h : shEn.Ty y) : ∃ e : En, y = [slL e.lk, slA .u8 e.data] ∧ e.ok := by
  obtain ⟨a, b, rfl, ⟨zs, rfl, hz⟩, c, d, rfl, ⟨ys, rfl, hy⟩, rfl⟩ := h
  obtain ⟨l, e1, hl⟩ := ty_ints' hy
  obtain ⟨k, e2, hk⟩ := lks_of hz
  exact ⟨⟨k, l⟩, by rw [e1, e2]; rfl, ⟨hk, bys_wf hl⟩⟩
end Go.Proofs.YtnfagphepkeedaaGreat
end
section
namespace Go.Proofs.YtnfagphepkeedaaGreat

theorem ens_of {ys : List (List AV)} (h : ∀ y ∈ ys, y.length = 2 ∧ shEn.Ty y) : ∃ l : List En, ys.map (elA true) = ens l ∧ Ens l := by
  obtain ⟨l, rfl, hl⟩ := ex_list (g := fun e : En => [slL e.lk, slA .u8 e.data]) (ok := En.ok) (fun y hy => (h y hy).2) fun y hy => ty_en hy
  exact ⟨l, by simp [ens, elA], hl⟩
end Go.Proofs.YtnfagphepkeedaaGreat
end
section
namespace Go.Proofs.YtnfagphepkeedaaGreat

def shBt : Sh := .pair (.int .u64) (.pair (.int .u64) (.pair (.sl true 2 shEn) .nil))
theorem ty_bt {y : List AV} (h : shBt.Ty y) : ∃ x : Bt, y = [uA x.ep, uA x.base, slE x.en] ∧ x.ok := by
  obtain ⟨a, b, rfl, ⟨p, rfl, hp⟩, c, d, rfl, ⟨q, rfl, hq⟩, e, f, rfl, ⟨ys, rfl, hy⟩, rfl⟩ := h
  obtain ⟨l, e1, hl⟩ := ens_of hy
  have := u64_wf hp
  have := u64_wf hq
  exact ⟨⟨p, q, l⟩, by rw [e1]; rfl, ⟨by simp only; omega, by simp only; omega, by simp only; omega, by simp only; omega, hl⟩⟩
theorem bts_of {ys : List (List AV)} (h : ∀ y ∈ ys, y.length = 3 ∧ shBt.Ty y) : ∃ l : List Bt, ys.map (elA true) = bts l ∧ Bts l := by
  obtain ⟨l, rfl, hl⟩ := ex_list (g := fun x : Bt => [uA x.ep, uA x.base, slE x.en]) (ok := Bt.ok) (fun y hy => (h y hy).2) fun y hy => ty_bt hy
  exact ⟨l, by simp [bts, btA, elA], hl⟩
def shS2 : Sh := .pair (.int .u64) (.pair (.sl true 3 shBt) .nil)
theorem s2_of {xs : List AV} (h : shS2.Ty xs) : ∃ u : Sg2, AV.agg xs = sg2A u ∧ Bts u.bt := by
  obtain ⟨a, b, rfl, ⟨p, rfl, hp⟩, e, f, rfl, ⟨ys, rfl, hy⟩, rfl⟩ := h
  obtain ⟨l, e1, hl⟩ := bts_of hy
  exact ⟨⟨p, l⟩, by rw [e1]; rfl, hl⟩
end Go.Proofs.YtnfagphepkeedaaGreat
end
section
namespace Go.Proofs.YtnfagphepkeedaaGreat
open Go.RowKit

def leadsAt (P : Program) (g : Nat) : List Nat := (P.funcs[g]?).elim [] P.leadsTo
/-- What a function's own text says: where it leads; is it one of ours, or without a text; does it call what no name tells; which variables it names. -/
def tellOf (P : Program) (g : Func) : List Nat × Bool × Bool × List Nat :=
  (P.leadsTo g, (g.ours || g.body.isNone || g.name == "runtime.NumGoroutine"), (match g.body with | some c => c.unfollowed | none => entryCalls g), g.body.elim [] Code.globalsNamed)

section
variable {P : Program} {T : List (List Nat × Bool × Bool × List Nat)}
def T0 : List Nat × Bool × Bool × List Nat := ([], false, false, [])
theorem tell_at (hT : P.funcs.toList.map (tellOf P) = T) (g : Nat) {fn : Func} (h : P.funcs[g]? = some fn) : T[g]? = some (tellOf P fn) := by
  rw [← hT, List.getElem?_map]
  simp [h]
theorem leads_at (hT : P.funcs.toList.map (tellOf P) = T) (g : Nat) : leadsAt P g = ((T[g]?).getD T0).1 := by
  cases h : P.funcs[g]? with
  | none => rw [← hT, List.getElem?_map]; simp [leadsAt, h, T0]
  | some fn => rw [tell_at hT g h]; simp [leadsAt, h, tellOf]

theorem mem_seen (g : Nat) : ∀ n todo seen, g ∈ seen → g ∈ P.closureVia n todo seen := by
  intro n
  induction n with
  | zero => intro todo seen h; simpa [Program.closureVia] using h
  | succ n ih =>
    intro todo seen h
    cases todo with
    | nil => simpa [Program.closureVia] using h
    | cons f todo =>
      unfold Program.closureVia
      split
      · exact ih _ _ h
      · exact ih _ _ (List.mem_cons_of_mem _ h)
theorem closure_sub (C : Nat → Prop) (hC : ∀ g, C g → ∀ h ∈ leadsAt P g, C h) : ∀ n todo seen, (∀ x ∈ todo, C x) → (∀ x ∈ seen, C x) → ∀ x ∈ P.closureVia n todo seen, C x := by
  intro n
  induction n with
  | zero => intro todo seen _ hs x hx; exact hs x (by simpa [Program.closureVia] using hx)
  | succ n ih =>
    intro todo seen ht hs
    cases todo with
    | nil => intro x hx; exact hs x (by simpa [Program.closureVia] using hx)
    | cons f todo =>
      unfold Program.closureVia
      split
      · exact ih _ _ (fun x hx => ht x (List.mem_cons_of_mem _ hx)) hs
      · refine ih _ _ (fun x hx => ?_) (fun x hx => ?_)
        · rcases List.mem_append.1 hx with h | h
          · exact hC f (ht f (List.mem_cons_self ..)) x h
          · exact ht x (List.mem_cons_of_mem _ h)
        · rcases List.mem_cons.1 hx with h | h
          · rw [h]; exact ht f (List.mem_cons_self ..)
          · exact hs x h
theorem closure_in (C : Nat → Prop) (hC : ∀ g, C g → ∀ h ∈ leadsAt P g, C h) {f : Nat} (hf : C f) : ∀ x ∈ P.closure f, C x :=
  closure_sub C hC _ _ _ (fun x hx => by simp at hx; rw [hx]; exact hf) (fun x hx => by simp at hx)

/-- The walk of the closure on the table, k steps. -/
def closT (T : List (List Nat × Bool × Bool × List Nat)) : Nat → List Nat → List Nat → List Nat × List Nat
  | 0, todo, seen => (todo, seen)
  | _, [], seen => ([], seen)
  | n + 1, f :: todo, seen => if seen.contains f then closT T n todo seen else closT T n (((T[f]?).getD T0).1 ++ todo) (f :: seen)
theorem closT_mem (hT : P.funcs.toList.map (tellOf P) = T) (g : Nat) : ∀ k n todo seen, g ∈ (closT T k todo seen).2 → g ∈ P.closureVia (k + n) todo seen := by
  intro k
  induction k with
  | zero => intro n todo seen h; exact mem_seen g _ _ _ h
  | succ k ih =>
    intro n todo seen h
    cases todo with
    | nil => exact mem_seen g _ _ _ (by simpa [closT] using h)
    | cons f todo =>
      rw [show k + 1 + n = (k + n) + 1 from by omega]
      unfold closT at h
      unfold Program.closureVia
      split at h
      · rename_i hc; rw [if_pos hc]; exact ih _ _ _ h
      · rename_i hc; rw [if_neg hc]
        have e := leads_at hT f
        unfold leadsAt at e
        rw [e]; exact ih _ _ _ h
theorem closure_mem (hT : P.funcs.toList.map (tellOf P) = T) {f g : Nat} (k : Nat) (hk : k ≤ (T.map fun t => t.1.length + 1).sum) (h : (closT T k [f] []).2.contains g = true) : g ∈ P.closure f := by
  have e : (P.funcs.toList.map fun g => (P.leadsTo g).length + 1) = T.map fun t => t.1.length + 1 := by
    rw [← hT, List.map_map]; rfl
  unfold Program.closure
  rw [e]
  obtain ⟨m, hm⟩ := Nat.exists_eq_add_of_le (Nat.le_trans hk (Nat.le_add_left _ 1))
  rw [hm]
  exact closT_mem hT g k m _ _ (by simpa using h)

/-- All that a set of functions says of itself: it leads nowhere else, all its texts are there, none names a variable. -/
def quietSet (T : List (List Nat × Bool × Bool × List Nat)) (C : List Nat) : Bool :=
  C.all fun g => match T[g]? with | some t => t.1.all (C.contains ·) && !t.2.1 && t.2.2.2.isEmpty | none => false
theorem quiet_closed (hT : P.funcs.toList.map (tellOf P) = T) {C : List Nat} (hq : quietSet T C = true) : ∀ g, g ∈ C → ∀ h ∈ leadsAt P g, h ∈ C := by
  intro g hg h hh
  have q := List.all_eq_true.1 hq g hg
  rw [leads_at hT] at hh
  cases e : T[g]? with
  | none => rw [e] at q; simp at q
  | some t =>
    rw [e] at q hh
    simp only [Bool.and_eq_true, List.all_eq_true] at q
    simpa using q.1.1 h hh
theorem quiet_tell (hT : P.funcs.toList.map (tellOf P) = T) {C : List Nat} (hq : quietSet T C = true) {g : Nat} (hg : g ∈ C) : ∃ fn, P.funcs[g]? = some fn ∧ (fn.ours || fn.body.isNone || fn.name == "runtime.NumGoroutine") = false ∧ fn.body.elim [] Code.globalsNamed = [] := by
  have q := List.all_eq_true.1 hq g hg
  cases h : P.funcs[g]? with
  | none =>
    have : T[g]? = none := by rw [← hT, List.getElem?_map]; simp [h]
    rw [this] at q; simp at q
  | some fn =>
    rw [tell_at hT g h] at q
    simp only [tellOf, Bool.and_eq_true, List.isEmpty_iff, Bool.not_eq_true'] at q
    exact ⟨fn, rfl, q.1.2, q.2⟩
theorem inPlace_nil (hT : P.funcs.toList.map (tellOf P) = T) {C : List Nat} (hq : quietSet T C = true) {f : Nat} (hf : f ∈ C) : [] = P.inPlace f := by
  unfold Program.inPlace
  symm
  rw [List.filterMap_eq_nil_iff]
  intro g hg
  obtain ⟨fn, h, h1, h2⟩ := quiet_tell hT hq (closure_in (· ∈ C) (quiet_closed hT hq) hf g hg)
  simp only [h, Option.bind_some]
  rw [h1]; rfl
theorem varsNamed_nil (hT : P.funcs.toList.map (tellOf P) = T) {C : List Nat} (hq : quietSet T C = true) {f : Nat} (hf : f ∈ C) : [] = P.varsNamed f := by
  have hin := closure_in (P := P) (· ∈ C) (quiet_closed hT hq) hf
  have e1 : ((P.closure f).flatMap fun g => ((P.funcs[g]?).bind (·.body)).elim [] Code.globalsNamed) = [] := by
    rw [List.flatMap_eq_nil_iff]
    intro g hg
    obtain ⟨fn, h, h1, h2⟩ := quiet_tell hT hq (hin g hg)
    simpa [h] using h2
  have e2 : ((P.closure f).filterMap fun g => (P.funcs[g]?).bind fun fn => if fn.body.isNone then entryReads.lookup fn.name else none) = [] := by
    rw [List.filterMap_eq_nil_iff]
    intro g hg
    obtain ⟨fn, h, h1, h2⟩ := quiet_tell hT hq (hin g hg)
    have hb : fn.body.isNone = false := by
      simp only [Bool.or_eq_false_iff] at h1
      exact h1.1.2
    simp only [h, Option.bind_some, hb]; rfl
  unfold Program.varsNamed
  rw [e1, e2]
  rfl
theorem unfollowed_true (hT : P.funcs.toList.map (tellOf P) = T) {f g : Nat} (k : Nat) (hk : k ≤ (T.map fun t => t.1.length + 1).sum) (h : (closT T k [f] []).2.contains g = true)
    (hu : ((T[g]?).getD T0).2.2.1 = true) : true = P.unfollowed f := by
  unfold Program.unfollowed
  symm
  rw [List.any_eq_true]
  refine ⟨g, closure_mem hT k hk h, ?_⟩
  cases e : P.funcs[g]? with
  | none =>
    have : T[g]? = none := by rw [← hT, List.getElem?_map]; simp [e]
    rw [this] at hu; simp [T0] at hu
  | some fn =>
    rw [tell_at hT g e] at hu
    simp only [Option.getD_some, tellOf] at hu
    simp only [Option.any_some]
    revert hu
    cases fn.body <;> simp
theorem recurses_true_of_unfollowed {f : Nat} (h : true = P.unfollowed f) : true = P.recurses f := by
  unfold Program.recurses; rw [← h]; rfl
end

theorem strip_cut (rest : List (List Char)) : stripLifts liftWords ("cut".toList :: rest) = ([], "cut".toList :: rest) := by kernel_rfl
theorem cut_not : ("cut".toList == "gc".toList) = false ∧ ("cut".toList == "spec".toList) = false ∧ ("cut".toList == "carried".toList) = false ∧ ("cut".toList == "cut".toList) = true := ⟨by kernel_rfl, by kernel_rfl, by kernel_rfl, by kernel_rfl⟩
section
variable {P : Program} {rest : List (List Char)} (h : behindMainWord (wordsSigns P.initOrder.toList) = "cut".toList :: rest)
include h
theorem headLifts_of : P.headLifts = [] := by
  unfold Program.headLifts
  rw [h, strip_cut]
  simp
theorem mayEnter_of (hl : P.laysLater = false) (hb : P.bearsReflect = false) (hd : P.doorFits [] = true) : P.mayEnter = true := by
  obtain ⟨c1, c2, c3, c4⟩ := cut_not
  unfold Program.mayEnter
  rw [h]
  simp only [strip_cut, hl, hb, hd, c1, c2, c3, Bool.false_and, Bool.or_false, List.head?_cons, Bool.not_false, Bool.or_true, Bool.and_true, List.contains_nil, beq_self_eq_true]
theorem liftsFinal_of : false = P.liftsFinal := by
  obtain ⟨c1, c2, c3, c4⟩ := cut_not
  unfold Program.liftsFinal
  rw [headLifts_of h, h]
  simp only [List.head?_cons, List.contains_nil, Bool.or_false]
  have : ((some "cut".toList : Option (List Char)) == some "carried".toList) = false := c3
  rw [this]; rfl
theorem make_of : P.make = some .cut := by
  obtain ⟨c1, c2, c3, c4⟩ := cut_not
  unfold Program.make
  rw [h]
  simp only [c1, c2, c4, Bool.or_self, Bool.true_or, if_true]
  rfl
end

/-- A row's closed facts, without the four cells that walk all that the function reaches. -/
def lightFacts (P : Program) (fn : Func) (s : ChangeSpec) (c : OpenClaim) : Bool :=
  (c.wf (OpenSpec.ofChange s) && mapsRowed P && fn.params.all (P.readableRec ·) && namedTie P c.named s.vars &&
  (c.stops == []) && (P.stops == []) && (c.knobs == []) && (P.stopKnobs == [])) &&
  ((c.maps == (fn.params.toList ++ s.plain.varTypes P).any (P.mapsRec ·)) && (c.ifaces == (fn.params.toList ++ s.plain.varTypes P).any (P.ifacesRec ·)) && (c.mapsOut == P.mapsAmong fn.resultTypes.toList) &&
  (c.loops == (fn.params.toList ++ s.plain.varTypes P).any (P.loopsFrom ·)) && (c.wideKeys == (fn.params.toList ++ s.plain.varTypes P ++ fn.resultTypes.toList).any (P.wideKeysFrom ·)) &&
  s.vars.all (P.varReadable ·) && fn.resultTypes.all (fun t => P.readableRec t && decide (t < P.types.size)) && (c.ifacesOut == fn.resultTypes.toList.any (P.ifacesRec ·)) && (c.loopsOut == fn.resultTypes.toList.any (P.loopsFrom ·)) && (c.plainKeys == P.plainKeys) && c.shortTexts.isNone) &&
  (P.stopsHeard && (c.kinds == (if c.domain.isEmpty then [] else fn.params.toList.map fun t => match P.underlying t with | some (.int k) => some k | _ => none)) && (c.pinned == c.pinnedBy) &&
  (c.veiled == (fn.params.toList ++ s.plain.varTypes P ++ fn.resultTypes.toList).any (P.veiledRec ·)) && c.veiledFits P fn.params.toList (fn.params.toList ++ s.plain.varTypes P ++ fn.resultTypes.toList))
theorem joined_of {P : Program} {f : Nat} {fn : Func} {s : ChangeSpec} {c : OpenClaim} (hl : laidOutB P = true) (h : lightFacts P fn s c = true) (he : P.mayEnter = true) (hf : c.lifted = P.liftsFinal) (hm : P.make = some c.make)
    (h1 : c.inPlace = P.inPlace f) (h2 : c.unfollowed = P.unfollowed f) (h3 : c.recurses = P.recurses f) (h4 : c.named = P.varsNamed f) : joinedFacts P f fn s c = true := by
  simp only [lightFacts, Bool.and_eq_true, beq_iff_eq] at h
  obtain ⟨⟨⟨⟨⟨⟨⟨⟨⟨g0, g1⟩, g2⟩, g3⟩, g4⟩, g5⟩, g6⟩, g7⟩, ⟨⟨⟨⟨⟨⟨⟨⟨⟨⟨m0, m1⟩, m2⟩, m3⟩, m4⟩, m5⟩, m6⟩, m7⟩, m8⟩, m9⟩, m10⟩⟩, ⟨⟨⟨⟨q0, q1⟩, q2⟩, q3⟩, q4⟩⟩ := h
  simp only [joinedFacts, Bool.and_eq_true, beq_iff_eq]
  exact ⟨⟨⟨⟨⟨⟨⟨⟨⟨⟨⟨⟨⟨⟨⟨⟨⟨⟨⟨⟨⟨⟨⟨⟨⟨⟨⟨⟨⟨⟨⟨g0, hl⟩, g1⟩, g2⟩, g3⟩, g4⟩, g5⟩, g6⟩, g7⟩, h1⟩, h2⟩, h3⟩, h4⟩, m0⟩, m1⟩, m2⟩, m3⟩, m4⟩, m5⟩, m6⟩, m7⟩, m8⟩, m9⟩, m10⟩, q0⟩, he⟩, hf⟩, hm⟩, q1⟩, q2⟩, q3⟩, q4⟩
end Go.Proofs.YtnfagphepkeedaaGreat
end
section
namespace Go.Proofs.YtnfagphepkeedaaGreat
open Go.RowKit

def TELLS0 : List (List Nat × Bool × Bool × List Nat) := [([], true, false, []),
  ([], true, false, []),
  ([1], false, false, []),
  ([7, 8, 9, 10, 11, 12, 13, 7], false, false, []),
  ([14, 14, 7, 15, 16, 17, 18, 12, 17, 7, 8, 10, 20, 19, 12, 7], false, false, []),
  ([7, 8, 10, 15, 17, 19, 7, 21, 22, 19, 7, 7], false, false, []),
  ([23, 23, 7, 21, 24, 22, 25, 13, 22, 7, 10, 8, 26, 19, 13, 7], false, false, []),
  ([15, 27, 19], false, false, []),
  ([28, 29, 30, 31, 33, 32, 30, 35, 36, 37, 38, 39, 40], false, false, []),
  ([41, 42, 43, 43, 44, 45, 46, 47, 44, 48], false, false, []),
  ([28, 29, 49, 51, 50, 39, 59], false, false, []),
  ([41, 60, 61, 62, 44, 63, 44, 48, 64], false, false, []),
  ([19], false, false, []),
  ([65], false, false, []),
  ([], false, false, []),
  ([16, 27, 67, 66, 68, 68, 68, 69, 70, 37, 71], false, false, []),
  ([72, 73, 67, 75, 74], false, false, []),
  ([76, 77], false, false, []),
  ([78, 79], false, false, []),
  ([], false, false, []),
  ([81, 82, 82, 82, 83, 47, 84], false, false, []),
  ([24, 27, 85, 87, 86], false, false, []),
  ([76, 88, 63, 89], false, false, []),
  ([90, 90], false, false, []),
  ([72, 92, 91], false, false, []),
  ([97, 98], false, false, []),
  ([81, 100, 99], false, false, []),
  ([101, 66, 102, 70], false, false, []),
  ([], false, false, []),
  ([103, 38], false, false, []),
  ([], false, false, []),
  ([30, 49, 73, 38], false, false, []),
  ([53], false, true, []),
  ([34], false, false, []),
  ([104, 30, 104, 38, 53, 105], false, false, []),
  ([], false, false, []),
  ([106], false, false, []),
  ([109, 108, 107], false, false, []),
  ([53, 110], false, false, []),
  ([111, 38], false, false, [])]
set_option maxRecDepth 100000 in
theorem tells_eq0 : ((Tryz.prog.funcs.toList.drop 0).take 40).map (tellOf Tryz.prog) = TELLS0 := by kernel_rfl
def TELLS1 : List (List Nat × Bool × Bool × List Nat) := [([56, 57], false, false, []),
  ([112, 44], false, false, []),
  ([60, 77, 44], false, false, []),
  ([113, 64], false, false, []),
  ([64], false, false, []),
  ([60, 114], false, false, []),
  ([114], false, false, []),
  ([115], false, false, []),
  ([44], false, false, []),
  ([116, 30, 104, 38], false, false, []),
  ([53], false, true, []),
  ([30, 52, 53, 28, 54, 56, 30, 55, 57, 38, 58, 38], false, false, []),
  ([117, 105, 30, 36, 38, 118, 53], false, false, []),
  ([57], false, false, []),
  ([119, 120, 31, 122, 121, 39], false, false, []),
  ([110], false, false, []),
  ([110], false, false, []),
  ([], false, false, []),
  ([124], false, false, []),
  ([56, 57], false, false, []),
  ([125, 43, 44], false, false, []),
  ([45, 46, 47, 44], false, false, []),
  ([126, 126, 42, 127, 89, 44, 45, 48], false, false, []),
  ([], false, false, []),
  ([], false, false, []),
  ([128], false, false, []),
  ([], false, false, []),
  ([], false, false, []),
  ([85, 129], false, false, []),
  ([68, 129], false, false, []),
  ([130], false, false, []),
  ([], false, false, []),
  ([], false, false, []),
  ([131], false, false, []),
  ([], false, true, []),
  ([], false, false, []),
  ([], false, false, []),
  ([132], false, false, []),
  ([], false, true, []),
  ([80], false, false, [])]
set_option maxRecDepth 100000 in
theorem tells_eq1 : ((Tryz.prog.funcs.toList.drop 40).take 40).map (tellOf Tryz.prog) = TELLS1 := by kernel_rfl
def TELLS2 : List (List Nat × Bool × Bool × List Nat) := [([], false, false, []),
  ([82, 82, 47, 84], false, false, []),
  ([82], false, false, []),
  ([82], false, false, []),
  ([], false, false, []),
  ([], false, false, []),
  ([133, 66, 134, 70], false, false, []),
  ([135, 66, 136, 137, 68, 138, 69, 70], false, false, []),
  ([76, 139, 140, 141], false, false, []),
  ([], false, false, []),
  ([142], false, false, []),
  ([], false, true, []),
  ([93, 94, 96, 58], false, false, []),
  ([], false, true, []),
  ([95], false, false, []),
  ([143, 144], false, false, []),
  ([72, 145, 146, 147], false, false, []),
  ([], false, true, []),
  ([148], false, false, []),
  ([83, 47, 84], false, false, []),
  ([82, 82, 149, 83], false, false, []),
  ([150], false, false, []),
  ([151, 152, 153, 129, 37, 154], false, false, []),
  ([155, 119, 156, 120, 30, 36, 53, 153, 37, 38], false, false, []),
  ([30, 157, 53, 30, 38, 30, 30, 38], false, false, []),
  ([49, 106], false, false, []),
  ([158], false, false, []),
  ([], false, false, []),
  ([159], false, false, []),
  ([], false, false, []),
  ([], false, false, []),
  ([], false, false, []),
  ([160, 126, 126, 46, 47, 44], false, false, []),
  ([64, 64, 64], false, false, []),
  ([44, 44], false, false, []),
  ([161], false, false, []),
  ([30, 104, 38], false, false, []),
  ([], false, false, []),
  ([37], false, true, []),
  ([162, 72], false, false, [])]
set_option maxRecDepth 100000 in
theorem tells_eq2 : ((Tryz.prog.funcs.toList.drop 80).take 40).map (tellOf Tryz.prog) = TELLS2 := by kernel_rfl
def TELLS3 : List (List Nat × Bool × Bool × List Nat) := [([162, 131], false, false, []),
  ([53], false, true, []),
  ([30, 123, 95, 38, 105], false, false, []),
  ([49, 30, 104, 38, 163, 53], false, false, []),
  ([], false, false, []),
  ([43, 44], false, false, []),
  ([43, 76, 132, 44], false, false, []),
  ([60, 43, 44, 164], false, false, []),
  ([165], false, false, []),
  ([130, 166, 152], false, false, []),
  ([], false, false, []),
  ([], false, false, []),
  ([], false, false, []),
  ([167], false, false, []),
  ([152, 69, 37, 154], false, false, []),
  ([147, 168, 150], false, false, []),
  ([72, 169], false, false, []),
  ([131, 169], false, false, []),
  ([170, 152, 68, 171, 68, 172], false, false, []),
  ([132], false, false, []),
  ([], false, false, []),
  ([173], false, false, []),
  ([174], false, false, []),
  ([], false, true, []),
  ([], false, false, []),
  ([131], false, false, []),
  ([], false, false, []),
  ([170], false, false, []),
  ([175, 176], false, false, []),
  ([82, 177], false, false, []),
  ([], false, false, []),
  ([72, 131, 156], false, false, []),
  ([130], false, false, []),
  ([101, 66, 178, 129, 136, 156, 137, 70], false, false, []),
  ([71, 129], false, false, []),
  ([30, 106, 38, 157, 30, 38, 53], false, false, []),
  ([], false, false, []),
  ([158], false, false, []),
  ([53, 38, 111, 38], false, false, []),
  ([179], false, false, [])]
set_option maxRecDepth 100000 in
theorem tells_eq3 : ((Tryz.prog.funcs.toList.drop 120).take 40).map (tellOf Tryz.prog) = TELLS3 := by kernel_rfl
def TELLS4 : List (List Nat × Bool × Bool × List Nat) := [([114, 44, 114, 44], false, false, []),
  ([], false, false, []),
  ([30, 104, 38, 53], false, true, []),
  ([49, 30, 104, 38, 53], false, false, []),
  ([60, 43, 44], false, false, []),
  ([180], false, false, []),
  ([], false, false, []),
  ([150], false, false, []),
  ([170, 150, 171, 150, 181], false, false, []),
  ([152, 68], false, false, []),
  ([182, 183, 184, 186], false, false, []),
  ([], false, false, []),
  ([187, 152, 68, 68], false, false, []),
  ([188], false, false, []),
  ([189], false, false, []),
  ([], false, true, []),
  ([190, 80], false, false, []),
  ([82, 191, 82], false, false, []),
  ([129], false, false, []),
  ([], false, false, []),
  ([192, 19], false, false, []),
  ([187, 150, 150], false, false, []),
  ([], false, true, []),
  ([], false, false, []),
  ([185], false, false, []),
  ([187], false, false, []),
  ([], false, true, []),
  ([], false, false, []),
  ([], false, false, []),
  ([193], false, false, []),
  ([194, 195], false, false, []),
  ([], false, false, []),
  ([197], false, false, []),
  ([], false, false, []),
  ([], false, true, []),
  ([196], false, false, []),
  ([], false, false, []),
  ([198], false, false, []),
  ([], false, false, []),
  ([], true, false, [])]
set_option maxRecDepth 100000 in
theorem tells_eq4 : ((Tryz.prog.funcs.toList.drop 160).take 40).map (tellOf Tryz.prog) = TELLS4 := by kernel_rfl
def TELLS5 : List (List Nat × Bool × Bool × List Nat) := [([], true, false, []),
  ([], true, false, []),
  ([], true, false, []),
  ([], true, false, []),
  ([], true, false, []),
  ([], true, false, []),
  ([], true, false, []),
  ([], true, false, []),
  ([], true, false, []),
  ([], true, false, []),
  ([], true, false, []),
  ([], true, false, []),
  ([], true, false, []),
  ([], true, false, []),
  ([], true, false, []),
  ([], true, false, [])]
set_option maxRecDepth 100000 in
theorem tells_eq5 : ((Tryz.prog.funcs.toList.drop 200).take 16).map (tellOf Tryz.prog) = TELLS5 := by kernel_rfl
def TELLS : List (List Nat × Bool × Bool × List Nat) := TELLS0 ++ TELLS1 ++ TELLS2 ++ TELLS3 ++ TELLS4 ++ TELLS5
theorem tells_size : Tryz.prog.funcs.toList.length = 216 := by kernel_rfl
theorem split_at {α : Type} (l : List α) (i n : Nat) : (l.drop i) = (l.drop i).take n ++ l.drop (i + n) := by
  rw [← List.drop_drop]; exact (List.take_append_drop n _).symm
theorem tells_eq : Tryz.prog.funcs.toList.map (tellOf Tryz.prog) = TELLS := by
  have h0 : Tryz.prog.funcs.toList = Tryz.prog.funcs.toList.drop 0 := rfl
  rw [h0]
  rw [split_at Tryz.prog.funcs.toList 0 40, List.map_append, tells_eq0]
  rw [split_at Tryz.prog.funcs.toList 40 40, List.map_append, tells_eq1]
  rw [split_at Tryz.prog.funcs.toList 80 40, List.map_append, tells_eq2]
  rw [split_at Tryz.prog.funcs.toList 120 40, List.map_append, tells_eq3]
  rw [split_at Tryz.prog.funcs.toList 160 40, List.map_append, tells_eq4]
  rw [split_at Tryz.prog.funcs.toList 200 16, List.map_append, tells_eq5]
  rw [List.drop_eq_nil_of_le (by rw [tells_size]; omega)]
  simp [TELLS]
def initSigns : List Nat := [104, 97, 114, 110, 101, 115, 115, 32, 56, 52, 55, 54, 54, 50, 49, 100, 53, 51, 51, 54, 54, 57, 50, 57, 97, 98, 102, 98, 98, 102, 51, 98, 98, 100, 100, 99, 98, 56, 50, 100, 48, 51, 98, 49, 97, 51, 100, 102, 98, 97, 50, 56, 97, 100, 98, 97, 54, 100, 55, 49, 50, 48, 99, 55, 100, 99, 51, 53, 101, 50, 55, 50, 32, 99, 117, 116, 32, 97, 116, 32, 116, 104, 111, 108, 101, 112, 105, 110, 47, 116, 104, 111, 108, 101, 112, 105, 110, 108, 97, 119, 51, 53, 46, 76, 101, 103, 97, 99, 121, 82, 101, 97, 100, 115, 32, 116, 104, 111, 108, 101, 112, 105, 110, 47, 116, 104, 111, 108, 101, 112, 105, 110, 108, 97, 119, 51, 53, 46, 76, 101, 103, 97, 99, 121, 79, 110, 101, 115, 32, 116, 104, 111, 108, 101, 112, 105, 110, 47, 116, 104, 111, 108, 101, 112, 105, 110, 108, 97, 119, 51, 53, 46, 76, 101, 103, 97, 99, 121, 79, 110, 99, 101, 32, 116, 104, 111, 108, 101, 112, 105, 110, 47, 116, 104, 111, 108, 101, 112, 105, 110, 108, 97, 119, 51, 53, 46, 76, 101, 103, 97, 99, 121, 84, 119, 111, 115]
set_option maxRecDepth 100000 in
theorem init_is : Tryz.prog.initOrder = String.ofList (initSigns.map Char.ofNat) := by kernel_rfl
theorem init_list : Tryz.prog.initOrder.toList = initSigns.map Char.ofNat := by rw [init_is]; exact String.toList_ofList
theorem cut_word : ("cut").toList = [99, 117, 116].map Char.ofNat := by decide +kernel
theorem cut_head : (behindMainWord (wordsSigns (initSigns.map Char.ofNat))).head? = some ([99, 117, 116].map Char.ofNat) := by kernel_rfl
theorem behind_main : ∃ rest, behindMainWord (wordsSigns Tryz.prog.initOrder.toList) = "cut".toList :: rest := by
  have h := cut_head
  rw [init_list, cut_word]
  cases hb : behindMainWord (wordsSigns (initSigns.map Char.ofNat)) with
  | nil => rw [hb] at h; cases h
  | cons c r => rw [hb] at h; simp only [List.head?_cons, Option.some.injEq] at h; exact ⟨r, by rw [h]⟩
theorem lays_later : Tryz.prog.laysLater = false := by kernel_rfl
theorem bears_reflect : Tryz.prog.bearsReflect = false := by kernel_rfl
theorem door_fits : Tryz.prog.doorFits [] = true := by kernel_rfl
theorem may_enter : Tryz.prog.mayEnter = true := by
  obtain ⟨rest, h⟩ := behind_main
  exact mayEnter_of h lays_later bears_reflect door_fits
theorem lifts_final : false = Tryz.prog.liftsFinal := by
  obtain ⟨rest, h⟩ := behind_main
  exact liftsFinal_of h
theorem make_cut : Tryz.prog.make = some .cut := by
  obtain ⟨rest, h⟩ := behind_main
  exact make_of h
end Go.Proofs.YtnfagphepkeedaaGreat
end
section
namespace Go.Proofs.YtnfagphepkeedaaGreat
open Go.RowKit
namespace CellLegacyTwos
def C : List Nat := [6, 7, 8, 10, 13, 15, 16, 19, 21, 22, 23, 24, 25, 26, 27, 28, 29, 30, 31, 32, 33, 34, 35, 36, 37, 38, 39, 40, 47, 49, 50, 51, 52, 53, 54, 55, 56, 57, 58, 59, 63, 65, 66, 67, 68, 69, 70, 71, 72, 73, 74, 75, 76, 80, 81, 82, 83, 84, 85, 86, 87, 88, 89, 90, 91, 92, 93, 94, 95, 96, 97, 98, 99, 100, 101, 102, 103, 104, 105, 106, 107, 108, 109, 110, 111, 115, 116, 117, 118, 119, 120, 121, 122, 123, 124, 128, 129, 130, 131, 132, 133, 134, 135, 136, 137, 138, 139, 140, 141, 142, 143, 144, 145, 146, 147, 148, 149, 150, 151, 152, 153, 154, 155, 156, 157, 158, 159, 161, 162, 163, 165, 166, 167, 168, 169, 170, 171, 172, 173, 174, 175, 176, 177, 178, 179, 180, 181, 182, 183, 184, 185, 186, 187, 188, 189, 190, 191, 192, 193, 194, 195, 196, 197, 198]
theorem quiet : quietSet TELLS C = true := by decide +kernel
theorem mem : 6 ∈ C := by decide
theorem unf : true = Tryz.prog.unfollowed 6 := unfollowed_true (g := 74) tells_eq 18 (by decide +kernel) (by decide +kernel) (by decide +kernel)
theorem rec : true = Tryz.prog.recurses 6 := recurses_true_of_unfollowed unf
theorem light : lightFacts Tryz.pinned.checked.prog Tryz.f6 Rows.legacyTwosSpec Rows.legacyTwosRow = true := by kernel_rfl
theorem lifted : Rows.legacyTwosRow.lifted = Tryz.pinned.checked.prog.liftsFinal := lifts_final
theorem made : Tryz.pinned.checked.prog.make = some Rows.legacyTwosRow.make := make_cut
theorem closed : joinedFacts Tryz.pinned.checked.prog 6 Tryz.f6 Rows.legacyTwosSpec Rows.legacyTwosRow = true :=
  joined_of Tryz.laidOut light may_enter lifted made (inPlace_nil tells_eq quiet mem) unf rec (varsNamed_nil tells_eq quiet mem)
theorem named : Tryz.pinned.checked.prog.funcNamed Rows.legacyTwosRow.func = some 6 := by kernel_rfl
theorem inst : Tryz.f6.isInstance Tryz.pinned.checked.prog Rows.legacyTwosRow.origin Rows.legacyTwosRow.targs := of_decide_eq_true (by kernel_rfl)
theorem wrap : Tryz.f6.isWrapper Tryz.pinned.checked.prog Rows.legacyTwosRow.wrapper Rows.legacyTwosRow.mainSum := by unfold Func.isWrapper; first | (rw [if_pos (by decide +kernel)]; kernel_rfl) | (rw [if_neg (by decide +kernel)]; exact ⟨rfl, rfl⟩)
end CellLegacyTwos
end Go.Proofs.YtnfagphepkeedaaGreat
end
