/-
  Contracts of chapter 35: how a segment of the version 1 is read, step by step.
  Contracts of chapter 35: a segment of the version 1 read.
  Contracts of chapter 35: a segment of the version 1 read by the reference.
  Contracts of footer's trailer and of the reference's payload; live.
  Contracts of the reference's footers, written.
  Contracts of footers' writing.
  Contracts of chapter 35: a segment of the version 1 written; by the reference.
  Contracts of chapter 35: well-formed by the reference; live.
  Contracts of chapter 35: links, entries, batches, the same or not.
  Contracts of chapter 35: which batches are well-formed, and may stand behind others.
  Contracts of chapter 35: which segments of the version 2 are well-formed; long ones.
  Contracts of chapter 35: a batch as the version 2 writes it, read.
  Contracts of footer.Find.
  Contracts of chapter 35: a segment of the version 2 read.
  Contracts of chapter 35: a segment of the version 2 read by the reference.
  Contracts of chapter 35: a segment of the version 2 written; by the reference.
  Chapter 35: LegacyReads, LegacyOnce, LegacyOnes, LegacyTwos.
  What a function reaches, read off a table of where each function leads: the cells inPlace, unfollowed, recurses, named of a row, without walking the texts again for each row.
  Closed facts on the program of this seat: where each function leads, and what it names.
  The closed facts of the row of LegacyOnce.
-/
import Derived.Test.YtnfagphepkeedaaGreatB3
import Derived.Test.YtnfagphepkeedaaGreatB2
import Derived.Test.YtnfagphepkeedaaGreatB1
set_option linter.all false
set_option linter.unusedSimpArgs false
set_option linter.unusedVariables false
set_option linter.unnecessarySimpa false
section
namespace Go.Proofs.YtnfagphepkeedaaGreat
open Go.RowKit

theorem Reader_Since0 (s : RS) (a : Int) (hs : s.ok) (a0 : 0 ≤ a) (a1 : a ≤ s.at_) : Does Tryz.prog 35 [.ref 0 0, iA a] [rdr s] (slA .u8 ((s.l.drop a.toNat).take (s.at_ - a).toNat)) [rdr (s)] := by
  obtain ⟨h0, h1, h2⟩ := hs
  have q1 : decide (a < 0) = false := decide_eq_false (by omega)
  have q2 : decide (s.at_ < a) = false := decide_eq_false (by omega)
  have e1 : ((s.l.drop a.toNat).take (s.at_ - a).toNat).length ≤ s.l.length := by simp; omega
  unfold rdr
  refine Does.runA Tryz.func35 b35 n35 Tryz.ntmps35 ?_; simp only [c35, go_sem, Nat.reduceAdd, Nat.reduceMul, Int.reduceToNat, Nat.reduceLeDiff, Int.reduceLE, Int.reduceLT, ↓reduceIte, Int.reduceBEq, Int.reduceBNe, Int.reduceAdd, Int.reduceSub, Int.reduceMul, q1, q2, ints_length, ints_drop, ints_take]; try refine okTr_and rfl ?_
  (repeat ((with_reducible refine And.intro ?_ ?_); (· exact sd)))
  (refine FinK.untag 4 rfl ?_; simp only [untag1_sl, List.set_cons_zero, List.set_cons_succ])
  exact FinK.finA r35 [0]
theorem Reader_Since (s : RS) (a : Int) (i : Nat) (hs : s.ok) (a0 : 0 ≤ a) (a1 : a ≤ s.at_) : Ct Tryz.prog 35 [.ref i 0, iA a] [(i, rdr s)] (fun _ => slA .u8 ((s.l.drop a.toNat).take (s.at_ - a).toNat)) [] (fun _ => []) :=
  Ct.r1 (Reader_Since0 s a hs a0 a1) i cl (fun ρ => rdr_ren ρ s) (rdr_dead s) cl
theorem legacy_begin0 (s : RS) (v : Int) (hs : ROk s) (hv : ¬ v = 0) : Does Tryz.prog 29 [.ref 0 0, iA v] [rdr s] (hdA s.header.2) [rdr (s.begin v)] := by
  have hbad := fun hc => header_bad (s := s) hc
  obtain ⟨F, hF⟩ : ∃ F, s.header = F := ⟨_, rfl⟩
  have e : s.begin v = if F.1.code = 0 ∧ ¬ F.2.ver = v then F.1.fail 8 4 else F.1 := by unfold RS.begin; rw [hF]
  rw [e, hF]
  rw [hF] at hbad
  refine Does.runA Tryz.func29 b29 n29 Tryz.ntmps29 ?_; simp only [c29, go_sem, Nat.reduceAdd, Nat.reduceMul, Int.reduceToNat, Nat.reduceLeDiff, Int.reduceLE, Int.reduceLT, ↓reduceIte, Int.reduceBEq, Int.reduceBNe, Int.reduceAdd, Int.reduceSub, Int.reduceMul]; try refine okTr_and rfl ?_
  refine CallK.u1 (header_Read s 0 hs) rfl ?_; (simp only [go_sem, Nat.reduceAdd, Nat.reduceMul, Int.reduceToNat, Nat.reduceLeDiff, Int.reduceLE, Int.reduceLT, ↓reduceIte, Int.reduceBEq, Int.reduceBNe, Int.reduceAdd, Int.reduceSub, Int.reduceMul, hF]; try refine okTr_and rfl ?_)
  by_cases h : F.2.ver = v
  · have q : (F.2.ver != v) = false := by simpa using h
    rw [if_neg (fun hh => hh.2 h)]
    (simp only [go_sem, Nat.reduceAdd, Nat.reduceMul, Int.reduceToNat, Nat.reduceLeDiff, Int.reduceLE, Int.reduceLT, ↓reduceIte, Int.reduceBEq, Int.reduceBNe, Int.reduceAdd, Int.reduceSub, Int.reduceMul, q]; try refine okTr_and rfl ?_)
    exact FinK.finA r29 [0]
  · have q : (F.2.ver != v) = true := by simpa using h
    have e2 : (if F.1.code = 0 ∧ ¬ F.2.ver = v then F.1.fail 8 4 else F.1) = F.1.fail 8 4 := by
      by_cases hc : F.1.code = 0
      · rw [if_pos ⟨hc, h⟩]
      · rw [if_neg (fun hh => hc hh.1), fail_stays hc]
    rw [e2]
    (simp only [go_sem, Nat.reduceAdd, Nat.reduceMul, Int.reduceToNat, Nat.reduceLeDiff, Int.reduceLE, Int.reduceLT, ↓reduceIte, Int.reduceBEq, Int.reduceBNe, Int.reduceAdd, Int.reduceSub, Int.reduceMul, q]; try refine okTr_and rfl ?_)
    refine CallK.u1 (Reader_Fail F.1 8 4 0) rfl ?_; (simp only [go_sem, Nat.reduceAdd, Nat.reduceMul, Int.reduceToNat, Nat.reduceLeDiff, Int.reduceLE, Int.reduceLT, ↓reduceIte, Int.reduceBEq, Int.reduceBNe, Int.reduceAdd, Int.reduceSub, Int.reduceMul]; try refine okTr_and rfl ?_)
    exact FinK.finA r29 [0]
theorem legacy_begin (s : RS) (v : Int) (i : Nat) (hs : ROk s) (hv : ¬ v = 0) : Ct Tryz.prog 29 [.ref i 0, iA v] [(i, rdr s)] (fun _ => hdA s.header.2) [(i, rdr (s.begin v))] (fun _ => []) := Ct.u1 (legacy_begin0 s v hs hv) i cl (fun ρ => rdr_ren ρ _) (fun ρ => rdr_ren ρ _) (rdr_dead _) cl
theorem legacy_counted0 (s : RS) (base least most : Int) (hs : ROk s) (b0 : 0 ≤ base) (b1 : base < 18446744073709551616) (m1 : most ≤ 1000000) : Does Tryz.prog 31 [.ref 0 0, uA base, iA least, iA most] [rdr s] (iA (s.cnt base least most).2) [rdr ((s.cnt base least most).1)] := by
  have hr := int_range (s := s) (m := most) hs.bys
  have hsnd := cnt_snd s base least most
  have hz := fun hc => int_zero (s := s) (m := most) hc
  obtain ⟨F, hF⟩ : ∃ F, s.int most = F := ⟨_, rfl⟩
  have e : s.cnt base least most = if F.1.code = 0 ∧ (F.2 < least ∨ fitsB base F.2 = false) then (F.1.fail 3 s.at_, F.2) else F := by unfold RS.cnt; rw [hF]
  rw [hsnd, e, hF]
  rw [hF] at hr hz
  have yes : F.2 < least ∨ fitsB base F.2 = false → (if F.1.code = 0 ∧ (F.2 < least ∨ fitsB base F.2 = false) then (F.1.fail 3 s.at_, F.2) else F).1 = F.1.fail 3 s.at_ := fun h => by
    by_cases hc : F.1.code = 0
    · rw [if_pos ⟨hc, h⟩]
    · rw [if_neg (fun hh => hc hh.1), fail_stays hc]
  have no : ¬ (F.2 < least ∨ fitsB base F.2 = false) → (if F.1.code = 0 ∧ (F.2 < least ∨ fitsB base F.2 = false) then (F.1.fail 3 s.at_, F.2) else F).1 = F.1 := fun h => by
    rw [if_neg (fun hh => h hh.2)]
  refine Does.runA Tryz.func31 b31 n31 Tryz.ntmps31 ?_; simp only [c31, go_sem, Nat.reduceAdd, Nat.reduceMul, Int.reduceToNat, Nat.reduceLeDiff, Int.reduceLE, Int.reduceLT, ↓reduceIte, Int.reduceBEq, Int.reduceBNe, Int.reduceAdd, Int.reduceSub, Int.reduceMul]; try refine okTr_and rfl ?_
  refine CallK.r1 (Reader_At s 0) rfl ?_; (simp only [go_sem, Nat.reduceAdd, Nat.reduceMul, Int.reduceToNat, Nat.reduceLeDiff, Int.reduceLE, Int.reduceLT, ↓reduceIte, Int.reduceBEq, Int.reduceBNe, Int.reduceAdd, Int.reduceSub, Int.reduceMul]; try refine okTr_and rfl ?_)
  refine CallK.u1 (varint_ReadInt s most 0 (by omega) hs.ok hs.bys) rfl ?_; (simp only [go_sem, Nat.reduceAdd, Nat.reduceMul, Int.reduceToNat, Nat.reduceLeDiff, Int.reduceLE, Int.reduceLT, ↓reduceIte, Int.reduceBEq, Int.reduceBNe, Int.reduceAdd, Int.reduceSub, Int.reduceMul, hF]; try refine okTr_and rfl ?_)
  by_cases h1 : F.2 < least
  · have q1 : decide (F.2 < least) = true := decide_eq_true h1
    rw [yes (.inl h1)]
    (simp only [go_sem, Nat.reduceAdd, Nat.reduceMul, Int.reduceToNat, Nat.reduceLeDiff, Int.reduceLE, Int.reduceLT, ↓reduceIte, Int.reduceBEq, Int.reduceBNe, Int.reduceAdd, Int.reduceSub, Int.reduceMul, q1]; try refine okTr_and rfl ?_)
    refine CallK.u1 (Reader_Fail F.1 3 s.at_ 0) rfl ?_; (simp only [go_sem, Nat.reduceAdd, Nat.reduceMul, Int.reduceToNat, Nat.reduceLeDiff, Int.reduceLE, Int.reduceLT, ↓reduceIte, Int.reduceBEq, Int.reduceBNe, Int.reduceAdd, Int.reduceSub, Int.reduceMul]; try refine okTr_and rfl ?_)
    exact FinK.finA r31 [0]
  · have q1 : decide (F.2 < least) = false := decide_eq_false h1
    (simp only [go_sem, Nat.reduceAdd, Nat.reduceMul, Int.reduceToNat, Nat.reduceLeDiff, Int.reduceLE, Int.reduceLT, ↓reduceIte, Int.reduceBEq, Int.reduceBNe, Int.reduceAdd, Int.reduceSub, Int.reduceMul, q1]; try refine okTr_and rfl ?_)
    refine CallK.p (legacy_numbered base F.2 b0 b1 hr.1 (by omega)) ?_
    cases h2 : fitsB base F.2 with
    | false =>
      rw [h2] at yes
      rw [yes (.inr rfl)]
      (simp only [go_sem, Nat.reduceAdd, Nat.reduceMul, Int.reduceToNat, Nat.reduceLeDiff, Int.reduceLE, Int.reduceLT, ↓reduceIte, Int.reduceBEq, Int.reduceBNe, Int.reduceAdd, Int.reduceSub, Int.reduceMul]; try refine okTr_and rfl ?_)
      refine CallK.u1 (Reader_Fail F.1 3 s.at_ 0) rfl ?_; (simp only [go_sem, Nat.reduceAdd, Nat.reduceMul, Int.reduceToNat, Nat.reduceLeDiff, Int.reduceLE, Int.reduceLT, ↓reduceIte, Int.reduceBEq, Int.reduceBNe, Int.reduceAdd, Int.reduceSub, Int.reduceMul]; try refine okTr_and rfl ?_)
      exact FinK.finA r31 [0]
    | true =>
      rw [h2] at no
      rw [no (by rintro (h | h); exact h1 h; cases h)]
      (simp only [go_sem, Nat.reduceAdd, Nat.reduceMul, Int.reduceToNat, Nat.reduceLeDiff, Int.reduceLE, Int.reduceLT, ↓reduceIte, Int.reduceBEq, Int.reduceBNe, Int.reduceAdd, Int.reduceSub, Int.reduceMul]; try refine okTr_and rfl ?_)
      exact FinK.finA r31 [0]
theorem legacy_counted (s : RS) (base least most : Int) (i : Nat) (hs : ROk s) (b0 : 0 ≤ base) (b1 : base < 18446744073709551616) (m1 : most ≤ 1000000) : Ct Tryz.prog 31 [.ref i 0, uA base, iA least, iA most] [(i, rdr s)] (fun _ => iA (s.cnt base least most).2) [(i, rdr ((s.cnt base least most).1))] (fun _ => []) := Ct.u1 (legacy_counted0 s base least most hs b0 b1 m1) i cl (fun ρ => rdr_ren ρ _) (fun ρ => rdr_ren ρ _) (rdr_dead _) cl
theorem oback_fail {s : RS} (hs : ROk s) (pos : Int) (p0 : 0 ≤ pos) : (pos < s.vint.1.vint.2 → s.oback pos = s.vint.1.vint.1.fail 3 s.vint.1.at_) ∧ (¬ pos < s.vint.1.vint.2 → s.oback pos = s.vint.1.vint.1) := by
  unfold RS.oback
  refine ⟨fun h => ?_, fun h => by rw [if_neg (fun hh => h hh.2)]⟩
  by_cases hc : s.vint.1.vint.1.code = 0
  · rw [if_pos ⟨hc, h⟩]
  · have := vint_zero hc
    omega
theorem oldV_ok {s : RS} (hs : ROk s) {pos : Int} (p0 : 0 ≤ pos) {d : List Int} : (oldV s pos d).data = d := by unfold oldV; split <;> rfl
set_option maxHeartbeats 1000000 in
theorem legacy_old0 (s : RS) (pos m : Int) (hs : ROk s) (p0 : 0 ≤ pos) (p1 : pos < 18446744073709551616) (m1 : m < 9223372036854775808) : Does Tryz.prog 34 [.ref 0 0, uA pos, iA m] [rdr s] (oA (oldV s pos ((s.oback pos).blob m).2)) [rdr (((s.oback pos).blob m).1)] := by
  obtain ⟨v1, v2⟩ := hs.vint
  obtain ⟨w1, w2⟩ := v1.vint
  have r1 := vint_range (s := s) hs.bys
  have r2 := vint_range (s := s.vint.1) v1.bys
  obtain ⟨ok1, ok2⟩ := oback_keep hs pos
  obtain ⟨of1, of2⟩ := oback_fail hs pos p0
  have hV : oldV s pos ((s.oback pos).blob m).2 = if 0 < s.vint.1.vint.2 ∧ (s.oback pos).code = 0 then ⟨s.vint.2, pos - s.vint.1.vint.2, true, ((s.oback pos).blob m).2⟩ else ⟨s.vint.2, 0, false, ((s.oback pos).blob m).2⟩ := rfl
  have hpos : (s.oback pos).code = 0 → s.vint.1.vint.2 ≤ pos := fun h => (oback_is h).2.1
  obtain ⟨B, hB⟩ : ∃ B, s.oback pos = B := ⟨_, rfl⟩
  rw [hB] at ok1 hV hpos of1 of2
  rw [hB, hV]
  obtain ⟨D, hD⟩ : ∃ D, B.blob m = D := ⟨_, rfl⟩
  rw [hD]
  have key : ∀ (tail : Prop), tail → tail := fun _ h => h
  refine Does.runA Tryz.func34 b34 n34 Tryz.ntmps34 ?_; simp only [c34, go_sem, Nat.reduceAdd, Nat.reduceMul, Int.reduceToNat, Nat.reduceLeDiff, Int.reduceLE, Int.reduceLT, ↓reduceIte, Int.reduceBEq, Int.reduceBNe, Int.reduceAdd, Int.reduceSub, Int.reduceMul]; try refine okTr_and rfl ?_
  refine CallK.u1 (varint_Read s 0 hs.ok hs.bys) rfl ?_; (simp only [go_sem, Nat.reduceAdd, Nat.reduceMul, Int.reduceToNat, Nat.reduceLeDiff, Int.reduceLE, Int.reduceLT, ↓reduceIte, Int.reduceBEq, Int.reduceBNe, Int.reduceAdd, Int.reduceSub, Int.reduceMul]; try refine okTr_and rfl ?_)
  refine CallK.r1 (Reader_At s.vint.1 0) rfl ?_; (simp only [go_sem, Nat.reduceAdd, Nat.reduceMul, Int.reduceToNat, Nat.reduceLeDiff, Int.reduceLE, Int.reduceLT, ↓reduceIte, Int.reduceBEq, Int.reduceBNe, Int.reduceAdd, Int.reduceSub, Int.reduceMul]; try refine okTr_and rfl ?_)
  refine CallK.u1 (varint_Read s.vint.1 0 v1.ok v1.bys) rfl ?_; (simp only [go_sem, Nat.reduceAdd, Nat.reduceMul, Int.reduceToNat, Nat.reduceLeDiff, Int.reduceLE, Int.reduceLT, ↓reduceIte, Int.reduceBEq, Int.reduceBNe, Int.reduceAdd, Int.reduceSub, Int.reduceMul]; try refine okTr_and rfl ?_)
  by_cases hp : pos < s.vint.1.vint.2
  · have q1 : decide (pos < s.vint.1.vint.2) = true := decide_eq_true hp
    have q2 : decide (0 < s.vint.1.vint.2) = true := decide_eq_true (by omega)
    have hc : ¬ B.code = 0 := fun h => by have := hpos h; omega
    have hg : B.good = false := by unfold RS.good; simpa using hc
    rw [if_neg (fun hh => hc hh.2)]
    have e := of1 hp
    (simp only [go_sem, Nat.reduceAdd, Nat.reduceMul, Int.reduceToNat, Nat.reduceLeDiff, Int.reduceLE, Int.reduceLT, ↓reduceIte, Int.reduceBEq, Int.reduceBNe, Int.reduceAdd, Int.reduceSub, Int.reduceMul, q1]; try refine okTr_and rfl ?_)
    refine CallK.u1 (Reader_Fail s.vint.1.vint.1 3 s.vint.1.at_ 0) rfl ?_; (simp only [go_sem, Nat.reduceAdd, Nat.reduceMul, Int.reduceToNat, Nat.reduceLeDiff, Int.reduceLE, Int.reduceLT, ↓reduceIte, Int.reduceBEq, Int.reduceBNe, Int.reduceAdd, Int.reduceSub, Int.reduceMul, q2, ← e]; try refine okTr_and rfl ?_)
    refine CallK.r1 (Reader_Good B 0) rfl ?_; (simp only [go_sem, Nat.reduceAdd, Nat.reduceMul, Int.reduceToNat, Nat.reduceLeDiff, Int.reduceLE, Int.reduceLT, ↓reduceIte, Int.reduceBEq, Int.reduceBNe, Int.reduceAdd, Int.reduceSub, Int.reduceMul, hg]; try refine okTr_and rfl ?_)
    refine CallK.u1 (blob_Read B m 0 m1 ok1) rfl ?_; (simp only [go_sem, Nat.reduceAdd, Nat.reduceMul, Int.reduceToNat, Nat.reduceLeDiff, Int.reduceLE, Int.reduceLT, ↓reduceIte, Int.reduceBEq, Int.reduceBNe, Int.reduceAdd, Int.reduceSub, Int.reduceMul, hD]; try refine okTr_and rfl ?_)
    exact FinK.finA r34 [0]
  · have q1 : decide (pos < s.vint.1.vint.2) = false := decide_eq_false hp
    have e := of2 hp
    by_cases h0 : 0 < s.vint.1.vint.2
    · have q2 : decide (0 < s.vint.1.vint.2) = true := decide_eq_true h0
      (simp only [go_sem, Nat.reduceAdd, Nat.reduceMul, Int.reduceToNat, Nat.reduceLeDiff, Int.reduceLE, Int.reduceLT, ↓reduceIte, Int.reduceBEq, Int.reduceBNe, Int.reduceAdd, Int.reduceSub, Int.reduceMul, q1, q2, ← e]; try refine okTr_and rfl ?_)
      refine CallK.r1 (Reader_Good B 0) rfl ?_; (simp only [go_sem, Nat.reduceAdd, Nat.reduceMul, Int.reduceToNat, Nat.reduceLeDiff, Int.reduceLE, Int.reduceLT, ↓reduceIte, Int.reduceBEq, Int.reduceBNe, Int.reduceAdd, Int.reduceSub, Int.reduceMul]; try refine okTr_and rfl ?_)
      by_cases hc : B.code = 0
      · have hg : B.good = true := by unfold RS.good; simpa using hc
        have w : IntKind.u64.wrap (pos - s.vint.1.vint.2) = pos - s.vint.1.vint.2 := IntWalk.u64_in _ (by omega)
        rw [if_pos ⟨h0, hc⟩]
        (simp only [go_sem, Nat.reduceAdd, Nat.reduceMul, Int.reduceToNat, Nat.reduceLeDiff, Int.reduceLE, Int.reduceLT, ↓reduceIte, Int.reduceBEq, Int.reduceBNe, Int.reduceAdd, Int.reduceSub, Int.reduceMul, hg, w]; try refine okTr_and rfl ?_)
        refine CallK.u1 (blob_Read B m 0 m1 ok1) rfl ?_; (simp only [go_sem, Nat.reduceAdd, Nat.reduceMul, Int.reduceToNat, Nat.reduceLeDiff, Int.reduceLE, Int.reduceLT, ↓reduceIte, Int.reduceBEq, Int.reduceBNe, Int.reduceAdd, Int.reduceSub, Int.reduceMul, hD]; try refine okTr_and rfl ?_)
        exact FinK.finA r34 [0]
      · have hg : B.good = false := by unfold RS.good; simpa using hc
        rw [if_neg (fun hh => hc hh.2)]
        (simp only [go_sem, Nat.reduceAdd, Nat.reduceMul, Int.reduceToNat, Nat.reduceLeDiff, Int.reduceLE, Int.reduceLT, ↓reduceIte, Int.reduceBEq, Int.reduceBNe, Int.reduceAdd, Int.reduceSub, Int.reduceMul, hg]; try refine okTr_and rfl ?_)
        refine CallK.u1 (blob_Read B m 0 m1 ok1) rfl ?_; (simp only [go_sem, Nat.reduceAdd, Nat.reduceMul, Int.reduceToNat, Nat.reduceLeDiff, Int.reduceLE, Int.reduceLT, ↓reduceIte, Int.reduceBEq, Int.reduceBNe, Int.reduceAdd, Int.reduceSub, Int.reduceMul, hD]; try refine okTr_and rfl ?_)
        exact FinK.finA r34 [0]
    · have q2 : decide (0 < s.vint.1.vint.2) = false := decide_eq_false h0
      rw [if_neg (fun hh => h0 hh.1)]
      (simp only [go_sem, Nat.reduceAdd, Nat.reduceMul, Int.reduceToNat, Nat.reduceLeDiff, Int.reduceLE, Int.reduceLT, ↓reduceIte, Int.reduceBEq, Int.reduceBNe, Int.reduceAdd, Int.reduceSub, Int.reduceMul, q1, q2, ← e]; try refine okTr_and rfl ?_)
      refine CallK.u1 (blob_Read B m 0 m1 ok1) rfl ?_; (simp only [go_sem, Nat.reduceAdd, Nat.reduceMul, Int.reduceToNat, Nat.reduceLeDiff, Int.reduceLE, Int.reduceLT, ↓reduceIte, Int.reduceBEq, Int.reduceBNe, Int.reduceAdd, Int.reduceSub, Int.reduceMul, hD]; try refine okTr_and rfl ?_)
      exact FinK.finA r34 [0]
theorem legacy_old (s : RS) (pos m : Int) (i : Nat) (hs : ROk s) (p0 : 0 ≤ pos) (p1 : pos < 18446744073709551616) (m1 : m < 9223372036854775808) : Ct Tryz.prog 34 [.ref i 0, uA pos, iA m] [(i, rdr s)] (fun _ => oA (oldV s pos ((s.oback pos).blob m).2)) [(i, rdr (((s.oback pos).blob m).1))] (fun _ => []) := Ct.u1 (legacy_old0 s pos m hs p0 p1 m1) i cl (fun ρ => rdr_ren ρ _) (fun ρ => rdr_ren ρ _) (rdr_dead _) cl
end Go.Proofs.YtnfagphepkeedaaGreat
end
section
namespace Go.Proofs.YtnfagphepkeedaaGreat
open Go.RowKit

abbrev hdO (h : Hd) : AObj := .cells [iA h.ver, uA h.ep, uA h.base]
abbrev ptO (r : Nat) : AObj := .cells [.ref r 0]
abbrev inO (n : Int) : AObj := .cells [iA n]
def got1 (s : RS) (u : Sg1) : Sg1 × (Int × Int) := if s.code = 0 then (u, (0, 0)) else (sg10, (s.code, s.fat))
theorem legacy_got10 (s : RS) (u : Sg1) : Does Tryz.prog 40 [.ref 0 0, sg1A u] [rdr s] (.tup [sg1A (got1 s u).1, fltA (got1 s u).2]) [rdr (s)] := by
  refine Does.runA Tryz.func40 b40 n40 Tryz.ntmps40 ?_; simp only [c40, go_sem, Nat.reduceAdd, Nat.reduceMul, Int.reduceToNat, Nat.reduceLeDiff, Int.reduceLE, Int.reduceLT, ↓reduceIte, Int.reduceBEq, Int.reduceBNe, Int.reduceAdd, Int.reduceSub, Int.reduceMul]; try refine okTr_and rfl ?_
  refine CallK.r1 (Reader_Fault s 0) rfl ?_; (simp only [go_sem, Nat.reduceAdd, Nat.reduceMul, Int.reduceToNat, Nat.reduceLeDiff, Int.reduceLE, Int.reduceLT, ↓reduceIte, Int.reduceBEq, Int.reduceBNe, Int.reduceAdd, Int.reduceSub, Int.reduceMul]; try refine okTr_and rfl ?_)
  refine CallK.p (fault_Good s.code s.fat) ?_
  by_cases hc : s.code = 0
  · have q : (s.code == 0) = true := by simpa using hc
    have e : got1 s u = (u, (0, 0)) := by unfold got1; rw [if_pos hc]
    rw [e]
    (simp only [go_sem, Nat.reduceAdd, Nat.reduceMul, Int.reduceToNat, Nat.reduceLeDiff, Int.reduceLE, Int.reduceLT, ↓reduceIte, Int.reduceBEq, Int.reduceBNe, Int.reduceAdd, Int.reduceSub, Int.reduceMul, q]; try refine okTr_and rfl ?_)
    exact FinK.finA r40 [0]
  · have q : (s.code == 0) = false := by simpa using hc
    have e : got1 s u = (sg10, (s.code, s.fat)) := by unfold got1; rw [if_neg hc]
    rw [e]
    (simp only [go_sem, Nat.reduceAdd, Nat.reduceMul, Int.reduceToNat, Nat.reduceLeDiff, Int.reduceLE, Int.reduceLT, ↓reduceIte, Int.reduceBEq, Int.reduceBNe, Int.reduceAdd, Int.reduceSub, Int.reduceMul, q]; try refine okTr_and rfl ?_)
    (refine FinK.wao (ys := [uA 0, uA 0, slO []]) 2 rfl (by repeat (first | exact Wa.refl _ | exact WaL.nil | exact Wa.nil | exact Wa.none | refine WaL.cons ?_ ?_ | refine Wa.agg ?_ | refine Wa.slN ?_ | refine Wa.slS ?_ | exact WaL.refl _)) ?_; simp only [List.set_cons_zero, List.set_cons_succ])
    ((refine FinK.finB r40 [0] ?_ ?_); (· first | with_reducible rfl | (simp [sg10, o1s_nil]; done) | rfl); (· simp [resAL, resA1, loadA, oneOr, sg10, o1s_nil]))
theorem legacy_got1 (s : RS) (u : Sg1) (i : Nat) : Ct Tryz.prog 40 [.ref i 0, sg1A u] [(i, rdr s)] (fun _ => .tup [sg1A (got1 s u).1, fltA (got1 s u).2]) [] (fun _ => []) :=
  Ct.r1 (legacy_got10 s u) i cl (fun ρ => rdr_ren ρ s) (rdr_dead s) cl
theorem blob_len2 {s : RS} (hs : ROk s) {m : Int} (m0 : 0 ≤ m) : ((s.blob m).2.length : Int) ≤ m := by
  by_cases hc : (s.blob m).1.code = 0
  · exact (blob_is hs hc).2.1
  · rw [blob_bad hc]; simpa using m0
theorem legacy_Decode110 (t : RS) (h : Hd) (k : Nat) (left pos : Int) (ht : ROk t) (hp : IntKind.u64.wrap (h.base + k) = pos) (hk : k ≤ 1000000) (p0 : 0 ≤ pos) (p1 : pos < 18446744073709551616) (l0 : 0 ≤ left) (l1 : left ≤ 1048576) :
    Does Tryz.prog 33 [iA k, .ref 1 0, .ref 2 0, .ref 3 0] [rdr t, ptO 0, hdO h, inO left] (oA (oldV t pos ((t.oback pos).blob left).2)) [rdr ((t.oback pos).blob left).1, ptO 0, hdO h, inO (left - ((t.oback pos).blob left).2.length)] := by
  have w0 : IntKind.u64.wrap (k : Int) = k := IntWalk.u64_in _ (by omega)
  have hl := blob_len2 (oback_keep ht pos).1 (m := left) l0
  have hd := oldV_ok ht p0 (d := ((t.oback pos).blob left).2)
  obtain ⟨D, hD⟩ : ∃ D, (t.oback pos).blob left = D := ⟨_, rfl⟩
  have hol := legacy_old t pos left 0 ht p0 p1 (by omega)
  rw [hD] at hl hd hol ⊢
  obtain ⟨V, hV⟩ : ∃ V, oldV t pos D.2 = V := ⟨_, rfl⟩
  rw [hV] at hd hol ⊢
  have w1 : IntKind.i64.wrap (left - (V.data.length : Int)) = left - (D.2.length : Int) := by rw [hd, IntWalk.i64_in _ (by omega)]
  refine Does.runA Tryz.func33 b33 n33 Tryz.ntmps33 ?_; simp only [c33, go_sem, Nat.reduceAdd, Nat.reduceMul, Int.reduceToNat, Nat.reduceLeDiff, Int.reduceLE, Int.reduceLT, ↓reduceIte, Int.reduceBEq, Int.reduceBNe, Int.reduceAdd, Int.reduceSub, Int.reduceMul, w0, hp]; try refine okTr_and rfl ?_
  refine CallK.u1 (hol) rfl ?_; (simp only [go_sem, Nat.reduceAdd, Nat.reduceMul, Int.reduceToNat, Nat.reduceLeDiff, Int.reduceLE, Int.reduceLT, ↓reduceIte, Int.reduceBEq, Int.reduceBNe, Int.reduceAdd, Int.reduceSub, Int.reduceMul, ints_length, w1]; try refine okTr_and rfl ?_)
  exact FinK.finA r33 [0, 1, 2, 3]
theorem legacy_Decode11 (t : RS) (h : Hd) (k : Nat) (left pos : Int) (r b c d : Nat) (hn : [r, b, c, d].Nodup) (ht : ROk t) (hp : IntKind.u64.wrap (h.base + k) = pos) (hk : k ≤ 1000000) (p0 : 0 ≤ pos) (p1 : pos < 18446744073709551616) (l0 : 0 ≤ left) (l1 : left ≤ 1048576) :
    Ct Tryz.prog 33 [iA k, .ref b 0, .ref c 0, .ref d 0] [(r, rdr t), (b, ptO r), (c, hdO h), (d, inO left)] (fun _ => oA (oldV t pos ((t.oback pos).blob left).2)) [(r, rdr ((t.oback pos).blob left).1), (b, ptO r), (c, hdO h), (d, inO (left - ((t.oback pos).blob left).2.length))] (fun _ => []) :=
  Ct.u4 (legacy_Decode110 t h k left pos ht hp hk p0 p1 l0 l1) r b c d hn cl cl cl cl cl cl cl cl cl (by simp [rdr]) cl
set_option maxHeartbeats 1000000 in
set_option maxRecDepth 100000 in
theorem legacy_many10 (u : RS) (h : Hd) (N : Nat) (hu : ROk u) (b0 : 0 ≤ h.base) (b1 : h.base < 18446744073709551616) (hN : N ≤ 1000000) (hf : u.code = 0 → h.base + N ≤ 4611686018427387904) (hn : u.l.length * 48 ≤ 100000000000000) :
    Does Tryz.prog 32 [.ref 0 0, iA N, .fn 33 [] [.ref 1 0, .ref 2 0, .ref 3 0]] [rdr u, ptO 0, hdO h, inO 1048576] (slO ((oldF h.base).many N u []).2) [rdr ((oldF h.base).many N u []).1, ptO 0, hdO h, .cells [.any]] := by
  have hF := oldF_ok b0
  refine Does.runA Tryz.func32 b32 n32 Tryz.ntmps32 ?_; simp only [c32, go_sem, Nat.reduceAdd, Nat.reduceMul, Int.reduceToNat, Nat.reduceLeDiff, Int.reduceLE, Int.reduceLT, ↓reduceIte, Int.reduceBEq, Int.reduceBNe, Int.reduceAdd, Int.reduceSub, Int.reduceMul]; try refine okTr_and rfl ?_
  refine loop_of (α := RS × List O1) (fun a => [.ref 0 0, .any, .fn 33 [] [.ref 1 0, .ref 2 0, .ref 3 0], .any, .any, .any, .any, .sl (.row 4) 4 (o1s a.2), .any, .any, iA N, iA a.2.length, .any, .any, .any, .any, .any, .any, .any, .any, .any, .any, .any, .any, .any, .any]) (fun a => [rdr a.1, ptO 0, hdO h, inO (1048576 - sumO a.2), .row 4 a.2.length]) (fun a => (oldF h.base).On u N a ∧ (a.1.code = 0 → u.code = 0)) (fun a => N - a.2.length) (u, []) ⟨Fmt.On.start hu N, fun h => h⟩ ((Wk.row 7 4 rfl (.inr rfl) (by decide)).trans (Wk.to (by simp [sumO]) (by simp [leT, o1s]))) ?_
  rintro ⟨t, acc⟩ ⟨ho, hor⟩
  have hla := ho.len
  have h1 := ho.ok
  have h2 := ho.l
  have h6 := ho.res
  have hwf := ho.wf
  simp only at h1 h2 h6 hwf hor
  have hsum := old_sum hwf
  have hs0 := sumO_ge acc
  (simp only [go_sem, Nat.reduceAdd, Nat.reduceMul, Int.reduceToNat, Nat.reduceLeDiff, Int.reduceLE, Int.reduceLT, ↓reduceIte, Int.reduceBEq, Int.reduceBNe, Int.reduceAdd, Int.reduceSub, Int.reduceMul]; try refine okTr_and rfl ?_)
  by_cases hlt : acc.length < N
  · have q0 : decide ((acc.length : Int) < (N : Int)) = true := decide_eq_true (by omega)
    have ei := i64_succ acc.length (by omega)
    obtain ⟨pos, hpos⟩ : ∃ pos, IntKind.u64.wrap (h.base + (acc.length : Int)) = pos := ⟨_, rfl⟩
    have hpr : 0 ≤ pos ∧ pos < 18446744073709551616 := by
      rw [← hpos, IntKind.wrap_u64]; omega
    have hcl := legacy_Decode11 t h acc.length (1048576 - sumO acc) pos 0 1 2 3 (by decide) h1 hpos (by omega) hpr.1 hpr.2 (by omega) (by omega)
    have hff : ((oldF h.base).f t acc).1 = ((t.oback pos).blob (1048576 - sumO acc)).1 ∧ (((t.oback pos).blob (1048576 - sumO acc)).1.code = 0 → ((oldF h.base).f t acc).2 = oldV t pos ((t.oback pos).blob (1048576 - sumO acc)).2) := by
      by_cases hc0 : t.code = 0
      · have hg : h.base + (acc.length : Int) < 4611686018427387904 := by
          have := hf (hor hc0)
          omega
        have hpe : pos = h.base + (acc.length : Int) := by rw [← hpos]; exact IntWalk.u64_in _ (by omega)
        rw [oldF_f hg, ← hpe]
        exact ⟨rfl, fun _ => rfl⟩
      · rw [oldF_code h.base t acc hc0]
        have ho2 : t.oback pos = t := by
          unfold RS.oback
          rw [vint_bad hc0]; simp only
          rw [vint_bad hc0]; simp only
          rw [if_neg (fun h => hc0 h.1)]
        rw [ho2, blob_code hc0]
        exact ⟨rfl, fun hh => absurd hh hc0⟩
    have hdt := oldV_ok h1 hpr.1 (d := ((t.oback pos).blob (1048576 - sumO acc)).2)
    obtain ⟨D, hD⟩ : ∃ D, (t.oback pos).blob (1048576 - sumO acc) = D := ⟨_, rfl⟩
    rw [hD] at hff hcl hdt
    obtain ⟨V, hV⟩ : ∃ V, oldV t pos D.2 = V := ⟨_, rfl⟩
    rw [hV] at hff hcl hdt
    obtain ⟨hf1, hf2⟩ := hff
    (simp only [go_sem, Nat.reduceAdd, Nat.reduceMul, Int.reduceToNat, Nat.reduceLeDiff, Int.reduceLE, Int.reduceLT, ↓reduceIte, Int.reduceBEq, Int.reduceBNe, Int.reduceAdd, Int.reduceSub, Int.reduceMul, q0]; try refine okTr_and rfl ?_)
    refine CallK.u4 hcl rfl rfl rfl rfl ?_
    (simp only [go_sem, Nat.reduceAdd, Nat.reduceMul, Int.reduceToNat, Nat.reduceLeDiff, Int.reduceLE, Int.reduceLT, ↓reduceIte, Int.reduceBEq, Int.reduceBNe, Int.reduceAdd, Int.reduceSub, Int.reduceMul]; try refine okTr_and rfl ?_)
    refine CallK.r1 (Reader_Good D.1 0) rfl ?_; (simp only [go_sem, Nat.reduceAdd, Nat.reduceMul, Int.reduceToNat, Nat.reduceLeDiff, Int.reduceLE, Int.reduceLT, ↓reduceIte, Int.reduceBEq, Int.reduceBNe, Int.reduceAdd, Int.reduceSub, Int.reduceMul]; try refine okTr_and rfl ?_)
    by_cases hc : D.1.code = 0
    · have hg : D.1.good = true := by unfold RS.good; simpa using hc
      have hnx := ho.next hF hlt (by rw [hf1]; exact hc)
      rw [hf1, hf2 hc] at hnx
      have hrd := (hF.read t acc h1 hwf (by rw [hf1]; exact hc)).1
      have hss := sumO_snoc acc V
      have e1 : 1048576 - sumO acc - (D.2.length : Int) = 1048576 - sumO (acc ++ [V]) := by rw [hss, hdt]; omega
      (simp only [go_sem, Nat.reduceAdd, Nat.reduceMul, Int.reduceToNat, Nat.reduceLeDiff, Int.reduceLE, Int.reduceLT, ↓reduceIte, Int.reduceBEq, Int.reduceBNe, Int.reduceAdd, Int.reduceSub, Int.reduceMul, hg, o1s_snoc, o1s_length, ei, e1]; try refine okTr_and rfl ?_)
      (repeat ((with_reducible refine And.intro ?_ ?_); (· exact sd)))
      exact ⟨(D.1, acc ++ [V]), ⟨hnx, fun _ => hor hrd⟩, by simp; omega, Wk.sel [0, 1, 2, 3, 4] (by simp) rfl (by simp) rfl (by simp [ixs_z, rdr_ren]) (by simp [selT, ixs_z, ixs])⟩
    · have hg : D.1.good = false := by unfold RS.good; simpa using hc
      have hb := many_bad (F := oldF h.base) (s := t) hlt (by rw [hf1]; exact hc)
      rw [h6, hf1] at hb
      rw [hb]
      (simp only [go_sem, Nat.reduceAdd, Nat.reduceMul, Int.reduceToNat, Nat.reduceLeDiff, Int.reduceLE, Int.reduceLT, ↓reduceIte, Int.reduceBEq, Int.reduceBNe, Int.reduceAdd, Int.reduceSub, Int.reduceMul, hg]; try refine okTr_and rfl ?_)
      (refine FinK.nilk 6 4 rfl ?_; simp only [List.set_cons_zero, List.set_cons_succ])
      refine FinK.wao (ys := [.any]) 3 rfl (WaL.cons (Wa.anyL _) WaL.nil) ?_
      simp only [List.set_cons_zero, List.set_cons_succ]
      ((refine FinK.finB r32 [0, 1, 2, 3] ?_ ?_); (· first | with_reducible rfl | (simp [o1s_nil]; done) | rfl); (· simp [resAL, resA1, loadA, oneOr, o1s_nil]))
  · have q0 : decide ((acc.length : Int) < (N : Int)) = false := decide_eq_false (by omega)
    have he := many_end (F := oldF h.base) (s := t) (acc := acc) (N := N) (by omega)
    rw [h6] at he
    rw [he]
    (simp only [go_sem, Nat.reduceAdd, Nat.reduceMul, Int.reduceToNat, Nat.reduceLeDiff, Int.reduceLE, Int.reduceLT, ↓reduceIte, Int.reduceBEq, Int.reduceBNe, Int.reduceAdd, Int.reduceSub, Int.reduceMul, q0]; try refine okTr_and rfl ?_)
    (refine FinK.untag 6 rfl ?_; simp only [untag1_sl, List.set_cons_zero, List.set_cons_succ])
    refine FinK.wao (ys := [.any]) 3 rfl (WaL.cons (Wa.anyL _) WaL.nil) ?_
    simp only [List.set_cons_zero, List.set_cons_succ]
    exact FinK.finA r32 [0, 1, 2, 3]
theorem legacy_many1 (u : RS) (h : Hd) (N : Nat) (hu : ROk u) (b0 : 0 ≤ h.base) (b1 : h.base < 18446744073709551616) (hN : N ≤ 1000000) (hf : u.code = 0 → h.base + N ≤ 4611686018427387904) (hn : u.l.length * 48 ≤ 100000000000000) (r b c d : Nat) (hnd : [r, b, c, d].Nodup) :
    Ct Tryz.prog 32 [.ref r 0, iA N, .fn 33 [] [.ref b 0, .ref c 0, .ref d 0]] [(r, rdr u), (b, ptO r), (c, hdO h), (d, inO 1048576)] (fun _ => slO ((oldF h.base).many N u []).2) [(r, rdr ((oldF h.base).many N u []).1), (b, ptO r), (c, hdO h), (d, .cells [.any])] (fun _ => []) :=
  Ct.u4 (legacy_many10 u h N hu b0 b1 hN hf hn) r b c d hnd cl cl cl cl cl cl cl cl cl (by simp [rdr]) cl
theorem crcI_nonneg {l : List Int} (h : Bys l) : 0 ≤ crcI l ∧ crcI l < 4294967296 := by
  have := crcI_range h
  exact ⟨this.1, by simpa using this.2⟩
theorem header_base {s : RS} (hs : ROk s) : 0 ≤ s.header.2.base ∧ s.header.2.base < 18446744073709551616 := by
  by_cases hc : s.header.1.code = 0
  · obtain ⟨i1, i2, i3, i4, i5⟩ := header_is hs hc
    have := (rightH_iff.1 i2).2.2.1
    exact ⟨i3, by omega⟩
  · rw [header_bad hc]; exact ⟨by decide, by decide⟩
theorem from_sub {s t : RS} (h0 : 0 ≤ s.at_) (h1 : s.at_ ≤ t.at_) (hl : t.l = s.l) : (t.l.drop s.at_.toNat).take (t.at_ - s.at_).toNat = s.from t := by
  unfold RS.from
  rw [hl, show (t.at_ - s.at_).toNat = t.at_.toNat - s.at_.toNat by omega]
theorem many_at {β : Type} {F : Fmt β} (hF : ∀ s acc, ROk s → s.at_ ≤ (F.f s acc).1.at_ ∧ ROk (F.f s acc).1) : ∀ (N : Nat) (s : RS) (acc : List β), ROk s → s.at_ ≤ (F.many N s acc).1.at_ := by
  intro N
  induction N with
  | zero => intro s acc _; exact Int.le_refl _
  | succ N ih =>
    intro s acc h
    have h1 := hF s acc h
    simp only [Fmt.many]
    split
    · have := ih (F.f s acc).1 (acc ++ [(F.f s acc).2]) h1.2
      omega
    · exact h1.1
theorem skip_le {s : RS} (n : Int) : s.at_ ≤ (s.skip n).1.at_ := by
  unfold RS.skip
  repeat' split
  all_goals first | omega | (simp only [fail_at]; omega)
theorem take_le {s : RS} (n : Int) : s.at_ ≤ (s.take n).1.at_ := by unfold RS.take; split <;> exact skip_le n
theorem int_le {s : RS} (h : ROk s) (m : Int) : s.at_ ≤ (s.int m).1.at_ := by
  have hv := vint_le h
  unfold RS.int RS.most
  split
  · split
    · simp only [fail_at]; exact hv
    · exact hv
  · simp only [fail_at]; exact hv
theorem blob_le {s : RS} (h : ROk s) (m : Int) : s.at_ ≤ (s.blob m).1.at_ := by
  have h1 := int_le h m
  have h2 := take_le (s := (s.int m).1) (s.int m).2
  unfold RS.blob; omega
theorem oback_le {s : RS} (h : ROk s) (pos : Int) : s.at_ ≤ (s.oback pos).at_ := by
  have h1 := vint_le h
  have h2 := vint_le h.vint.1
  unfold RS.oback
  split
  · rw [fail_at]; omega
  · omega
theorem cnt_le {s : RS} (h : ROk s) (base least most : Int) : s.at_ ≤ (s.cnt base least most).1.at_ := by
  have := int_le h most
  unfold RS.cnt
  split
  · simp only [fail_at]; exact this
  · exact this
theorem olds_le {s : RS} (h : ROk s) {base : Int} (b0 : 0 ≤ base) : s.at_ ≤ (s.olds base).1.at_ := by
  have h1 := cnt_le h base 0 400
  have h2 := many_at (F := oldF base) (fun s acc hs => by
    simp only [oldF]
    split
    · have k := oback_keep hs (base + acc.length)
      have e1 := oback_le hs (base + acc.length)
      have e2 := blob_le k.1 (1048576 - sumO acc)
      exact ⟨by simp only; omega, (RS.ok.blob k.1 _).1⟩
    · exact ⟨by simp only [fail_at]; omega, hs.fail _ _⟩) (s.cnt base 0 400).2.toNat (s.cnt base 0 400).1 [] (cnt_keep h base 0 400).1
  unfold RS.olds; omega
set_option maxHeartbeats 1000000 in
set_option maxRecDepth 100000 in
theorem legacy_Decode10 (b : List Int) (hb : Bys b) (hn : b.length ≤ 1000000) : Does Tryz.prog 8 [slA .u8 b] [] (.tup [sg1A (dec1 b).1, fltA (dec1 b).2]) [] := by
  have hok : ROk (RS.new b) := ROk.new hb (by omega)
  have hbk := begin_keep hok 1
  have hhb := header_base hok
  have hck := cnt_keep hbk.1 (RS.new b).header.2.base 0 400
  have hcr := int_range (s := (RS.new b).begin 1) (m := 400) hbk.1.bys
  have hcs := cnt_snd ((RS.new b).begin 1) (RS.new b).header.2.base 0 400
  have hci := fun hc => (cnt_is hbk.1 (base := (RS.new b).header.2.base) (least := 0) (most := 400) hc)
  have hok2 := olds_keep hbk.1 hhb.1
  have hol := olds_le hbk.1 hhb.1
  have hsk := sum4_keep (s := (RS.new b).begin 1) hok2.1
  have hmk := many_code (F := oldF (RS.new b).header.2.base) (oldF_code _) (N := (((RS.new b).begin 1).cnt (RS.new b).header.2.base 0 400).2.toNat) (s := (((RS.new b).begin 1).cnt (RS.new b).header.2.base 0 400).1)
  have hbl : (RS.new b).l = b := rfl
  have hdef : dec1 b = got1 (RS.new b).dec1.1 (RS.new b).dec1.2 := rfl
  have hd1 : (RS.new b).dec1 = (((RS.new b).begin 1).sum4 (((RS.new b).begin 1).olds (RS.new b).header.2.base).1 |>.rest9, ⟨(RS.new b).header.2.ep, (RS.new b).header.2.base, (((RS.new b).begin 1).olds (RS.new b).header.2.base).2⟩) := rfl
  rw [hdef, hd1]
  have hom : ((RS.new b).begin 1).olds (RS.new b).header.2.base = (oldF (RS.new b).header.2.base).many (((RS.new b).begin 1).cnt (RS.new b).header.2.base 0 400).2.toNat (((RS.new b).begin 1).cnt (RS.new b).header.2.base 0 400).1 [] := rfl
  obtain ⟨H, hH⟩ : ∃ H, (RS.new b).header.2 = H := ⟨_, rfl⟩
  have hbg := legacy_begin (RS.new b) 1 2 hok (by decide)
  rw [hH] at hhb hck hcs hci hok2 hol hsk hmk hom hbg ⊢
  obtain ⟨B, hB⟩ : ∃ B, (RS.new b).begin 1 = B := ⟨_, rfl⟩
  rw [hB] at hbk hck hcr hcs hci hok2 hol hsk hmk hom hbg ⊢
  have hcn := fun i => legacy_counted B H.base 0 400 i hbk.1 hhb.1 hhb.2 (by decide)
  obtain ⟨C, hC⟩ : ∃ C, B.cnt H.base 0 400 = C := ⟨_, rfl⟩
  rw [hC] at hck hcs hci hmk hom hcn
  have hN : C.2 = (C.2.toNat : Int) := by omega
  have hmn := fun r b' c d hnd => legacy_many1 C.1 H C.2.toNat hck.1 hhb.1 hhb.2 (by omega) (fun hc => by have := (hci hc).2.2.2.2.2.1; omega) (by rw [hck.2, hbk.2, hbl]; omega) r b' c d hnd
  rw [← hom, ← hN] at hmn
  obtain ⟨O, hO⟩ : ∃ O, B.olds H.base = O := ⟨_, rfl⟩
  rw [hO] at hok2 hol hsk hmn ⊢
  have hfr := from_sub hbk.1.at0 hol hok2.2
  have hfb : Bys (B.from O.1) := fun x hx => by
    unfold RS.from at hx
    exact hbk.1.bys x (List.mem_of_mem_drop (List.mem_of_mem_take hx))
  have hfl : (B.from O.1).length ≤ 1000000 := by
    unfold RS.from
    have : B.l.length ≤ 1000000 := by rw [hbk.2, hbl]; exact hn
    simp; omega
  have hcrc := crcI_nonneg hfb
  have hs4 : B.sum4 O.1 = if (O.1.fixed 4).1.code = 0 ∧ ¬ (O.1.fixed 4).2 = crcI (B.from O.1) then (O.1.fixed 4).1.fail 6 O.1.at_ else (O.1.fixed 4).1 := rfl
  have hfx : ¬ (O.1.fixed 4).2 = crcI (B.from O.1) → B.sum4 O.1 = (O.1.fixed 4).1.fail 6 O.1.at_ := fun h => by
    rw [hs4]
    by_cases hc : (O.1.fixed 4).1.code = 0
    · rw [if_pos ⟨hc, h⟩]
    · rw [if_neg (fun hh => hc hh.1), fail_stays hc]
  have hfx2 : (O.1.fixed 4).2 = crcI (B.from O.1) → B.sum4 O.1 = (O.1.fixed 4).1 := fun h => by
    rw [hs4, if_neg (fun hh => hh.2 h)]
  have hmin : min (max (4 : Int) 0) 8 = 4 := by decide
  have hrf := blob_ReadFixed O.1 4 2 hok2.1
  rw [hmin] at hrf
  obtain ⟨X, hX⟩ : ∃ X, O.1.fixed 4 = X := ⟨_, rfl⟩
  rw [hX] at hfx hfx2 hrf
  obtain ⟨Y, hY⟩ : ∃ Y, B.sum4 O.1 = Y := ⟨_, rfl⟩
  rw [hY] at hsk hfx hfx2 ⊢
  have wc : IntKind.u64.wrap (crcI (B.from O.1)) = crcI (B.from O.1) := IntWalk.u64_in _ (by omega)
  obtain ⟨Z, hZ⟩ : ∃ Z, crcI (B.from O.1) = Z := ⟨_, rfl⟩
  have hsum := crc_Sum (B.from O.1) hfb (by omega)
  refine Does.runA Tryz.func8 b8 n8 Tryz.ntmps8 ?_; simp only [c8, go_sem, Nat.reduceAdd, Nat.reduceMul, Int.reduceToNat, Nat.reduceLeDiff, Int.reduceLE, Int.reduceLT, ↓reduceIte, Int.reduceBEq, Int.reduceBNe, Int.reduceAdd, Int.reduceSub, Int.reduceMul]; try refine okTr_and rfl ?_
  refine CallK.n (cursor_New b) ?_; (simp only [go_sem, Nat.reduceAdd, Nat.reduceMul, Int.reduceToNat, Nat.reduceLeDiff, Int.reduceLE, Int.reduceLT, ↓reduceIte, Int.reduceBEq, Int.reduceBNe, Int.reduceAdd, Int.reduceSub, Int.reduceMul]; try refine okTr_and rfl ?_)
  refine CallK.u1 (hbg) rfl ?_; (simp only [go_sem, Nat.reduceAdd, Nat.reduceMul, Int.reduceToNat, Nat.reduceLeDiff, Int.reduceLE, Int.reduceLT, ↓reduceIte, Int.reduceBEq, Int.reduceBNe, Int.reduceAdd, Int.reduceSub, Int.reduceMul]; try refine okTr_and rfl ?_)
  refine CallK.r1 (Reader_At B 2) rfl ?_; (simp only [go_sem, Nat.reduceAdd, Nat.reduceMul, Int.reduceToNat, Nat.reduceLeDiff, Int.reduceLE, Int.reduceLT, ↓reduceIte, Int.reduceBEq, Int.reduceBNe, Int.reduceAdd, Int.reduceSub, Int.reduceMul]; try refine okTr_and rfl ?_)
  refine CallK.u1 (hcn 2) rfl ?_; (simp only [go_sem, Nat.reduceAdd, Nat.reduceMul, Int.reduceToNat, Nat.reduceLeDiff, Int.reduceLE, Int.reduceLT, ↓reduceIte, Int.reduceBEq, Int.reduceBNe, Int.reduceAdd, Int.reduceSub, Int.reduceMul]; try refine okTr_and rfl ?_)
  refine CallK.u4 (hmn 2 3 4 5 (by decide)) rfl rfl rfl rfl ?_
  (simp only [go_sem, Nat.reduceAdd, Nat.reduceMul, Int.reduceToNat, Nat.reduceLeDiff, Int.reduceLE, Int.reduceLT, ↓reduceIte, Int.reduceBEq, Int.reduceBNe, Int.reduceAdd, Int.reduceSub, Int.reduceMul]; try refine okTr_and rfl ?_)
  refine CallK.r1 (Reader_At O.1 2) rfl ?_; (simp only [go_sem, Nat.reduceAdd, Nat.reduceMul, Int.reduceToNat, Nat.reduceLeDiff, Int.reduceLE, Int.reduceLT, ↓reduceIte, Int.reduceBEq, Int.reduceBNe, Int.reduceAdd, Int.reduceSub, Int.reduceMul]; try refine okTr_and rfl ?_)
  refine CallK.r1 (Reader_Since O.1 B.at_ 2 hok2.1.ok hbk.1.at0 hol) rfl ?_; (simp only [go_sem, Nat.reduceAdd, Nat.reduceMul, Int.reduceToNat, Nat.reduceLeDiff, Int.reduceLE, Int.reduceLT, ↓reduceIte, Int.reduceBEq, Int.reduceBNe, Int.reduceAdd, Int.reduceSub, Int.reduceMul, hfr]; try refine okTr_and rfl ?_)
  refine CallK.u1 (hrf) rfl ?_; (simp only [go_sem, Nat.reduceAdd, Nat.reduceMul, Int.reduceToNat, Nat.reduceLeDiff, Int.reduceLE, Int.reduceLT, ↓reduceIte, Int.reduceBEq, Int.reduceBNe, Int.reduceAdd, Int.reduceSub, Int.reduceMul]; try refine okTr_and rfl ?_)
  refine CallK.p (hsum) ?_; (simp only [go_sem, Nat.reduceAdd, Nat.reduceMul, Int.reduceToNat, Nat.reduceLeDiff, Int.reduceLE, Int.reduceLT, ↓reduceIte, Int.reduceBEq, Int.reduceBNe, Int.reduceAdd, Int.reduceSub, Int.reduceMul, wc]; try refine okTr_and rfl ?_)
  by_cases h : X.2 = crcI (B.from O.1)
  · have q : (X.2 != crcI (B.from O.1)) = false := by simpa using h
    have e := hfx2 h
    rw [← e]
    (simp only [go_sem, Nat.reduceAdd, Nat.reduceMul, Int.reduceToNat, Nat.reduceLeDiff, Int.reduceLE, Int.reduceLT, ↓reduceIte, Int.reduceBEq, Int.reduceBNe, Int.reduceAdd, Int.reduceSub, Int.reduceMul, q]; try refine okTr_and rfl ?_)
    refine CallK.u1 (Reader_End Y 2 hsk.1) rfl ?_; (simp only [go_sem, Nat.reduceAdd, Nat.reduceMul, Int.reduceToNat, Nat.reduceLeDiff, Int.reduceLE, Int.reduceLT, ↓reduceIte, Int.reduceBEq, Int.reduceBNe, Int.reduceAdd, Int.reduceSub, Int.reduceMul]; try refine okTr_and rfl ?_)
    refine CallK.r1 (legacy_got1 Y.rest9 ⟨H.ep, H.base, O.2⟩ 2) rfl ?_; (simp only [go_sem, Nat.reduceAdd, Nat.reduceMul, Int.reduceToNat, Nat.reduceLeDiff, Int.reduceLE, Int.reduceLT, ↓reduceIte, Int.reduceBEq, Int.reduceBNe, Int.reduceAdd, Int.reduceSub, Int.reduceMul]; try refine okTr_and rfl ?_)
    exact FinK.finA r8 []
  · have q : (X.2 != crcI (B.from O.1)) = true := by simpa using h
    have e := hfx h
    (simp only [go_sem, Nat.reduceAdd, Nat.reduceMul, Int.reduceToNat, Nat.reduceLeDiff, Int.reduceLE, Int.reduceLT, ↓reduceIte, Int.reduceBEq, Int.reduceBNe, Int.reduceAdd, Int.reduceSub, Int.reduceMul, q]; try refine okTr_and rfl ?_)
    refine CallK.u1 (Reader_Fail X.1 6 O.1.at_ 2) rfl ?_; (simp only [go_sem, Nat.reduceAdd, Nat.reduceMul, Int.reduceToNat, Nat.reduceLeDiff, Int.reduceLE, Int.reduceLT, ↓reduceIte, Int.reduceBEq, Int.reduceBNe, Int.reduceAdd, Int.reduceSub, Int.reduceMul, ← e]; try refine okTr_and rfl ?_)
    refine CallK.u1 (Reader_End Y 2 hsk.1) rfl ?_; (simp only [go_sem, Nat.reduceAdd, Nat.reduceMul, Int.reduceToNat, Nat.reduceLeDiff, Int.reduceLE, Int.reduceLT, ↓reduceIte, Int.reduceBEq, Int.reduceBNe, Int.reduceAdd, Int.reduceSub, Int.reduceMul]; try refine okTr_and rfl ?_)
    refine CallK.r1 (legacy_got1 Y.rest9 ⟨H.ep, H.base, O.2⟩ 2) rfl ?_; (simp only [go_sem, Nat.reduceAdd, Nat.reduceMul, Int.reduceToNat, Nat.reduceLeDiff, Int.reduceLE, Int.reduceLT, ↓reduceIte, Int.reduceBEq, Int.reduceBNe, Int.reduceAdd, Int.reduceSub, Int.reduceMul]; try refine okTr_and rfl ?_)
    exact FinK.finA r8 []
theorem legacy_Decode1 (b : List Int) (hb : Bys b) (hn : b.length ≤ 1000000) : Ct Tryz.prog 8 [slA .u8 b] [] (fun _ => .tup [sg1A (dec1 b).1, fltA (dec1 b).2]) [] (fun _ => []) := (legacy_Decode10 b hb hn).toCt cl cl
end Go.Proofs.YtnfagphepkeedaaGreat
end
section
namespace Go.Proofs.YtnfagphepkeedaaGreat
open Go.RowKit

end Go.Proofs.YtnfagphepkeedaaGreat
end
section
namespace Go.Proofs.YtnfagphepkeedaaGreat
open Go.RowKit

end Go.Proofs.YtnfagphepkeedaaGreat
end
section
namespace Go.Proofs.YtnfagphepkeedaaGreat
open Go.RowKit

end Go.Proofs.YtnfagphepkeedaaGreat
end
section
namespace Go.Proofs.YtnfagphepkeedaaGreat
open Go.RowKit

theorem WS.fine.epput {s : WS} (h : s.fine) (x : Int) (b : Bool) : (s.epput x b).fine := by
  unfold WS.epput; split
  · exact h.put _
  · exact h.fail 3
section
variable {P : Program} {S : List AObj} {K : KT} {f : FuncId} {args args₀ : List AV}
theorem CallK.rn2 {r : Nat → AV} {new : Nat → List AObj} {i j : Nat} {o p : AObj} (h : Ct P f (args.map Proofs.YtnfagphepkeedaaGreat.untag) [(i, o), (j, p)] r [] new) (hS : S[i]? = some o) (hS' : S[j]? = some p) (hK : K (r S.length) [i, j] [] (new S.length)) : CallK P f args S K := CallK.of h.untag (by simp [hS, hS']) (by simp) hK
end
theorem Writer_BytesO0 (s : WS) (hc : s.code = 0) (hb : s.l.length ≤ 140737488355328) : Does Tryz.prog 70 [.ref 0 0] [wob 1 s, wrow s] (.tup [ownA 2 s.l, iA 0]) [wob 1 s, wrow s, .row 1 s.l.length] := by
  have q : (s.code != 0) = false := by simpa using hc
  refine Does.runA Tryz.func70 b70 n70 Tryz.ntmps70 ?_; simp only [c70, go_sem, Nat.reduceAdd, Nat.reduceMul, Int.reduceToNat, Nat.reduceLeDiff, Int.reduceLE, Int.reduceLT, ↓reduceIte, Int.reduceBEq, Int.reduceBNe, Int.reduceAdd, Int.reduceSub, Int.reduceMul]; try refine okTr_and rfl ?_
  refine CallK.r2 (Writer_Code s 0 1 (by decide)) rfl rfl ?_; (simp only [go_sem, Nat.reduceAdd, Nat.reduceMul, Int.reduceToNat, Nat.reduceLeDiff, Int.reduceLE, Int.reduceLT, ↓reduceIte, Int.reduceBEq, Int.reduceBNe, Int.reduceAdd, Int.reduceSub, Int.reduceMul, q]; try refine okTr_and rfl ?_)
  (simp only [go_sem, Nat.reduceAdd, Nat.reduceMul, Int.reduceToNat, Nat.reduceLeDiff, Int.reduceLE, Int.reduceLT, ↓reduceIte, Int.reduceBEq, Int.reduceBNe, Int.reduceAdd, Int.reduceSub, Int.reduceMul, wob, wrow, ints_length]; try refine okTr_and rfl ?_)
  (repeat ((with_reducible refine And.intro ?_ ?_); (· exact sd)))
  ((refine FinK.finB r70 [0, 1, 2] ?_ ?_); (· first | with_reducible rfl | (simp [wob, wrow]; done) | rfl); (· simp [resAL, resA1, loadA, oneOr, wob, wrow]))
theorem Writer_BytesO (s : WS) (i j : Nat) (h : i ≠ j) (hc : s.code = 0) (hb : s.l.length ≤ 140737488355328) : Ct Tryz.prog 70 [.ref i 0] [(i, wob j s), (j, wrow s)] (fun n => .tup [ownA n s.l, iA 0]) [] (fun _ => [.row 1 s.l.length]) :=
  Ct.mk (Writer_BytesO0 s hc hb) [i, j] (by simpa using h) rfl (by simp) (by simp [wob_dead, wrow_dead]) (by intros; simp [ixs_z, ixs, List.range'_succ]) (by intros; simp [ixs_z, ixs, List.range'_succ, ren_ints]) (by intros; simp [wob_ren, wrow_ren, ixs, List.range'_succ]) (.inr ⟨rfl, rfl⟩) (by intros; simp [ixs_z])
end Go.Proofs.YtnfagphepkeedaaGreat
end
section
namespace Go.Proofs.YtnfagphepkeedaaGreat
open Go.RowKit

theorem header_BytesO0 (h : Hd) (hr : rightH h = true) (hb : 0 ≤ h.base) : Does Tryz.prog 27 [hdA h] [] (.tup [ownA 0 (headerB h), iA 0]) [.row 1 (headerB h).length] := by
  have f0 : (WS.new 27).fine := WS.fine.new (by omega)
  have hff := (f0.header h).len
  obtain ⟨e1, e2⟩ := new_header h (n := 27) (by omega)
  have e3 : ((WS.new 27).header h).code = 0 := by rw [e1]; unfold errH; rw [if_pos hr]
  have e4 : ((WS.new 27).header h).l = headerB h := by
    have : ((WS.new 27).header h).bytes = ((WS.new 27).header h).l := by unfold WS.bytes; rw [if_pos e3]
    rw [← this, e2]; unfold bytesH; rw [if_pos hr]
  refine Does.runA Tryz.func27 b27 n27 Tryz.ntmps27 ?_; simp only [c27, go_sem, Nat.reduceAdd, Nat.reduceMul, Int.reduceToNat, Nat.reduceLeDiff, Int.reduceLE, Int.reduceLT, ↓reduceIte, Int.reduceBEq, Int.reduceBNe, Int.reduceAdd, Int.reduceSub, Int.reduceMul]; try refine okTr_and rfl ?_
  refine CallK.p (hMost) ?_; (simp only [go_sem, Nat.reduceAdd, Nat.reduceMul, Int.reduceToNat, Nat.reduceLeDiff, Int.reduceLE, Int.reduceLT, ↓reduceIte, Int.reduceBEq, Int.reduceBNe, Int.reduceAdd, Int.reduceSub, Int.reduceMul]; try refine okTr_and rfl ?_)
  refine CallK.n (pen_New 27) ?_; (simp only [go_sem, Nat.reduceAdd, Nat.reduceMul, Int.reduceToNat, Nat.reduceLeDiff, Int.reduceLE, Int.reduceLT, ↓reduceIte, Int.reduceBEq, Int.reduceBNe, Int.reduceAdd, Int.reduceSub, Int.reduceMul]; try refine okTr_and rfl ?_)
  refine CallK.u2 (header_Put (WS.new 27) h _ _ (by decide) f0 hb) rfl rfl ?_; (simp only [go_sem, Nat.reduceAdd, Nat.reduceMul, Int.reduceToNat, Nat.reduceLeDiff, Int.reduceLE, Int.reduceLT, ↓reduceIte, Int.reduceBEq, Int.reduceBNe, Int.reduceAdd, Int.reduceSub, Int.reduceMul]; try refine okTr_and rfl ?_)
  refine CallK.rn2 (Writer_BytesO ((WS.new 27).header h) _ _ (by decide) e3 hff) rfl rfl ?_
  (simp only [go_sem, Nat.reduceAdd, Nat.reduceMul, Int.reduceToNat, Nat.reduceLeDiff, Int.reduceLE, Int.reduceLT, ↓reduceIte, Int.reduceBEq, Int.reduceBNe, Int.reduceAdd, Int.reduceSub, Int.reduceMul, e4]; try refine okTr_and rfl ?_)
  exact FinK.finA r27 [3]
theorem header_BytesO (h : Hd) (hr : rightH h = true) (hb : 0 ≤ h.base) : Ct Tryz.prog 27 [hdA h] [] (fun n => .tup [ownA n (headerB h), iA 0]) [] (fun _ => [.row 1 (headerB h).length]) := Ct.n (header_BytesO0 h hr hb) cl cl clo
def bytes1 (u : Sg1) : List Int := if right1 u = true then seg1B u else []
def err1 (u : Sg1) : Int := if right1 u = true then 0 else 3
theorem encO_take {base : Int} {l : List O1} {k : Nat} (h : k < l.length) : encs (oldF base).enc [] (l.take (k + 1)) = encs (oldF base).enc [] (l.take k) ++ (vb (l.getD k o10).st ++ (vb (backO (base + k) (l.getD k o10)) ++ blobB (l.getD k o10).data)) := by
  have el : (l.take k).length = k := by rw [List.length_take]; omega
  rw [o1_take l k h, encs_snoc, List.nil_append]
  simp only [oldF]
  rw [el]
theorem encO_le {base : Int} {l : List O1} : ∀ k, k ≤ l.length → (encs (oldF base).enc [] (l.take k)).length ≤ (encs (oldF base).enc [] l).length := by
  intro k hk
  have gen : ∀ n, k + n = l.length → (encs (oldF base).enc [] (l.take k)).length ≤ (encs (oldF base).enc [] l).length := by
    intro n
    induction n generalizing k with
    | zero => intro h; rw [List.take_of_length_le (by omega)]; exact Nat.le_refl _
    | succ n ih =>
      intro h
      have h1 := ih (k + 1) (by omega) (by omega)
      rw [encO_take (by omega), List.length_append] at h1
      omega
  exact gen (l.length - k) (by omega)
set_option maxHeartbeats 1000000 in
set_option maxRecDepth 100000 in
theorem legacy_Bytes10 (u : Sg1) (hs : Small1 u) (hO : O1s u.en) : Does Tryz.prog 15 [sg1A u] [] (.tup [slA .u8 (bytes1 u), iA (err1 u)]) [] := by
  have hR := legacy_Right1 u hs
  obtain ⟨b0, b1, n1, s1⟩ := hs
  have hs0 := sumO_ge u.en
  refine Does.runA Tryz.func15 b15 n15 Tryz.ntmps15 ?_; simp only [c15, go_sem, Nat.reduceAdd, Nat.reduceMul, Int.reduceToNat, Nat.reduceLeDiff, Int.reduceLE, Int.reduceLT, ↓reduceIte, Int.reduceBEq, Int.reduceBNe, Int.reduceAdd, Int.reduceSub, Int.reduceMul]; try refine okTr_and rfl ?_
  refine CallK.p (hR) ?_
  by_cases hr : right1 u = true
  · have e1 : bytes1 u = seg1B u := by unfold bytes1; rw [if_pos hr]
    have e2 : err1 u = 0 := by unfold err1; rw [if_pos hr]
    obtain ⟨h1, h2, h3, h4, h5⟩ := right1_iff.1 hr
    obtain ⟨g1, g2, g3, hwf⟩ := (right1_wf hO).1 hr
    have hbl := body_len hO hr
    have hbb := body_bys hO b0 hr
    have w1 : IntKind.i64.wrap (30 + sumO u.en) = 30 + sumO u.en := IntWalk.i64_in _ (by omega)
    have w2 : IntKind.i64.wrap (30 * (u.en.length : Int)) = 30 * u.en.length := IntWalk.i64_in _ (by omega)
    have w4 : IntKind.u64.wrap (u.en.length : Int) = u.en.length := IntWalk.u64_in _ (by omega)
    obtain ⟨m, hm⟩ : ∃ m, 30 + sumO u.en + 30 * (u.en.length : Int) = m := ⟨_, rfl⟩
    have w3 : IntKind.i64.wrap (30 + sumO u.en + 30 * (u.en.length : Int)) = m := by rw [IntWalk.i64_in _ (by omega), hm]
    have f0 : (WS.new m).fine := WS.fine.new (by omega)
    obtain ⟨W, hW⟩ : ∃ W : Nat → WS, W = fun k => ⟨m, vb (u.en.length : Int) ++ encs (oldF u.base).enc [] (u.en.take k), 0⟩ := ⟨_, rfl⟩
    have hlen : ∀ k, k ≤ u.en.length → ((vb (u.en.length : Int) ++ encs (oldF u.base).enc [] (u.en.take k)).length : Int) ≤ m - 20 := fun k hk => by
      have := encO_le (base := u.base) (l := u.en) k hk
      unfold bodyB at hbl
      rw [List.length_append] at hbl ⊢
      omega
    have hfine : ∀ k, k ≤ u.en.length → (W k).fine := fun k hk => by
      have := hlen k hk
      rw [hW]; exact ⟨by simp only; omega, by simp only; omega, by simp only; omega⟩
    have hW0 : (WS.new m).put (vb (u.en.length : Int)) = W 0 := by
      have hv := (vb_len (u.en.length : Int)).2
      rw [WS.new_is (by omega), put_fit rfl (by simp; omega), hW]; simp [encs]
    have hWn : ∀ k, k < u.en.length → (((((W k).put (vb (u.en.getD k o10).st)).put (vb (backO (u.base + k) (u.en.getD k o10)))).put (vb ((u.en.getD k o10).data.length : Int))).put (u.en.getD k o10).data) = W (k + 1) := fun k hk => by
      have hl := hlen (k + 1) hk
      rw [encO_take hk] at hl
      unfold blobB at hl
      simp only [List.length_append] at hl
      obtain ⟨A, hA⟩ : ∃ A, vb (u.en.length : Int) ++ encs (oldF u.base).enc [] (u.en.take k) = A := ⟨_, rfl⟩
      have hAl := congrArg List.length hA
      rw [List.length_append] at hAl
      have p0 : W k = ⟨m, A, 0⟩ := by rw [hW, ← hA]
      have p1 := put_fit (s := ⟨m, A, 0⟩) (m := vb (u.en.getD k o10).st) rfl (by simp only; omega)
      have p2 := put_fit (s := ⟨m, A ++ vb (u.en.getD k o10).st, 0⟩) (m := vb (backO (u.base + k) (u.en.getD k o10))) rfl (by simp only [List.length_append]; omega)
      have p3 := put_fit (s := ⟨m, A ++ vb (u.en.getD k o10).st ++ vb (backO (u.base + k) (u.en.getD k o10)), 0⟩) (m := vb ((u.en.getD k o10).data.length : Int)) rfl (by simp only [List.length_append]; omega)
      have p4 := put_fit (s := ⟨m, A ++ vb (u.en.getD k o10).st ++ vb (backO (u.base + k) (u.en.getD k o10)) ++ vb ((u.en.getD k o10).data.length : Int), 0⟩) (m := (u.en.getD k o10).data) rfl (by simp only [List.length_append]; omega)
      simp only at p1 p2 p3 p4
      rw [p0, p1, p2, p3, p4, hW]
      simp only
      rw [encO_take hk, ← hA]
      simp only [List.append_assoc, blobB]
    have hfin : (W u.en.length).bytes = bodyB u := by rw [hW]; unfold WS.bytes bodyB; simp
    have hfc : (W u.en.length).code = 0 := by rw [hW]
    have hbase := hr
    have hcrc := crcI_nonneg hbb
    have w5 : IntKind.u64.wrap (crcI (bodyB u)) = crcI (bodyB u) := IntWalk.u64_in _ (by omega)
    have e8 : (min (max (4 : Int) 0) 8).toNat = 4 := by decide
    have hpf := pen_Fixed (crcI (bodyB u)) 4 (by omega) (by omega)
    rw [e8] at hpf
    have hl4 := lowBytes_len 4 (crcI (bodyB u))
    have hhl := (plainB_len ⟨1, u.ep, u.base⟩).2
    have hhl2 := headerB_len ⟨1, u.ep, u.base⟩
    have hseg : headerB ⟨1, u.ep, u.base⟩ ++ bodyB u ++ lowBytes 4 (crcI (bodyB u)) = seg1B u := by unfold seg1B; rw [List.append_assoc]
    have hho := header_BytesO ⟨1, u.ep, u.base⟩ (rightH1 hr) b0
    obtain ⟨HB, hHB⟩ : ∃ HB, headerB ⟨1, u.ep, u.base⟩ = HB := ⟨_, rfl⟩
    rw [hHB] at hho hseg hhl2
    rw [e1, e2]
    (simp only [go_sem, Nat.reduceAdd, Nat.reduceMul, Int.reduceToNat, Nat.reduceLeDiff, Int.reduceLE, Int.reduceLT, ↓reduceIte, Int.reduceBEq, Int.reduceBNe, Int.reduceAdd, Int.reduceSub, Int.reduceMul, hr]; try refine okTr_and rfl ?_)
    refine CallK.n (hho) ?_; (simp only [go_sem, Nat.reduceAdd, Nat.reduceMul, Int.reduceToNat, Nat.reduceLeDiff, Int.reduceLE, Int.reduceLT, ↓reduceIte, Int.reduceBEq, Int.reduceBNe, Int.reduceAdd, Int.reduceSub, Int.reduceMul]; try refine okTr_and rfl ?_)
    refine CallK.p (legacy_total u.en n1 s1) ?_; (simp only [go_sem, Nat.reduceAdd, Nat.reduceMul, Int.reduceToNat, Nat.reduceLeDiff, Int.reduceLE, Int.reduceLT, ↓reduceIte, Int.reduceBEq, Int.reduceBNe, Int.reduceAdd, Int.reduceSub, Int.reduceMul, w1, o1s_length, w2, w3]; try refine okTr_and rfl ?_)
    refine CallK.n (pen_New m) ?_; (simp only [go_sem, Nat.reduceAdd, Nat.reduceMul, Int.reduceToNat, Nat.reduceLeDiff, Int.reduceLE, Int.reduceLT, ↓reduceIte, Int.reduceBEq, Int.reduceBNe, Int.reduceAdd, Int.reduceSub, Int.reduceMul, o1s_length, w4]; try refine okTr_and rfl ?_)
    refine CallK.u2 (varint_Put (WS.new m) u.en.length 2 3 (by decide) (by omega) (by omega) f0.ok (f0.room _)) rfl rfl ?_; (simp only [go_sem, Nat.reduceAdd, Nat.reduceMul, Int.reduceToNat, Nat.reduceLeDiff, Int.reduceLE, Int.reduceLT, ↓reduceIte, Int.reduceBEq, Int.reduceBNe, Int.reduceAdd, Int.reduceSub, Int.reduceMul, hW0, o1s_length]; try refine okTr_and rfl ?_)
    refine loop_of (α := Nat) (fun k => [.any, .ref 0 0, .any, .any, ownA 1 HB, .any, .ref 2 0, .any, .any, .any, .any, .any, .any, .any, .any, .any, .any, .any, .any, .any, .any, .any, .any, .any, .any, .any, .any, .any, .any, .any, .any, .any, .any, .any, .any, .any, .any, .any, .any, .any, .any, slO u.en, iA u.en.length, iA k, .any, .any, .any, .any, .any, .any, .any, .any, .any, .any, .any, .any, .any, .any, .any, .any, .any, .any, .any, .any, .any, .any, .any, .any, .any, .any, .any, .any, .any, .any, .any, .any, .any, .any, .any, .any, .any, .any, .any, .any]) (fun k => [sg1O u, .row 1 HB.length, wob 3 (W k), wrow (W k)]) (fun k => k ≤ u.en.length) (fun k => u.en.length - k) 0 (by simp) (Wk.to (by rfl) (by simp [leT])) ?_
    intro k hk
    (simp only [go_sem, Nat.reduceAdd, Nat.reduceMul, Int.reduceToNat, Nat.reduceLeDiff, Int.reduceLE, Int.reduceLT, ↓reduceIte, Int.reduceBEq, Int.reduceBNe, Int.reduceAdd, Int.reduceSub, Int.reduceMul]; try refine okTr_and rfl ?_)
    by_cases hlt : k < u.en.length
    · have q1 : decide ((k : Int) < (u.en.length : Int)) = true := decide_eq_true (by omega)
      have ek := i64_succ k (by omega)
      have g := o1s_get u.en k hlt
      have hx := hO _ (o1_mem u.en k hlt)
      have hgd := h5 k hlt
      have hwn := hWn k hlt
      obtain ⟨x, ex⟩ : ∃ x, u.en.getD k o10 = x := ⟨_, rfl⟩
      rw [ex] at g hx hgd hwn
      have hbr := backO_range hgd hx.b0
      have hf := hfine k (by omega)
      have hdl : x.data.length ≤ 140737488355328 := by
        have := sumO_take u.en k hlt
        have h6 := sumO_le u.en (k + 1)
        have h7 := sumO_ge (u.en.take k)
        rw [ex] at this; omega
      have wk : IntKind.u64.wrap (k : Int) = k := IntWalk.u64_in _ (by omega)
      have wp : IntKind.u64.wrap (u.base + (k : Int)) = u.base + k := IntWalk.u64_in _ (by omega)
      (simp only [go_sem, Nat.reduceAdd, Nat.reduceMul, Int.reduceToNat, Nat.reduceLeDiff, Int.reduceLE, Int.reduceLT, ↓reduceIte, Int.reduceBEq, Int.reduceBNe, Int.reduceAdd, Int.reduceSub, Int.reduceMul, q1, g, o1s_length, Int.toNat_natCast]; try refine okTr_and rfl ?_)
      (repeat ((with_reducible refine And.intro ?_ ?_); (· exact sd)))
      refine CallK.u2 (varint_Put (W k) x.st 2 3 (by decide) hx.s0 hx.s1 hf.ok (hf.room _)) rfl rfl ?_; (simp only [go_sem, Nat.reduceAdd, Nat.reduceMul, Int.reduceToNat, Nat.reduceLeDiff, Int.reduceLE, Int.reduceLT, ↓reduceIte, Int.reduceBEq, Int.reduceBNe, Int.reduceAdd, Int.reduceSub, Int.reduceMul]; try refine okTr_and rfl ?_)
      have hB : backO (u.base + k) x = if x.hb = true then u.base + k - x.bk else 0 := rfl
      obtain ⟨B, hBe⟩ : ∃ B, backO (u.base + k) x = B := ⟨_, rfl⟩
      rw [hBe] at hbr hB hwn
      have hf2 := hf.put (vb x.st)
      have hB1 : B < 18446744073709551616 := by have := hbr.2.1 (by omega); omega
      cases hb : x.hb with
      | true =>
        rw [if_pos hb] at hB
        have wb : IntKind.u64.wrap (u.base + k - x.bk) = B := by rw [← hB]; exact IntWalk.u64_in _ (by omega)
        (simp only [go_sem, Nat.reduceAdd, Nat.reduceMul, Int.reduceToNat, Nat.reduceLeDiff, Int.reduceLE, Int.reduceLT, ↓reduceIte, Int.reduceBEq, Int.reduceBNe, Int.reduceAdd, Int.reduceSub, Int.reduceMul, wk, wp, wb]; try refine okTr_and rfl ?_)
        refine CallK.u2 (varint_Put ((W k).put (vb x.st)) B 2 3 (by decide) hbr.1 hB1 hf2.ok (hf2.room _)) rfl rfl ?_; (simp only [go_sem, Nat.reduceAdd, Nat.reduceMul, Int.reduceToNat, Nat.reduceLeDiff, Int.reduceLE, Int.reduceLT, ↓reduceIte, Int.reduceBEq, Int.reduceBNe, Int.reduceAdd, Int.reduceSub, Int.reduceMul]; try refine okTr_and rfl ?_)
        refine CallK.u2 (blob_Put (((W k).put (vb x.st)).put (vb B)) x.data 2 3 (by decide) (hf2.put _) hdl) rfl rfl ?_; (simp only [go_sem, Nat.reduceAdd, Nat.reduceMul, Int.reduceToNat, Nat.reduceLeDiff, Int.reduceLE, Int.reduceLT, ↓reduceIte, Int.reduceBEq, Int.reduceBNe, Int.reduceAdd, Int.reduceSub, Int.reduceMul, hwn, ek]; try refine okTr_and rfl ?_)
        exact ⟨k + 1, hlt, by omega, Wk.sel [0, 1, 2, 3] (by simp) rfl (by simp) rfl (by simp [ixs_z, wob_ren, wrow_ren, ixs]) (by simp [selT, ixs_z, ren_ints, ixs])⟩
      | false =>
        rw [if_neg (by rw [hb]; decide)] at hB
        rw [hB] at hwn
        (simp only [go_sem, Nat.reduceAdd, Nat.reduceMul, Int.reduceToNat, Nat.reduceLeDiff, Int.reduceLE, Int.reduceLT, ↓reduceIte, Int.reduceBEq, Int.reduceBNe, Int.reduceAdd, Int.reduceSub, Int.reduceMul]; try refine okTr_and rfl ?_)
        refine CallK.u2 (varint_Put ((W k).put (vb x.st)) 0 2 3 (by decide) (by decide) (by decide) (hf.put _).ok ((hf.put _).room _)) rfl rfl ?_; (simp only [go_sem, Nat.reduceAdd, Nat.reduceMul, Int.reduceToNat, Nat.reduceLeDiff, Int.reduceLE, Int.reduceLT, ↓reduceIte, Int.reduceBEq, Int.reduceBNe, Int.reduceAdd, Int.reduceSub, Int.reduceMul]; try refine okTr_and rfl ?_)
        refine CallK.u2 (blob_Put (((W k).put (vb x.st)).put (vb 0)) x.data 2 3 (by decide) ((hf.put _).put _) hdl) rfl rfl ?_; (simp only [go_sem, Nat.reduceAdd, Nat.reduceMul, Int.reduceToNat, Nat.reduceLeDiff, Int.reduceLE, Int.reduceLT, ↓reduceIte, Int.reduceBEq, Int.reduceBNe, Int.reduceAdd, Int.reduceSub, Int.reduceMul, hwn, ek]; try refine okTr_and rfl ?_)
        exact ⟨k + 1, hlt, by omega, Wk.sel [0, 1, 2, 3] (by simp) rfl (by simp) rfl (by simp [ixs_z, wob_ren, wrow_ren, ixs]) (by simp [selT, ixs_z, ren_ints, ixs])⟩
    · have q1 : decide ((k : Int) < (u.en.length : Int)) = false := decide_eq_false (by omega)
      have ek : k = u.en.length := by omega
      subst ek
      have hff := (hfine _ (Nat.le_refl _)).len
      (simp only [go_sem, Nat.reduceAdd, Nat.reduceMul, Int.reduceToNat, Nat.reduceLeDiff, Int.reduceLE, Int.reduceLT, ↓reduceIte, Int.reduceBEq, Int.reduceBNe, Int.reduceAdd, Int.reduceSub, Int.reduceMul, q1]; try refine okTr_and rfl ?_)
      refine CallK.r2 (Writer_Bytes (W u.en.length) 2 3 (by decide) hff) rfl rfl ?_; (simp only [go_sem, Nat.reduceAdd, Nat.reduceMul, Int.reduceToNat, Nat.reduceLeDiff, Int.reduceLE, Int.reduceLT, ↓reduceIte, Int.reduceBEq, Int.reduceBNe, Int.reduceAdd, Int.reduceSub, Int.reduceMul, hfin, hfc, ints_length, ints_append]; try refine okTr_and rfl ?_)
      (repeat ((with_reducible refine And.intro ?_ ?_); (· exact sd)))
      refine CallK.p (crc_Sum (bodyB u) hbb (by omega)) ?_; (simp only [go_sem, Nat.reduceAdd, Nat.reduceMul, Int.reduceToNat, Nat.reduceLeDiff, Int.reduceLE, Int.reduceLT, ↓reduceIte, Int.reduceBEq, Int.reduceBNe, Int.reduceAdd, Int.reduceSub, Int.reduceMul, w5]; try refine okTr_and rfl ?_)
      refine CallK.p (hpf) ?_; (simp only [go_sem, Nat.reduceAdd, Nat.reduceMul, Int.reduceToNat, Nat.reduceLeDiff, Int.reduceLE, Int.reduceLT, ↓reduceIte, Int.reduceBEq, Int.reduceBNe, Int.reduceAdd, Int.reduceSub, Int.reduceMul, ints_length, ints_append, hl4, hseg]; try refine okTr_and rfl ?_)
      (repeat ((with_reducible refine And.intro ?_ ?_); (· exact sd)))
      (refine FinK.untag 2 rfl ?_; simp only [untag1_sl, List.set_cons_zero, List.set_cons_succ])
      exact FinK.finA r15 []
  · have hr' : right1 u = false := by simpa using hr
    have e1 : bytes1 u = [] := by unfold bytes1; rw [if_neg hr]
    have e2 : err1 u = 3 := by unfold err1; rw [if_neg hr]
    rw [e1, e2]
    (simp only [go_sem, Nat.reduceAdd, Nat.reduceMul, Int.reduceToNat, Nat.reduceLeDiff, Int.reduceLE, Int.reduceLT, ↓reduceIte, Int.reduceBEq, Int.reduceBNe, Int.reduceAdd, Int.reduceSub, Int.reduceMul, hr']; try refine okTr_and rfl ?_)
    (refine FinK.untag 2 rfl ?_; simp only [untag1_sl, List.set_cons_zero, List.set_cons_succ])
    exact FinK.finA r15 []
theorem legacy_Bytes1 (u : Sg1) (hs : Small1 u) (hO : O1s u.en) : Ct Tryz.prog 15 [sg1A u] [] (fun _ => .tup [slA .u8 (bytes1 u), iA (err1 u)]) [] (fun _ => []) := (legacy_Bytes10 u hs hO).toCt cl cl
end Go.Proofs.YtnfagphepkeedaaGreat
end
section
namespace Go.Proofs.YtnfagphepkeedaaGreat
open Go.RowKit

set_option maxHeartbeats 1000000 in
set_option maxRecDepth 100000 in
theorem ref35_Right10 (u : Sg1) (hs : Small1 u) : Does Tryz.prog 17 [sg1A u] [] (bA (right1 u)) [] := by
  obtain ⟨b0, b1, n1, s1⟩ := hs
  refine Does.runA Tryz.func17 b17 n17 Tryz.ntmps17 ?_; simp only [c17, go_sem, Nat.reduceAdd, Nat.reduceMul, Int.reduceToNat, Nat.reduceLeDiff, Int.reduceLE, Int.reduceLT, ↓reduceIte, Int.reduceBEq, Int.reduceBNe, Int.reduceAdd, Int.reduceSub, Int.reduceMul]; try refine okTr_and rfl ?_
  refine CallK.p (ref17_Right u.ep) ?_
  cases h1 : epRight u.ep with
  | false =>
    have e := right1_no (u := u) (.inl h1)
    (simp only [go_sem, Nat.reduceAdd, Nat.reduceMul, Int.reduceToNat, Nat.reduceLeDiff, Int.reduceLE, Int.reduceLT, ↓reduceIte, Int.reduceBEq, Int.reduceBNe, Int.reduceAdd, Int.reduceSub, Int.reduceMul, h1]; try refine okTr_and rfl ?_)
    ((refine FinK.finB r17 [] ?_ ?_); (· first | with_reducible rfl | (simp [e]; done) | rfl); (· simp [resAL, resA1, loadA, oneOr, e]))
  | true =>
    by_cases h2 : u.en.length ≤ 400
    · have q2 : decide (400 < (u.en.length : Int)) = false := decide_eq_false (by omega)
      (simp only [go_sem, Nat.reduceAdd, Nat.reduceMul, Int.reduceToNat, Nat.reduceLeDiff, Int.reduceLE, Int.reduceLT, ↓reduceIte, Int.reduceBEq, Int.reduceBNe, Int.reduceAdd, Int.reduceSub, Int.reduceMul, h1, o1s_length, q2]; try refine okTr_and rfl ?_)
      refine CallK.p (ref35_fits u.base u.en.length b0 b1 (by omega) (by omega)) ?_
      cases h3 : fitsB u.base u.en.length with
      | false =>
        have e := right1_no (u := u) (.inr (.inr (.inl h3)))
        (simp only [go_sem, Nat.reduceAdd, Nat.reduceMul, Int.reduceToNat, Nat.reduceLeDiff, Int.reduceLE, Int.reduceLT, ↓reduceIte, Int.reduceBEq, Int.reduceBNe, Int.reduceAdd, Int.reduceSub, Int.reduceMul, h3]; try refine okTr_and rfl ?_)
        ((refine FinK.finB r17 [] ?_ ?_); (· first | with_reducible rfl | (simp [e]; done) | rfl); (· simp [resAL, resA1, loadA, oneOr, e]))
      | true =>
        obtain ⟨f1, f2⟩ := fitsB_iff.1 h3
        (simp only [go_sem, Nat.reduceAdd, Nat.reduceMul, Int.reduceToNat, Nat.reduceLeDiff, Int.reduceLE, Int.reduceLT, ↓reduceIte, Int.reduceBEq, Int.reduceBNe, Int.reduceAdd, Int.reduceSub, Int.reduceMul, h3]; try refine okTr_and rfl ?_)
        refine loop_of (α := Nat) (fun k => [.any, .ref 0 0, .any, iA (sumO (u.en.take k)), iA k, .any, .any, .any, .any, .any, .any, .any, .any, .any, .any, .any, .any, .any, .any, .any, .any, .any, .any, .any, .any, .any, .any, .any, .any, .any, .any, .any, .any, .any, .any, .any, .any, .any, .any, .any, .any, .any, .any, .any, .any, .any, .any, .any, .any, .any, .any, .any, .any, .any, .any, .any, .any, .any, .any, .any, .any, .any, .any, .any, .any, .any]) (fun _ => [sg1O u]) (fun k => k ≤ u.en.length ∧ ∀ i, i < k → goodO (u.base + i) (u.en.getD i o10) = true) (fun k => u.en.length - k) 0 ⟨by simp, fun i hi => by omega⟩ (Wk.to (by simp) (by simp [leT, sumO])) ?_
        rintro k ⟨hk, hall⟩
        (simp only [go_sem, Nat.reduceAdd, Nat.reduceMul, Int.reduceToNat, Nat.reduceLeDiff, Int.reduceLE, Int.reduceLT, ↓reduceIte, Int.reduceBEq, Int.reduceBNe, Int.reduceAdd, Int.reduceSub, Int.reduceMul, o1s_length]; try refine okTr_and rfl ?_)
        by_cases hlt : k < u.en.length
        · have q1 : decide ((k : Int) < (u.en.length : Int)) = true := decide_eq_true (by omega)
          have ek := i64_succ k (by omega)
          have g := o1s_get u.en k hlt
          have st := sumO_take u.en k hlt
          have le := sumO_le u.en (k + 1)
          have ge := sumO_ge (u.en.take k)
          have wk : IntKind.u64.wrap (k : Int) = k := IntWalk.u64_in _ (by omega)
          have wp : IntKind.u64.wrap (u.base + (k : Int)) = u.base + k := IntWalk.u64_in _ (by omega)
          obtain ⟨x, ex⟩ : ∃ x, u.en.getD k o10 = x := ⟨_, rfl⟩
          rw [ex] at g st
          have w : IntKind.i64.wrap (sumO (u.en.take k) + (x.data.length : Int)) = sumO (u.en.take (k + 1)) := by rw [IntWalk.i64_in _ (by omega)]; omega
          have bad : goodO (u.base + k) x = false → right1 u = false := fun h => by
            cases hr : right1 u with
            | false => rfl
            | true =>
              have := (right1_iff.1 hr).2.2.2.2 k hlt
              rw [ex, h] at this; cases this
          have good : goodO (u.base + k) x = true → ∀ i, i < k + 1 → goodO (u.base + i) (u.en.getD i o10) = true := fun h i hi => by
            rcases Nat.lt_or_ge i k with h' | h'
            · exact hall i h'
            · obtain rfl : i = k := by omega
              rw [ex]; exact h
          cases hb : x.hb with
          | true =>
            by_cases hc : x.bk < u.base + k
            · have q3 : decide (u.base + (k : Int) ≤ x.bk) = false := decide_eq_false (by omega)
              have hg : goodO (u.base + k) x = true := by unfold goodO; rw [if_pos hb]; exact decide_eq_true hc
              (simp only [go_sem, Nat.reduceAdd, Nat.reduceMul, Int.reduceToNat, Nat.reduceLeDiff, Int.reduceLE, Int.reduceLT, ↓reduceIte, Int.reduceBEq, Int.reduceBNe, Int.reduceAdd, Int.reduceSub, Int.reduceMul, q1, g, o1s_length, Int.toNat_natCast, hb, wk, wp, q3, ints_length, w, ek]; try refine okTr_and rfl ?_)
              (repeat ((with_reducible refine And.intro ?_ ?_); (· exact sd)))
              exact ⟨k + 1, ⟨hlt, good hg⟩, by omega, Wk.sel [0] (by simp) rfl (by simp) rfl (by simp [ixs_z]) (by simp [selT, ixs_z])⟩
            · have q3 : decide (u.base + (k : Int) ≤ x.bk) = true := decide_eq_true (by omega)
              have hg : goodO (u.base + k) x = false := by unfold goodO; rw [if_pos hb]; exact decide_eq_false hc
              have e := bad hg
              (simp only [go_sem, Nat.reduceAdd, Nat.reduceMul, Int.reduceToNat, Nat.reduceLeDiff, Int.reduceLE, Int.reduceLT, ↓reduceIte, Int.reduceBEq, Int.reduceBNe, Int.reduceAdd, Int.reduceSub, Int.reduceMul, q1, g, o1s_length, Int.toNat_natCast, hb, wk, wp, q3]; try refine okTr_and rfl ?_)
              (repeat ((with_reducible refine And.intro ?_ ?_); (· exact sd)))
              ((refine FinK.finB r17 [] ?_ ?_); (· first | with_reducible rfl | (simp [e]; done) | rfl); (· simp [resAL, resA1, loadA, oneOr, e]))
          | false =>
            by_cases hc : x.bk = 0
            · have q3 : (x.bk != 0) = false := by simpa using hc
              have hg : goodO (u.base + k) x = true := by unfold goodO; rw [if_neg (by rw [hb]; decide)]; exact decide_eq_true hc
              (simp only [go_sem, Nat.reduceAdd, Nat.reduceMul, Int.reduceToNat, Nat.reduceLeDiff, Int.reduceLE, Int.reduceLT, ↓reduceIte, Int.reduceBEq, Int.reduceBNe, Int.reduceAdd, Int.reduceSub, Int.reduceMul, q1, g, o1s_length, Int.toNat_natCast, hb, q3, ints_length, w, ek]; try refine okTr_and rfl ?_)
              (repeat ((with_reducible refine And.intro ?_ ?_); (· exact sd)))
              exact ⟨k + 1, ⟨hlt, good hg⟩, by omega, Wk.sel [0] (by simp) rfl (by simp) rfl (by simp [ixs_z]) (by simp [selT, ixs_z])⟩
            · have q3 : (x.bk != 0) = true := by simpa using hc
              have hg : goodO (u.base + k) x = false := by unfold goodO; rw [if_neg (by rw [hb]; decide)]; exact decide_eq_false hc
              have e := bad hg
              (simp only [go_sem, Nat.reduceAdd, Nat.reduceMul, Int.reduceToNat, Nat.reduceLeDiff, Int.reduceLE, Int.reduceLT, ↓reduceIte, Int.reduceBEq, Int.reduceBNe, Int.reduceAdd, Int.reduceSub, Int.reduceMul, q1, g, o1s_length, Int.toNat_natCast, hb, q3]; try refine okTr_and rfl ?_)
              (repeat ((with_reducible refine And.intro ?_ ?_); (· exact sd)))
              ((refine FinK.finB r17 [] ?_ ?_); (· first | with_reducible rfl | (simp [e]; done) | rfl); (· simp [resAL, resA1, loadA, oneOr, e]))
        · have q1 : decide ((k : Int) < (u.en.length : Int)) = false := decide_eq_false (by omega)
          have ek : u.en.take k = u.en := List.take_of_length_le (by omega)
          have e : decide (sumO u.en ≤ 1048576) = right1 u := by
            by_cases h4 : sumO u.en ≤ 1048576
            · rw [decide_eq_true h4]
              exact (right1_iff.2 ⟨epRight_iff.1 h1, h2, ⟨f1, f2⟩, h4, fun i hi => hall i (by omega)⟩).symm
            · rw [decide_eq_false h4]
              exact (right1_no (u := u) (.inr (.inr (.inr (by omega))))).symm
          (simp only [go_sem, Nat.reduceAdd, Nat.reduceMul, Int.reduceToNat, Nat.reduceLeDiff, Int.reduceLE, Int.reduceLT, ↓reduceIte, Int.reduceBEq, Int.reduceBNe, Int.reduceAdd, Int.reduceSub, Int.reduceMul, q1, ek, e]; try refine okTr_and rfl ?_)
          exact FinK.finA r17 []
    · have q2 : decide (400 < (u.en.length : Int)) = true := decide_eq_true (by omega)
      have e := right1_no (u := u) (.inr (.inl (by omega)))
      (simp only [go_sem, Nat.reduceAdd, Nat.reduceMul, Int.reduceToNat, Nat.reduceLeDiff, Int.reduceLE, Int.reduceLT, ↓reduceIte, Int.reduceBEq, Int.reduceBNe, Int.reduceAdd, Int.reduceSub, Int.reduceMul, h1, o1s_length, q2]; try refine okTr_and rfl ?_)
      ((refine FinK.finB r17 [] ?_ ?_); (· first | with_reducible rfl | (simp [e]; done) | rfl); (· simp [resAL, resA1, loadA, oneOr, e]))
theorem ref35_Right1 (u : Sg1) (hs : Small1 u) : Ct Tryz.prog 17 [sg1A u] [] (fun _ => bA (right1 u)) [] (fun _ => []) := (ref35_Right10 u hs).toCt cl cl
def lu35 : Sg1 := ⟨5, 7, [⟨0, 4, true, []⟩]⟩
theorem live35_r : right1 lu35 = true := by kernel_rfl
theorem live35_b : bodyB lu35 = [1, 0, 3, 0] := by kernel_rfl
set_option maxRecDepth 100000 in
theorem live35_0 : Does Tryz.prog 7 [] [] (bA true) [] := by
  have hO : O1s lu35.en := fun x hx => by
    simp only [lu35, List.mem_singleton] at hx
    subst hx
    exact ⟨by decide, by decide, by decide, by decide, fun y hy => by simp at hy⟩
  have hS : Small1 lu35 := ⟨by decide, by decide, by decide, by decide⟩
  have e1 : bytes1 lu35 = headerB ⟨1, 5, 7⟩ ++ ([1, 0, 3, 0] ++ lowBytes 4 (crcI (bodyB lu35))) := by
    unfold bytes1; rw [if_pos live35_r]; unfold seg1B; rw [live35_b]; rfl
  have e2 : err1 lu35 = 0 := by unfold err1; rw [if_pos live35_r]
  have hA : sg1A lu35 = .agg [uA 5, uA 7, .sl .none 4 [.agg [uA 0, uA 4, bA true, slA .u8 []]]] := rfl
  have hb := legacy_Bytes1 lu35 hS hO
  rw [e1, e2, hA] at hb
  have hh := header_Bytes ⟨1, 5, 7⟩ (by decide)
  have e3 : bytesH ⟨1, 5, 7⟩ = headerB ⟨1, 5, 7⟩ := by unfold bytesH; rw [if_pos (by kernel_rfl)]
  have e4 : errH ⟨1, 5, 7⟩ = 0 := by unfold errH; rw [if_pos (by kernel_rfl)]
  rw [e3, e4] at hh
  obtain ⟨HB, hHB⟩ : ∃ HB, headerB ⟨1, 5, 7⟩ = HB := ⟨_, rfl⟩
  have hHl : HB.length ≤ 29 := by
    rw [← hHB, headerB_len]; have := (plainB_len ⟨1, 5, 7⟩).2; omega
  rw [hHB] at hb hh
  obtain ⟨L, hL⟩ : ∃ L, lowBytes 4 (crcI (bodyB lu35)) = L := ⟨_, rfl⟩
  have hLl : L.length = 4 := by rw [← hL]; exact lowBytes_len 4 _
  rw [hL] at hb
  obtain ⟨Q, hQ⟩ : ∃ Q : List Int, [1, 0, 3, 0] = Q := ⟨_, rfl⟩
  have hQl : Q.length = 4 := by rw [← hQ]; rfl
  have hB : Bys [1, 0, 3, 0] := by unfold Bys; decide
  have hBQ : Bys Q := by rw [← hQ]; exact hB
  have hsq : sameB Q [1, 0, 3, 0] = true := by rw [← hQ]; exact same_self _
  rw [hQ] at hb
  have w8 : IntKind.i64.wrap ((HB.length : Int) + 8) = (HB.length : Int) + 8 := IntWalk.i64_in _ (by omega)
  have w4 : IntKind.i64.wrap ((HB.length : Int) + 4) = (HB.length : Int) + 4 := IntWalk.i64_in _ (by omega)
  have q1 : (((HB ++ (Q ++ L)).length : Int) == (HB.length : Int) + 8) = true := by
    rw [List.length_append, List.length_append, hLl, hQl]; simp
  have hsl : ((HB ++ (Q ++ L)).drop HB.length).take ((HB.length : Int) + 4 - (HB.length : Int)).toNat = Q := by
    rw [List.drop_left, show ((HB.length : Int) + 4 - (HB.length : Int)).toNat = Q.length by omega, List.take_left]
  have ei : ints .u8 [1, 0, 3, 0] = [u8A 1, u8A 0, u8A 3, u8A 0] := rfl
  have hsm := ref02_Same Q [1, 0, 3, 0] hBQ hB
  have hlen : (HB ++ (Q ++ L)).length = HB.length + 8 := by rw [List.length_append, List.length_append, hLl, hQl]
  refine Does.runA Tryz.func7 b7 n7 Tryz.ntmps7 ?_; simp only [c7, go_sem, Nat.reduceAdd, Nat.reduceMul, Int.reduceToNat, Nat.reduceLeDiff, Int.reduceLE, Int.reduceLT, ↓reduceIte, Int.reduceBEq, Int.reduceBNe, Int.reduceAdd, Int.reduceSub, Int.reduceMul]; try refine okTr_and rfl ?_
  (repeat ((with_reducible refine And.intro ?_ ?_); (· exact sd)))
  refine CallK.p (hb.weak (by simp only [List.map_cons, List.map_nil, untag, untag1]; exact (by repeat (first | exact Wa.refl _ | exact WaL.nil | exact Wa.nil | exact Wa.none | refine WaL.cons ?_ ?_ | refine Wa.agg ?_ | refine Wa.slN ?_ | refine Wa.slS ?_ | exact WaL.refl _)))) ?_
  (simp only [go_sem, Nat.reduceAdd, Nat.reduceMul, Int.reduceToNat, Nat.reduceLeDiff, Int.reduceLE, Int.reduceLT, ↓reduceIte, Int.reduceBEq, Int.reduceBNe, Int.reduceAdd, Int.reduceSub, Int.reduceMul]; try refine okTr_and rfl ?_)
  refine CallK.p (hh) ?_; (simp only [go_sem, Nat.reduceAdd, Nat.reduceMul, Int.reduceToNat, Nat.reduceLeDiff, Int.reduceLE, Int.reduceLT, ↓reduceIte, Int.reduceBEq, Int.reduceBNe, Int.reduceAdd, Int.reduceSub, Int.reduceMul, ints_length, w8, w4, q1, ints_drop, ints_take, Int.toNat_natCast, hsl]; try refine okTr_and rfl ?_)
  (repeat ((with_reducible refine And.intro ?_ ?_); (· exact sd)))
  refine CallK.p (hsm) ?_; (simp only [go_sem, Nat.reduceAdd, Nat.reduceMul, Int.reduceToNat, Nat.reduceLeDiff, Int.reduceLE, Int.reduceLT, ↓reduceIte, Int.reduceBEq, Int.reduceBNe, Int.reduceAdd, Int.reduceSub, Int.reduceMul, hsq]; try refine okTr_and rfl ?_)
  exact FinK.finA r7 []
theorem live35 : Ct Tryz.prog 7 [] [] (fun _ => bA true) [] (fun _ => []) := (live35_0).toCt cl cl
end Go.Proofs.YtnfagphepkeedaaGreat
end
section
namespace Go.Proofs.YtnfagphepkeedaaGreat
open Go.RowKit

abbrev btA (b : Bt) : AV := .agg [uA b.ep, uA b.base, slE b.en]
def bts (l : List Bt) : List AV := l.map btA
abbrev slB (l : List Bt) : AV := .sl .none 3 (bts l)
abbrev btO (b : Bt) : AObj := .cells [uA b.ep, uA b.base, slE b.en]
abbrev sg2A (u : Sg2) : AV := .agg [uA u.ep, slB u.bt]
abbrev sg2O (u : Sg2) : AObj := .cells [uA u.ep, slB u.bt]
theorem bts_length (l : List Bt) : (bts l).length = l.length := by simp [bts]
theorem bts_nil : bts [] = [] := (rfl)
theorem bts_get (l : List Bt) (k : Nat) (h : k < l.length) : (bts l).getD k .any = btA (l.getD k bt0) := by simp [bts, h]
theorem bts_snoc (l : List Bt) (x : Bt) : bts l ++ [btA x] = bts (l ++ [x]) := by simp [bts]
theorem bts_take (l : List Bt) (n : Nat) : (bts l).take n = bts (l.take n) := by simp [bts]
@[simp] theorem ren_bts (ρ : Nat → Nat) (l : List Bt) : (bts l).map (fun x => x.ren ρ) = bts l := by
  simp [bts, Function.comp_def, ixs_z, ren_ints, ren_ens]
theorem sg2O_ren (u : Sg2) (ρ : Nat → Nat) : (sg2O u).ren ρ = sg2O u := by simp [ixs_z]
structure SmallB (b : Bt) : Prop where
  n : b.en.length ≤ 1000000
  e : ∀ e ∈ b.en, smallE e
  s : (joinE b.en).length ≤ 100000000
theorem SmallB.lk {b : Bt} (h : SmallB b) : ∀ e ∈ b.en, Smalls e.lk := fun e he => (h.e e he).1
end Go.Proofs.YtnfagphepkeedaaGreat
end
section
namespace Go.Proofs.YtnfagphepkeedaaGreat
open Go.RowKit

theorem fitsN_no {base n : Int} (h : n < 1 ∨ 16 < n ∨ fitsB base n = false) : fitsN base n = false := by
  unfold fitsN
  rcases h with h | h | h
  · rw [decide_eq_false (by omega)]; rfl
  · rw [decide_eq_false (by omega)]; rfl
  · rw [h, Bool.and_false]
theorem fitsN_yes {base n : Int} (h1 : 1 ≤ n) (h2 : n ≤ 16) : fitsN base n = fitsB base n := by
  unfold fitsN; rw [decide_eq_true ⟨h1, h2⟩, Bool.true_and]
theorem batch_fits0 (base n : Int) (b0 : 0 ≤ base) (b1 : base < 18446744073709551616) : Does Tryz.prog 145 [uA base, iA n] [] (bA (fitsN base n)) [] := by
  refine Does.runA Tryz.func145 b145 n145 Tryz.ntmps145 ?_; simp only [c145, go_sem, Nat.reduceAdd, Nat.reduceMul, Int.reduceToNat, Nat.reduceLeDiff, Int.reduceLE, Int.reduceLT, ↓reduceIte, Int.reduceBEq, Int.reduceBNe, Int.reduceAdd, Int.reduceSub, Int.reduceMul]; try refine okTr_and rfl ?_
  by_cases h1 : 1 ≤ n
  · have q1 : decide (1 ≤ n) = true := decide_eq_true h1
    by_cases h2 : n ≤ 16
    · have q2 : decide (n ≤ 16) = true := decide_eq_true h2
      have w0 : IntKind.u64.wrap n = n := IntWalk.u64_in _ (by omega)
      have ey := fitsN_yes (base := base) h1 h2
      (simp only [go_sem, Nat.reduceAdd, Nat.reduceMul, Int.reduceToNat, Nat.reduceLeDiff, Int.reduceLE, Int.reduceLT, ↓reduceIte, Int.reduceBEq, Int.reduceBNe, Int.reduceAdd, Int.reduceSub, Int.reduceMul, q1, q2]; try refine okTr_and rfl ?_)
      refine CallK.p (epoch_Pos base) ?_
      by_cases h : base < 4611686018427387904
      · have e : epPos base = true := epPos_iff.2 h
        have w1 : IntKind.u64.wrap (base + n) = base + n := IntWalk.u64_in _ (by omega)
        have ef : decide (base + n ≤ 4611686018427387904) = fitsN base n := by rw [ey]; unfold fitsB; rw [decide_eq_true h]; rfl
        (simp only [go_sem, Nat.reduceAdd, Nat.reduceMul, Int.reduceToNat, Nat.reduceLeDiff, Int.reduceLE, Int.reduceLT, ↓reduceIte, Int.reduceBEq, Int.reduceBNe, Int.reduceAdd, Int.reduceSub, Int.reduceMul, e, w0, w1, ef]; try refine okTr_and rfl ?_)
        exact FinK.finA r145 []
      · have e : epPos base = false := by unfold epPos; exact decide_eq_false h
        have ef : fitsN base n = false := by rw [ey]; unfold fitsB; rw [decide_eq_false h]; rfl
        (simp only [go_sem, Nat.reduceAdd, Nat.reduceMul, Int.reduceToNat, Nat.reduceLeDiff, Int.reduceLE, Int.reduceLT, ↓reduceIte, Int.reduceBEq, Int.reduceBNe, Int.reduceAdd, Int.reduceSub, Int.reduceMul, e]; try refine okTr_and rfl ?_)
        ((refine FinK.finB r145 [] ?_ ?_); (· first | with_reducible rfl | (simp [ef]; done) | rfl); (· simp [resAL, resA1, loadA, oneOr, ef]))
    · have q2 : decide (n ≤ 16) = false := decide_eq_false h2
      have ef := fitsN_no (base := base) (n := n) (.inr (.inl (by omega)))
      (simp only [go_sem, Nat.reduceAdd, Nat.reduceMul, Int.reduceToNat, Nat.reduceLeDiff, Int.reduceLE, Int.reduceLT, ↓reduceIte, Int.reduceBEq, Int.reduceBNe, Int.reduceAdd, Int.reduceSub, Int.reduceMul, q1, q2]; try refine okTr_and rfl ?_)
      ((refine FinK.finB r145 [] ?_ ?_); (· first | with_reducible rfl | (simp [ef]; done) | rfl); (· simp [resAL, resA1, loadA, oneOr, ef]))
  · have q1 : decide (1 ≤ n) = false := decide_eq_false h1
    have ef := fitsN_no (base := base) (n := n) (.inl (by omega))
    (simp only [go_sem, Nat.reduceAdd, Nat.reduceMul, Int.reduceToNat, Nat.reduceLeDiff, Int.reduceLE, Int.reduceLT, ↓reduceIte, Int.reduceBEq, Int.reduceBNe, Int.reduceAdd, Int.reduceSub, Int.reduceMul, q1]; try refine okTr_and rfl ?_)
    ((refine FinK.finB r145 [] ?_ ?_); (· first | with_reducible rfl | (simp [ef]; done) | rfl); (· simp [resAL, resA1, loadA, oneOr, ef]))
theorem batch_fits (base n : Int) (b0 : 0 ≤ base) (b1 : base < 18446744073709551616) : Ct Tryz.prog 145 [uA base, iA n] [] (fun _ => bA (fitsN base n)) [] (fun _ => []) := (batch_fits0 base n b0 b1).toCt cl cl
theorem ref25_Fits0 (base n : Int) (b0 : 0 ≤ base) (b1 : base < 18446744073709551616) : Does Tryz.prog 139 [uA base, iA n] [] (bA (fitsN base n)) [] := by
  refine Does.runA Tryz.func139 b139 n139 Tryz.ntmps139 ?_; simp only [c139, go_sem, Nat.reduceAdd, Nat.reduceMul, Int.reduceToNat, Nat.reduceLeDiff, Int.reduceLE, Int.reduceLT, ↓reduceIte, Int.reduceBEq, Int.reduceBNe, Int.reduceAdd, Int.reduceSub, Int.reduceMul]; try refine okTr_and rfl ?_
  by_cases h1 : 1 ≤ n
  · have q1 : decide (1 ≤ n) = true := decide_eq_true h1
    by_cases h2 : n ≤ 16
    · have q2 : decide (n ≤ 16) = true := decide_eq_true h2
      have w0 : IntKind.u64.wrap n = n := IntWalk.u64_in _ (by omega)
      have ey := fitsN_yes (base := base) h1 h2
      (simp only [go_sem, Nat.reduceAdd, Nat.reduceMul, Int.reduceToNat, Nat.reduceLeDiff, Int.reduceLE, Int.reduceLT, ↓reduceIte, Int.reduceBEq, Int.reduceBNe, Int.reduceAdd, Int.reduceSub, Int.reduceMul, q1, q2]; try refine okTr_and rfl ?_)
      refine CallK.p (ref17_Pos base) ?_
      by_cases h : base < 4611686018427387904
      · have e : epPos base = true := epPos_iff.2 h
        have w1 : IntKind.u64.wrap (4611686018427387904 - base) = 4611686018427387904 - base := IntWalk.u64_in _ (by omega)
        have ef : decide (n ≤ 4611686018427387904 - base) = fitsN base n := by
          rw [ey]; unfold fitsB; rw [decide_eq_true h, Bool.true_and]
          by_cases h2 : n ≤ 4611686018427387904 - base
          · rw [decide_eq_true h2, decide_eq_true (by omega)]
          · rw [decide_eq_false h2, decide_eq_false (by omega)]
        (simp only [go_sem, Nat.reduceAdd, Nat.reduceMul, Int.reduceToNat, Nat.reduceLeDiff, Int.reduceLE, Int.reduceLT, ↓reduceIte, Int.reduceBEq, Int.reduceBNe, Int.reduceAdd, Int.reduceSub, Int.reduceMul, e, w0, w1, ef]; try refine okTr_and rfl ?_)
        exact FinK.finA r139 []
      · have e : epPos base = false := by unfold epPos; exact decide_eq_false h
        have ef : fitsN base n = false := by rw [ey]; unfold fitsB; rw [decide_eq_false h]; rfl
        (simp only [go_sem, Nat.reduceAdd, Nat.reduceMul, Int.reduceToNat, Nat.reduceLeDiff, Int.reduceLE, Int.reduceLT, ↓reduceIte, Int.reduceBEq, Int.reduceBNe, Int.reduceAdd, Int.reduceSub, Int.reduceMul, e]; try refine okTr_and rfl ?_)
        ((refine FinK.finB r139 [] ?_ ?_); (· first | with_reducible rfl | (simp [ef]; done) | rfl); (· simp [resAL, resA1, loadA, oneOr, ef]))
    · have q2 : decide (n ≤ 16) = false := decide_eq_false h2
      have ef := fitsN_no (base := base) (n := n) (.inr (.inl (by omega)))
      (simp only [go_sem, Nat.reduceAdd, Nat.reduceMul, Int.reduceToNat, Nat.reduceLeDiff, Int.reduceLE, Int.reduceLT, ↓reduceIte, Int.reduceBEq, Int.reduceBNe, Int.reduceAdd, Int.reduceSub, Int.reduceMul, q1, q2]; try refine okTr_and rfl ?_)
      ((refine FinK.finB r139 [] ?_ ?_); (· first | with_reducible rfl | (simp [ef]; done) | rfl); (· simp [resAL, resA1, loadA, oneOr, ef]))
  · have q1 : decide (1 ≤ n) = false := decide_eq_false h1
    have ef := fitsN_no (base := base) (n := n) (.inl (by omega))
    (simp only [go_sem, Nat.reduceAdd, Nat.reduceMul, Int.reduceToNat, Nat.reduceLeDiff, Int.reduceLE, Int.reduceLT, ↓reduceIte, Int.reduceBEq, Int.reduceBNe, Int.reduceAdd, Int.reduceSub, Int.reduceMul, q1]; try refine okTr_and rfl ?_)
    ((refine FinK.finB r139 [] ?_ ?_); (· first | with_reducible rfl | (simp [ef]; done) | rfl); (· simp [resAL, resA1, loadA, oneOr, ef]))
theorem ref25_Fits (base n : Int) (b0 : 0 ≤ base) (b1 : base < 18446744073709551616) : Ct Tryz.prog 139 [uA base, iA n] [] (fun _ => bA (fitsN base n)) [] (fun _ => []) := (ref25_Fits0 base n b0 b1).toCt cl cl
theorem rightB_no {b : Bt} (h : epRight b.ep = false ∨ fitsN b.base b.en.length = false ∨ 1048576 < (joinE b.en).length ∨ ∃ i, i < b.en.length ∧ rightE (b.base + i) (b.en.getD i en0) = false) : rightB b = false := by
  cases hr : rightB b with
  | false => rfl
  | true =>
    exfalso
    have h4 := (rightB_iff.1 hr).2.2.2
    unfold rightB at hr
    simp only [Bool.and_eq_true, decide_eq_true_eq] at hr
    obtain ⟨⟨⟨a, c⟩, d⟩, e⟩ := hr
    rcases h with h | h | h | ⟨i, hi, h⟩
    · rw [h] at a; cases a
    · rw [h] at c; cases c
    · omega
    · rw [h4 i hi] at h; cases h
theorem rightB_yes {b : Bt} (h1 : epRight b.ep = true) (h2 : fitsN b.base b.en.length = true) (h3 : (joinE b.en).length ≤ 1048576) (h4 : ∀ i, i < b.en.length → rightE (b.base + i) (b.en.getD i en0) = true) : rightB b = true := by
  unfold rightB
  simp only [Bool.and_eq_true, decide_eq_true_eq, List.all_eq_true, List.mem_range]
  exact ⟨⟨⟨h1, h2⟩, h3⟩, h4⟩
set_option maxHeartbeats 1000000 in
set_option maxRecDepth 100000 in
theorem batch_Right0 (b : Bt) (hb : b.ok) (hs : SmallB b) : Does Tryz.prog 96 [btA b] [] (bA (rightB b)) [] := by
  obtain ⟨n1, he, s1⟩ := hs
  refine Does.runA Tryz.func96 b96 n96 Tryz.ntmps96 ?_; simp only [c96, go_sem, Nat.reduceAdd, Nat.reduceMul, Int.reduceToNat, Nat.reduceLeDiff, Int.reduceLE, Int.reduceLT, ↓reduceIte, Int.reduceBEq, Int.reduceBNe, Int.reduceAdd, Int.reduceSub, Int.reduceMul]; try refine okTr_and rfl ?_
  refine CallK.p (epoch_Right b.ep) ?_
  cases h1 : epRight b.ep with
  | false =>
    have e := rightB_no (b := b) (.inl h1)
    (simp only [go_sem, Nat.reduceAdd, Nat.reduceMul, Int.reduceToNat, Nat.reduceLeDiff, Int.reduceLE, Int.reduceLT, ↓reduceIte, Int.reduceBEq, Int.reduceBNe, Int.reduceAdd, Int.reduceSub, Int.reduceMul, h1]; try refine okTr_and rfl ?_)
    ((refine FinK.finB r96 [] ?_ ?_); (· first | with_reducible rfl | (simp [e]; done) | rfl); (· simp [resAL, resA1, loadA, oneOr, e]))
  | true =>
    (simp only [go_sem, Nat.reduceAdd, Nat.reduceMul, Int.reduceToNat, Nat.reduceLeDiff, Int.reduceLE, Int.reduceLT, ↓reduceIte, Int.reduceBEq, Int.reduceBNe, Int.reduceAdd, Int.reduceSub, Int.reduceMul, h1, ens_length]; try refine okTr_and rfl ?_)
    refine CallK.p (batch_fits b.base b.en.length hb.b0 hb.b1) ?_
    cases h2 : fitsN b.base b.en.length with
    | false =>
      have e := rightB_no (b := b) (.inr (.inl h2))
      (simp only [go_sem, Nat.reduceAdd, Nat.reduceMul, Int.reduceToNat, Nat.reduceLeDiff, Int.reduceLE, Int.reduceLT, ↓reduceIte, Int.reduceBEq, Int.reduceBNe, Int.reduceAdd, Int.reduceSub, Int.reduceMul, h2]; try refine okTr_and rfl ?_)
      ((refine FinK.finB r96 [] ?_ ?_); (· first | with_reducible rfl | (simp [e]; done) | rfl); (· simp [resAL, resA1, loadA, oneOr, e]))
    | true =>
      obtain ⟨⟨f0, f1⟩, f2, f3⟩ := fitsN_iff.1 h2
      (simp only [go_sem, Nat.reduceAdd, Nat.reduceMul, Int.reduceToNat, Nat.reduceLeDiff, Int.reduceLE, Int.reduceLT, ↓reduceIte, Int.reduceBEq, Int.reduceBNe, Int.reduceAdd, Int.reduceSub, Int.reduceMul, h2]; try refine okTr_and rfl ?_)
      refine CallK.p (entry_Total b.en n1 (by omega)) ?_
      by_cases h3 : (joinE b.en).length ≤ 1048576
      · have q3 : decide (1048576 < ((joinE b.en).length : Int)) = false := decide_eq_false (by omega)
        (simp only [go_sem, Nat.reduceAdd, Nat.reduceMul, Int.reduceToNat, Nat.reduceLeDiff, Int.reduceLE, Int.reduceLT, ↓reduceIte, Int.reduceBEq, Int.reduceBNe, Int.reduceAdd, Int.reduceSub, Int.reduceMul, q3, ens_length]; try refine okTr_and rfl ?_)
        refine loop_of (α := Nat) (fun k => [.any, .ref 0 0, .any, .any, .any, .any, .any, .any, .any, .any, .any, .any, .any, .any, .any, .any, .any, .any, .any, .any, .any, .any, .any, .any, .any, slE b.en, iA b.en.length, iA k, .any, .any, .any, .any, .any, .any, .any, .any, .any, .any, .any, .any, .any]) (fun _ => [btO b]) (fun k => k ≤ b.en.length ∧ ∀ i, i < k → rightE (b.base + i) (b.en.getD i en0) = true) (fun k => b.en.length - k) 0 ⟨by simp, fun i hi => by omega⟩ (Wk.to (by simp) (by simp [leT])) ?_
        rintro k ⟨hk, hall⟩
        (simp only [go_sem, Nat.reduceAdd, Nat.reduceMul, Int.reduceToNat, Nat.reduceLeDiff, Int.reduceLE, Int.reduceLT, ↓reduceIte, Int.reduceBEq, Int.reduceBNe, Int.reduceAdd, Int.reduceSub, Int.reduceMul, ens_length]; try refine okTr_and rfl ?_)
        by_cases hlt : k < b.en.length
        · have q1 : decide ((k : Int) < (b.en.length : Int)) = true := decide_eq_true (by omega)
          have ek := i64_succ k (by omega)
          have g := ens_get b.en k hlt
          have b0 := hb.b0
          have wk : IntKind.u64.wrap (k : Int) = k := IntWalk.u64_in _ (by omega)
          have wp : IntKind.u64.wrap (b.base + (k : Int)) = b.base + k := IntWalk.u64_in _ (by omega)
          have hm := en_mem b.en k hlt
          have hc := entry_Right (b.base + k) (b.en.getD k en0) (hb.en _ hm) (he _ hm) (by omega) (by omega)
          (simp only [go_sem, Nat.reduceAdd, Nat.reduceMul, Int.reduceToNat, Nat.reduceLeDiff, Int.reduceLE, Int.reduceLT, ↓reduceIte, Int.reduceBEq, Int.reduceBNe, Int.reduceAdd, Int.reduceSub, Int.reduceMul, q1, g, ens_length, Int.toNat_natCast, wk, wp]; try refine okTr_and rfl ?_)
          (repeat ((with_reducible refine And.intro ?_ ?_); (· exact sd)))
          refine CallK.p (hc) ?_
          cases hq : rightE (b.base + k) (b.en.getD k en0) with
          | true =>
            (simp only [go_sem, Nat.reduceAdd, Nat.reduceMul, Int.reduceToNat, Nat.reduceLeDiff, Int.reduceLE, Int.reduceLT, ↓reduceIte, Int.reduceBEq, Int.reduceBNe, Int.reduceAdd, Int.reduceSub, Int.reduceMul, ek]; try refine okTr_and rfl ?_)
            (repeat ((with_reducible refine And.intro ?_ ?_); (· exact sd)))
            exact ⟨k + 1, ⟨hlt, fun i hi => by
              rcases Nat.lt_or_ge i k with h | h
              · exact hall i h
              · obtain rfl : i = k := by omega
                exact hq⟩, by omega, Wk.sel [0] (by simp) rfl (by simp) rfl (by simp [ixs_z]) (by simp [selT, ixs_z])⟩
          | false =>
            have e := rightB_no (b := b) (.inr (.inr (.inr ⟨k, hlt, hq⟩)))
            (simp only [go_sem, Nat.reduceAdd, Nat.reduceMul, Int.reduceToNat, Nat.reduceLeDiff, Int.reduceLE, Int.reduceLT, ↓reduceIte, Int.reduceBEq, Int.reduceBNe, Int.reduceAdd, Int.reduceSub, Int.reduceMul]; try refine okTr_and rfl ?_)
            (repeat ((with_reducible refine And.intro ?_ ?_); (· exact sd)))
            ((refine FinK.finB r96 [] ?_ ?_); (· first | with_reducible rfl | (simp [e]; done) | rfl); (· simp [resAL, resA1, loadA, oneOr, e]))
        · have q1 : decide ((k : Int) < (b.en.length : Int)) = false := decide_eq_false (by omega)
          have e := rightB_yes h1 h2 h3 fun i hi => hall i (by omega)
          (simp only [go_sem, Nat.reduceAdd, Nat.reduceMul, Int.reduceToNat, Nat.reduceLeDiff, Int.reduceLE, Int.reduceLT, ↓reduceIte, Int.reduceBEq, Int.reduceBNe, Int.reduceAdd, Int.reduceSub, Int.reduceMul, q1]; try refine okTr_and rfl ?_)
          ((refine FinK.finB r96 [] ?_ ?_); (· first | with_reducible rfl | (simp [e]; done) | rfl); (· simp [resAL, resA1, loadA, oneOr, e]))
      · have q3 : decide (1048576 < ((joinE b.en).length : Int)) = true := decide_eq_true (by omega)
        have e := rightB_no (b := b) (.inr (.inr (.inl (by omega))))
        (simp only [go_sem, Nat.reduceAdd, Nat.reduceMul, Int.reduceToNat, Nat.reduceLeDiff, Int.reduceLE, Int.reduceLT, ↓reduceIte, Int.reduceBEq, Int.reduceBNe, Int.reduceAdd, Int.reduceSub, Int.reduceMul, q3]; try refine okTr_and rfl ?_)
        ((refine FinK.finB r96 [] ?_ ?_); (· first | with_reducible rfl | (simp [e]; done) | rfl); (· simp [resAL, resA1, loadA, oneOr, e]))
theorem batch_Right (b : Bt) (hb : b.ok) (hs : SmallB b) : Ct Tryz.prog 96 [btA b] [] (fun _ => bA (rightB b)) [] (fun _ => []) := (batch_Right0 b hb hs).toCt cl cl
set_option maxHeartbeats 1000000 in
set_option maxRecDepth 100000 in
theorem ref25_Right0 (b : Bt) (hb : b.ok) (hs : SmallB b) : Does Tryz.prog 88 [btA b] [] (bA (rightB b)) [] := by
  obtain ⟨n1, he, s1⟩ := hs
  refine Does.runA Tryz.func88 b88 n88 Tryz.ntmps88 ?_; simp only [c88, go_sem, Nat.reduceAdd, Nat.reduceMul, Int.reduceToNat, Nat.reduceLeDiff, Int.reduceLE, Int.reduceLT, ↓reduceIte, Int.reduceBEq, Int.reduceBNe, Int.reduceAdd, Int.reduceSub, Int.reduceMul]; try refine okTr_and rfl ?_
  refine CallK.p (ref17_Right b.ep) ?_
  cases h1 : epRight b.ep with
  | false =>
    have e := rightB_no (b := b) (.inl h1)
    (simp only [go_sem, Nat.reduceAdd, Nat.reduceMul, Int.reduceToNat, Nat.reduceLeDiff, Int.reduceLE, Int.reduceLT, ↓reduceIte, Int.reduceBEq, Int.reduceBNe, Int.reduceAdd, Int.reduceSub, Int.reduceMul, h1]; try refine okTr_and rfl ?_)
    ((refine FinK.finB r88 [] ?_ ?_); (· first | with_reducible rfl | (simp [e]; done) | rfl); (· simp [resAL, resA1, loadA, oneOr, e]))
  | true =>
    (simp only [go_sem, Nat.reduceAdd, Nat.reduceMul, Int.reduceToNat, Nat.reduceLeDiff, Int.reduceLE, Int.reduceLT, ↓reduceIte, Int.reduceBEq, Int.reduceBNe, Int.reduceAdd, Int.reduceSub, Int.reduceMul, h1, ens_length]; try refine okTr_and rfl ?_)
    refine CallK.p (ref25_Fits b.base b.en.length hb.b0 hb.b1) ?_
    cases h2 : fitsN b.base b.en.length with
    | false =>
      have e := rightB_no (b := b) (.inr (.inl h2))
      (simp only [go_sem, Nat.reduceAdd, Nat.reduceMul, Int.reduceToNat, Nat.reduceLeDiff, Int.reduceLE, Int.reduceLT, ↓reduceIte, Int.reduceBEq, Int.reduceBNe, Int.reduceAdd, Int.reduceSub, Int.reduceMul, h2]; try refine okTr_and rfl ?_)
      ((refine FinK.finB r88 [] ?_ ?_); (· first | with_reducible rfl | (simp [e]; done) | rfl); (· simp [resAL, resA1, loadA, oneOr, e]))
    | true =>
      obtain ⟨⟨f0, f1⟩, f2, f3⟩ := fitsN_iff.1 h2
      (simp only [go_sem, Nat.reduceAdd, Nat.reduceMul, Int.reduceToNat, Nat.reduceLeDiff, Int.reduceLE, Int.reduceLT, ↓reduceIte, Int.reduceBEq, Int.reduceBNe, Int.reduceAdd, Int.reduceSub, Int.reduceMul, h2]; try refine okTr_and rfl ?_)
      refine CallK.n (ref24_Join b.en n1 s1) ?_; (simp only [go_sem, Nat.reduceAdd, Nat.reduceMul, Int.reduceToNat, Nat.reduceLeDiff, Int.reduceLE, Int.reduceLT, ↓reduceIte, Int.reduceBEq, Int.reduceBNe, Int.reduceAdd, Int.reduceSub, Int.reduceMul, ints_length]; try refine okTr_and rfl ?_)
      by_cases h3 : (joinE b.en).length ≤ 1048576
      · have q3 : decide (1048576 < ((joinE b.en).length : Int)) = false := decide_eq_false (by omega)
        (simp only [go_sem, Nat.reduceAdd, Nat.reduceMul, Int.reduceToNat, Nat.reduceLeDiff, Int.reduceLE, Int.reduceLT, ↓reduceIte, Int.reduceBEq, Int.reduceBNe, Int.reduceAdd, Int.reduceSub, Int.reduceMul, q3, ens_length]; try refine okTr_and rfl ?_)
        refine loop_of (α := Nat) (fun k => [.any, .ref 0 0, .any, iA k, .any, .any, .any, .any, .any, .any, .any, .any, .any, .any, .any, .any, .any, .any, .any, .any, .any, .any, .any, .any, .any, .any, .any, .any, .any, .any, .any, .any, .any, .any, .any, .any, .any, .any, .any, .any, .any, .any, .any]) (fun _ => [btO b]) (fun k => k ≤ b.en.length ∧ ∀ i, i < k → rightE (b.base + i) (b.en.getD i en0) = true) (fun k => b.en.length - k) 0 ⟨by simp, fun i hi => by omega⟩ (Wk.sel [0] (by simp) rfl (by simp) rfl (by simp [ixs_z]) (by simp [selT, ixs_z])) ?_
        rintro k ⟨hk, hall⟩
        (simp only [go_sem, Nat.reduceAdd, Nat.reduceMul, Int.reduceToNat, Nat.reduceLeDiff, Int.reduceLE, Int.reduceLT, ↓reduceIte, Int.reduceBEq, Int.reduceBNe, Int.reduceAdd, Int.reduceSub, Int.reduceMul, ens_length]; try refine okTr_and rfl ?_)
        by_cases hlt : k < b.en.length
        · have q1 : decide ((k : Int) < (b.en.length : Int)) = true := decide_eq_true (by omega)
          have ek := i64_succ k (by omega)
          have g := ens_get b.en k hlt
          have b0 := hb.b0
          have wk : IntKind.u64.wrap (k : Int) = k := IntWalk.u64_in _ (by omega)
          have wp : IntKind.u64.wrap (b.base + (k : Int)) = b.base + k := IntWalk.u64_in _ (by omega)
          have hm := en_mem b.en k hlt
          have hc := ref24_Right (b.base + k) (b.en.getD k en0) (he _ hm)
          (simp only [go_sem, Nat.reduceAdd, Nat.reduceMul, Int.reduceToNat, Nat.reduceLeDiff, Int.reduceLE, Int.reduceLT, ↓reduceIte, Int.reduceBEq, Int.reduceBNe, Int.reduceAdd, Int.reduceSub, Int.reduceMul, q1, g, ens_length, Int.toNat_natCast, wk, wp]; try refine okTr_and rfl ?_)
          (repeat ((with_reducible refine And.intro ?_ ?_); (· exact sd)))
          refine CallK.p (hc) ?_
          cases hq : rightE (b.base + k) (b.en.getD k en0) with
          | true =>
            (simp only [go_sem, Nat.reduceAdd, Nat.reduceMul, Int.reduceToNat, Nat.reduceLeDiff, Int.reduceLE, Int.reduceLT, ↓reduceIte, Int.reduceBEq, Int.reduceBNe, Int.reduceAdd, Int.reduceSub, Int.reduceMul, ek]; try refine okTr_and rfl ?_)
            (repeat ((with_reducible refine And.intro ?_ ?_); (· exact sd)))
            exact ⟨k + 1, ⟨hlt, fun i hi => by
              rcases Nat.lt_or_ge i k with h | h
              · exact hall i h
              · obtain rfl : i = k := by omega
                exact hq⟩, by omega, Wk.sel [0] (by simp) rfl (by simp) rfl (by simp [ixs_z]) (by simp [selT, ixs_z])⟩
          | false =>
            have e := rightB_no (b := b) (.inr (.inr (.inr ⟨k, hlt, hq⟩)))
            (simp only [go_sem, Nat.reduceAdd, Nat.reduceMul, Int.reduceToNat, Nat.reduceLeDiff, Int.reduceLE, Int.reduceLT, ↓reduceIte, Int.reduceBEq, Int.reduceBNe, Int.reduceAdd, Int.reduceSub, Int.reduceMul]; try refine okTr_and rfl ?_)
            (repeat ((with_reducible refine And.intro ?_ ?_); (· exact sd)))
            ((refine FinK.finB r88 [] ?_ ?_); (· first | with_reducible rfl | (simp [e]; done) | rfl); (· simp [resAL, resA1, loadA, oneOr, e]))
        · have q1 : decide ((k : Int) < (b.en.length : Int)) = false := decide_eq_false (by omega)
          have e := rightB_yes h1 h2 h3 fun i hi => hall i (by omega)
          (simp only [go_sem, Nat.reduceAdd, Nat.reduceMul, Int.reduceToNat, Nat.reduceLeDiff, Int.reduceLE, Int.reduceLT, ↓reduceIte, Int.reduceBEq, Int.reduceBNe, Int.reduceAdd, Int.reduceSub, Int.reduceMul, q1]; try refine okTr_and rfl ?_)
          ((refine FinK.finB r88 [] ?_ ?_); (· first | with_reducible rfl | (simp [e]; done) | rfl); (· simp [resAL, resA1, loadA, oneOr, e]))
      · have q3 : decide (1048576 < ((joinE b.en).length : Int)) = true := decide_eq_true (by omega)
        have e := rightB_no (b := b) (.inr (.inr (.inl (by omega))))
        (simp only [go_sem, Nat.reduceAdd, Nat.reduceMul, Int.reduceToNat, Nat.reduceLeDiff, Int.reduceLE, Int.reduceLT, ↓reduceIte, Int.reduceBEq, Int.reduceBNe, Int.reduceAdd, Int.reduceSub, Int.reduceMul, q3]; try refine okTr_and rfl ?_)
        ((refine FinK.finB r88 [] ?_ ?_); (· first | with_reducible rfl | (simp [e]; done) | rfl); (· simp [resAL, resA1, loadA, oneOr, e]))
theorem ref25_Right (b : Bt) (hb : b.ok) (hs : SmallB b) : Ct Tryz.prog 88 [btA b] [] (fun _ => bA (rightB b)) [] (fun _ => []) := (ref25_Right0 b hb hs).toCt cl cl
theorem legacy_allLk0 (f : FuncId) (ok : Lk → Bool) (l : List Lk) (hf : ∀ k, k < l.length → Ct Tryz.prog f [iA k, lkA (l.getD k lk0)] [] (fun _ => bA (ok (l.getD k lk0))) [] (fun _ => [])) (hn : l.length ≤ 1000000) :
    Does Tryz.prog 143 [slL l, .fn f [] []] [] (bA (l.all ok)) [] := by
  refine Does.runA Tryz.func143 b143 n143 Tryz.ntmps143 ?_; simp only [c143, go_sem, Nat.reduceAdd, Nat.reduceMul, Int.reduceToNat, Nat.reduceLeDiff, Int.reduceLE, Int.reduceLT, ↓reduceIte, Int.reduceBEq, Int.reduceBNe, Int.reduceAdd, Int.reduceSub, Int.reduceMul, lks_length]; try refine okTr_and rfl ?_
  refine loop_of (α := Nat) (fun k => [slL l, .fn f [] [], .any, .any, .any, .any, .any, slL l, iA l.length, iA k, .any, .any, .any, .any, .any, .any, .any, .any, .any, .any]) (fun _ => []) (fun k => k ≤ l.length ∧ ∀ i, i < k → ok (l.getD i lk0) = true) (fun k => l.length - k) 0 ⟨by simp, fun i hi => by omega⟩ (Wk.to (by simp) (by simp [leT])) ?_
  rintro k ⟨hk, hall⟩
  (simp only [go_sem, Nat.reduceAdd, Nat.reduceMul, Int.reduceToNat, Nat.reduceLeDiff, Int.reduceLE, Int.reduceLT, ↓reduceIte, Int.reduceBEq, Int.reduceBNe, Int.reduceAdd, Int.reduceSub, Int.reduceMul]; try refine okTr_and rfl ?_)
  by_cases hlt : k < l.length
  · have q1 : decide ((k : Int) < (l.length : Int)) = true := decide_eq_true (by omega)
    have ek := i64_succ k (by omega)
    have g := lks_get l k hlt
    have hfx := hf k hlt
    (simp only [go_sem, Nat.reduceAdd, Nat.reduceMul, Int.reduceToNat, Nat.reduceLeDiff, Int.reduceLE, Int.reduceLT, ↓reduceIte, Int.reduceBEq, Int.reduceBNe, Int.reduceAdd, Int.reduceSub, Int.reduceMul, q1, g, lks_length, Int.toNat_natCast]; try refine okTr_and rfl ?_)
    (repeat ((with_reducible refine And.intro ?_ ?_); (· exact sd)))
    refine CallK.p (hfx) ?_
    cases hs : ok (l.getD k lk0) with
    | false =>
      have e : l.all ok = false := by
        rw [List.all_eq_false]
        exact ⟨l.getD k lk0, by simp [hlt], by rw [hs]; decide⟩
      (simp only [go_sem, Nat.reduceAdd, Nat.reduceMul, Int.reduceToNat, Nat.reduceLeDiff, Int.reduceLE, Int.reduceLT, ↓reduceIte, Int.reduceBEq, Int.reduceBNe, Int.reduceAdd, Int.reduceSub, Int.reduceMul, hs]; try refine okTr_and rfl ?_)
      ((refine FinK.finB r143 [] ?_ ?_); (· first | with_reducible rfl | (simp [e]; done) | rfl); (· simp [resAL, resA1, loadA, oneOr, e]))
    | true =>
      (simp only [go_sem, Nat.reduceAdd, Nat.reduceMul, Int.reduceToNat, Nat.reduceLeDiff, Int.reduceLE, Int.reduceLT, ↓reduceIte, Int.reduceBEq, Int.reduceBNe, Int.reduceAdd, Int.reduceSub, Int.reduceMul, hs, ek]; try refine okTr_and rfl ?_)
      exact ⟨k + 1, ⟨hlt, fun i hi => by
        rcases Nat.lt_or_ge i k with h | h
        · exact hall i h
        · obtain rfl : i = k := by omega
          exact hs⟩, by omega, Wk.sel [] (by simp) rfl (by simp) rfl (by simp) (by simp [selT, ixs_z])⟩
  · have q1 : decide ((k : Int) < (l.length : Int)) = false := decide_eq_false (by omega)
    have e : l.all ok = true := by
      rw [List.all_eq_true]
      intro x hx
      obtain ⟨i, hi, rfl⟩ := List.getElem_of_mem hx
      have := hall i (by omega)
      simpa [hi] using this
    (simp only [go_sem, Nat.reduceAdd, Nat.reduceMul, Int.reduceToNat, Nat.reduceLeDiff, Int.reduceLE, Int.reduceLT, ↓reduceIte, Int.reduceBEq, Int.reduceBNe, Int.reduceAdd, Int.reduceSub, Int.reduceMul, q1]; try refine okTr_and rfl ?_)
    ((refine FinK.finB r143 [] ?_ ?_); (· first | with_reducible rfl | (simp [e]; done) | rfl); (· simp [resAL, resA1, loadA, oneOr, e]))
theorem legacy_allLk (f : FuncId) (ok : Lk → Bool) (l : List Lk) (hf : ∀ k, k < l.length → Ct Tryz.prog f [iA k, lkA (l.getD k lk0)] [] (fun _ => bA (ok (l.getD k lk0))) [] (fun _ => [])) (hn : l.length ≤ 1000000) :
    Ct Tryz.prog 143 [slL l, .fn f [] []] [] (fun _ => bA (l.all ok)) [] (fun _ => []) := (legacy_allLk0 f ok l hf hn).toCt cl cl
theorem legacy_allEn0 (f : FuncId) (ok : En → Bool) (l : List En) (hf : ∀ k, k < l.length → Ct Tryz.prog f [iA k, enA (l.getD k en0)] [] (fun _ => bA (ok (l.getD k en0))) [] (fun _ => [])) (hn : l.length ≤ 1000000) :
    Does Tryz.prog 93 [slE l, .fn f [] []] [] (bA (l.all ok)) [] := by
  refine Does.runA Tryz.func93 b93 n93 Tryz.ntmps93 ?_; simp only [c93, go_sem, Nat.reduceAdd, Nat.reduceMul, Int.reduceToNat, Nat.reduceLeDiff, Int.reduceLE, Int.reduceLT, ↓reduceIte, Int.reduceBEq, Int.reduceBNe, Int.reduceAdd, Int.reduceSub, Int.reduceMul, ens_length]; try refine okTr_and rfl ?_
  refine loop_of (α := Nat) (fun k => [slE l, .fn f [] [], .any, .any, .any, .any, .any, slE l, iA l.length, iA k, .any, .any, .any, .any, .any, .any, .any, .any, .any, .any]) (fun _ => []) (fun k => k ≤ l.length ∧ ∀ i, i < k → ok (l.getD i en0) = true) (fun k => l.length - k) 0 ⟨by simp, fun i hi => by omega⟩ (Wk.to (by simp) (by simp [leT])) ?_
  rintro k ⟨hk, hall⟩
  (simp only [go_sem, Nat.reduceAdd, Nat.reduceMul, Int.reduceToNat, Nat.reduceLeDiff, Int.reduceLE, Int.reduceLT, ↓reduceIte, Int.reduceBEq, Int.reduceBNe, Int.reduceAdd, Int.reduceSub, Int.reduceMul]; try refine okTr_and rfl ?_)
  by_cases hlt : k < l.length
  · have q1 : decide ((k : Int) < (l.length : Int)) = true := decide_eq_true (by omega)
    have ek := i64_succ k (by omega)
    have g := ens_get l k hlt
    have hfx := hf k hlt
    (simp only [go_sem, Nat.reduceAdd, Nat.reduceMul, Int.reduceToNat, Nat.reduceLeDiff, Int.reduceLE, Int.reduceLT, ↓reduceIte, Int.reduceBEq, Int.reduceBNe, Int.reduceAdd, Int.reduceSub, Int.reduceMul, q1, g, ens_length, Int.toNat_natCast]; try refine okTr_and rfl ?_)
    (repeat ((with_reducible refine And.intro ?_ ?_); (· exact sd)))
    refine CallK.p (hfx) ?_
    cases hs : ok (l.getD k en0) with
    | false =>
      have e : l.all ok = false := by
        rw [List.all_eq_false]
        exact ⟨l.getD k en0, by simp [hlt], by rw [hs]; decide⟩
      (simp only [go_sem, Nat.reduceAdd, Nat.reduceMul, Int.reduceToNat, Nat.reduceLeDiff, Int.reduceLE, Int.reduceLT, ↓reduceIte, Int.reduceBEq, Int.reduceBNe, Int.reduceAdd, Int.reduceSub, Int.reduceMul, hs]; try refine okTr_and rfl ?_)
      ((refine FinK.finB r93 [] ?_ ?_); (· first | with_reducible rfl | (simp [e]; done) | rfl); (· simp [resAL, resA1, loadA, oneOr, e]))
    | true =>
      (simp only [go_sem, Nat.reduceAdd, Nat.reduceMul, Int.reduceToNat, Nat.reduceLeDiff, Int.reduceLE, Int.reduceLT, ↓reduceIte, Int.reduceBEq, Int.reduceBNe, Int.reduceAdd, Int.reduceSub, Int.reduceMul, hs, ek]; try refine okTr_and rfl ?_)
      exact ⟨k + 1, ⟨hlt, fun i hi => by
        rcases Nat.lt_or_ge i k with h | h
        · exact hall i h
        · obtain rfl : i = k := by omega
          exact hs⟩, by omega, Wk.sel [] (by simp) rfl (by simp) rfl (by simp) (by simp [selT, ixs_z])⟩
  · have q1 : decide ((k : Int) < (l.length : Int)) = false := decide_eq_false (by omega)
    have e : l.all ok = true := by
      rw [List.all_eq_true]
      intro x hx
      obtain ⟨i, hi, rfl⟩ := List.getElem_of_mem hx
      have := hall i (by omega)
      simpa [hi] using this
    (simp only [go_sem, Nat.reduceAdd, Nat.reduceMul, Int.reduceToNat, Nat.reduceLeDiff, Int.reduceLE, Int.reduceLT, ↓reduceIte, Int.reduceBEq, Int.reduceBNe, Int.reduceAdd, Int.reduceSub, Int.reduceMul, q1]; try refine okTr_and rfl ?_)
    ((refine FinK.finB r93 [] ?_ ?_); (· first | with_reducible rfl | (simp [e]; done) | rfl); (· simp [resAL, resA1, loadA, oneOr, e]))
theorem legacy_allEn (f : FuncId) (ok : En → Bool) (l : List En) (hf : ∀ k, k < l.length → Ct Tryz.prog f [iA k, enA (l.getD k en0)] [] (fun _ => bA (ok (l.getD k en0))) [] (fun _ => [])) (hn : l.length ≤ 1000000) :
    Ct Tryz.prog 93 [slE l, .fn f [] []] [] (fun _ => bA (l.all ok)) [] (fun _ => []) := (legacy_allEn0 f ok l hf hn).toCt cl cl
theorem legacy_single10 (k : Int) (x : Lk) : Does Tryz.prog 144 [iA k, lkA x] [] (bA (decide (x.bk.length ≤ 1))) [] := by
  have e : decide ((x.bk.length : Int) ≤ 1) = decide (x.bk.length ≤ 1) := by rw [Bool.eq_iff_iff, decide_eq_true_eq, decide_eq_true_eq]; omega
  refine Does.runA Tryz.func144 b144 n144 Tryz.ntmps144 ?_; simp only [c144, go_sem, Nat.reduceAdd, Nat.reduceMul, Int.reduceToNat, Nat.reduceLeDiff, Int.reduceLE, Int.reduceLT, ↓reduceIte, Int.reduceBEq, Int.reduceBNe, Int.reduceAdd, Int.reduceSub, Int.reduceMul, ints_length, e]; try refine okTr_and rfl ?_
  exact FinK.finA r144 []
theorem legacy_single1 (k : Int) (x : Lk) : Ct Tryz.prog 144 [iA k, lkA x] [] (fun _ => bA (decide (x.bk.length ≤ 1))) [] (fun _ => []) := (legacy_single10 k x).toCt cl cl
theorem legacy_single0 (l : List Lk) (hn : l.length ≤ 1000000) : Does Tryz.prog 95 [slL l] [] (bA (singleL l)) [] := by
  have e : (l.all fun x => decide (x.bk.length ≤ 1)) = singleL l := rfl
  refine Does.runA Tryz.func95 b95 n95 Tryz.ntmps95 ?_; simp only [c95, go_sem, Nat.reduceAdd, Nat.reduceMul, Int.reduceToNat, Nat.reduceLeDiff, Int.reduceLE, Int.reduceLT, ↓reduceIte, Int.reduceBEq, Int.reduceBNe, Int.reduceAdd, Int.reduceSub, Int.reduceMul]; try refine okTr_and rfl ?_
  refine CallK.p (legacy_allLk 144 (fun x => decide (x.bk.length ≤ 1)) l (fun k hk => legacy_single1 _ _) hn) ?_; (simp only [go_sem, Nat.reduceAdd, Nat.reduceMul, Int.reduceToNat, Nat.reduceLeDiff, Int.reduceLE, Int.reduceLT, ↓reduceIte, Int.reduceBEq, Int.reduceBNe, Int.reduceAdd, Int.reduceSub, Int.reduceMul, e]; try refine okTr_and rfl ?_)
  exact FinK.finA r95 []
theorem legacy_single (l : List Lk) (hn : l.length ≤ 1000000) : Ct Tryz.prog 95 [slL l] [] (fun _ => bA (singleL l)) [] (fun _ => []) := (legacy_single0 l hn).toCt cl cl
theorem ref35_single0 (l : List Lk) (hn : l.length ≤ 1000000) : Does Tryz.prog 89 [slL l] [] (bA (singleL l)) [] := by
  refine Does.runA Tryz.func89 b89 n89 Tryz.ntmps89 ?_; simp only [c89, go_sem, Nat.reduceAdd, Nat.reduceMul, Int.reduceToNat, Nat.reduceLeDiff, Int.reduceLE, Int.reduceLT, ↓reduceIte, Int.reduceBEq, Int.reduceBNe, Int.reduceAdd, Int.reduceSub, Int.reduceMul, lks_length]; try refine okTr_and rfl ?_
  refine loop_of (α := Nat) (fun k => [slL l, .any, .any, iA k, .any, .any, .any, .any, .any, .any, .any, .any, .any, .any, .any, .any, .any]) (fun _ => []) (fun k => k ≤ l.length ∧ ∀ i, i < k → (l.getD i lk0).bk.length ≤ 1) (fun k => l.length - k) 0 ⟨by simp, fun i hi => by omega⟩ (Wk.to (by simp) (by simp [leT])) ?_
  rintro k ⟨hk, hall⟩
  (simp only [go_sem, Nat.reduceAdd, Nat.reduceMul, Int.reduceToNat, Nat.reduceLeDiff, Int.reduceLE, Int.reduceLT, ↓reduceIte, Int.reduceBEq, Int.reduceBNe, Int.reduceAdd, Int.reduceSub, Int.reduceMul, lks_length]; try refine okTr_and rfl ?_)
  by_cases hlt : k < l.length
  · have q1 : decide ((k : Int) < (l.length : Int)) = true := decide_eq_true (by omega)
    have ek := i64_succ k (by omega)
    have g := lks_get l k hlt
    by_cases h : (l.getD k lk0).bk.length ≤ 1
    · have q2 : decide (1 < ((l.getD k lk0).bk.length : Int)) = false := decide_eq_false (by omega)
      (simp only [go_sem, Nat.reduceAdd, Nat.reduceMul, Int.reduceToNat, Nat.reduceLeDiff, Int.reduceLE, Int.reduceLT, ↓reduceIte, Int.reduceBEq, Int.reduceBNe, Int.reduceAdd, Int.reduceSub, Int.reduceMul, q1, g, lks_length, Int.toNat_natCast, ints_length, q2, ek]; try refine okTr_and rfl ?_)
      (repeat ((with_reducible refine And.intro ?_ ?_); (· exact sd)))
      exact ⟨k + 1, ⟨hlt, fun i hi => by
        rcases Nat.lt_or_ge i k with h' | h'
        · exact hall i h'
        · obtain rfl : i = k := by omega
          exact h⟩, by omega, Wk.to (by simp) (by simp [leT])⟩
    · have q2 : decide (1 < ((l.getD k lk0).bk.length : Int)) = true := decide_eq_true (by omega)
      have e : singleL l = false := by
        unfold singleL
        rw [List.all_eq_false]
        exact ⟨l.getD k lk0, lk_mem l k hlt, by simpa using h⟩
      (simp only [go_sem, Nat.reduceAdd, Nat.reduceMul, Int.reduceToNat, Nat.reduceLeDiff, Int.reduceLE, Int.reduceLT, ↓reduceIte, Int.reduceBEq, Int.reduceBNe, Int.reduceAdd, Int.reduceSub, Int.reduceMul, q1, g, lks_length, Int.toNat_natCast, ints_length, q2]; try refine okTr_and rfl ?_)
      (repeat ((with_reducible refine And.intro ?_ ?_); (· exact sd)))
      ((refine FinK.finB r89 [] ?_ ?_); (· first | with_reducible rfl | (simp [e]; done) | rfl); (· simp [resAL, resA1, loadA, oneOr, e]))
  · have q1 : decide ((k : Int) < (l.length : Int)) = false := decide_eq_false (by omega)
    have e : singleL l = true := by
      unfold singleL
      rw [List.all_eq_true]
      intro x hx
      obtain ⟨i, hi, rfl⟩ := List.getElem_of_mem hx
      have := hall i (by omega)
      simp only [decide_eq_true_eq]
      simpa [hi] using this
    (simp only [go_sem, Nat.reduceAdd, Nat.reduceMul, Int.reduceToNat, Nat.reduceLeDiff, Int.reduceLE, Int.reduceLT, ↓reduceIte, Int.reduceBEq, Int.reduceBNe, Int.reduceAdd, Int.reduceSub, Int.reduceMul, q1]; try refine okTr_and rfl ?_)
    ((refine FinK.finB r89 [] ?_ ?_); (· first | with_reducible rfl | (simp [e]; done) | rfl); (· simp [resAL, resA1, loadA, oneOr, e]))
theorem ref35_single (l : List Lk) (hn : l.length ≤ 1000000) : Ct Tryz.prog 89 [slL l] [] (fun _ => bA (singleL l)) [] (fun _ => []) := (ref35_single0 l hn).toCt cl cl
theorem legacy_Right2110 (k : Int) (e : En) (hn : e.lk.length ≤ 1000000) : Does Tryz.prog 94 [iA k, enA e] [] (bA (singleL e.lk)) [] := by
  refine Does.runA Tryz.func94 b94 n94 Tryz.ntmps94 ?_; simp only [c94, go_sem, Nat.reduceAdd, Nat.reduceMul, Int.reduceToNat, Nat.reduceLeDiff, Int.reduceLE, Int.reduceLT, ↓reduceIte, Int.reduceBEq, Int.reduceBNe, Int.reduceAdd, Int.reduceSub, Int.reduceMul]; try refine okTr_and rfl ?_
  refine CallK.p (legacy_single e.lk hn) ?_; (simp only [go_sem, Nat.reduceAdd, Nat.reduceMul, Int.reduceToNat, Nat.reduceLeDiff, Int.reduceLE, Int.reduceLT, ↓reduceIte, Int.reduceBEq, Int.reduceBNe, Int.reduceAdd, Int.reduceSub, Int.reduceMul]; try refine okTr_and rfl ?_)
  exact FinK.finA r94 []
theorem legacy_Right211 (k : Int) (e : En) (hn : e.lk.length ≤ 1000000) : Ct Tryz.prog 94 [iA k, enA e] [] (fun _ => bA (singleL e.lk)) [] (fun _ => []) := (legacy_Right2110 k e hn).toCt cl cl
theorem batch_End0 (b : Bt) (hn : b.en.length ≤ 1000000) (b0 : 0 ≤ b.base) (b1 : b.base + b.en.length < 18446744073709551616) : Does Tryz.prog 124 [btA b] [] (uA (b.base + b.en.length)) [] := by
  have w0 : IntKind.u64.wrap (b.en.length : Int) = b.en.length := IntWalk.u64_in _ (by omega)
  have w1 : IntKind.u64.wrap (b.base + (b.en.length : Int)) = b.base + b.en.length := IntWalk.u64_in _ (by omega)
  refine Does.runA Tryz.func124 b124 n124 Tryz.ntmps124 ?_; simp only [c124, go_sem, Nat.reduceAdd, Nat.reduceMul, Int.reduceToNat, Nat.reduceLeDiff, Int.reduceLE, Int.reduceLT, ↓reduceIte, Int.reduceBEq, Int.reduceBNe, Int.reduceAdd, Int.reduceSub, Int.reduceMul, ens_length, w0, w1]; try refine okTr_and rfl ?_
  exact FinK.finA r124 []
theorem batch_End (b : Bt) (hn : b.en.length ≤ 1000000) (b0 : 0 ≤ b.base) (b1 : b.base + b.en.length < 18446744073709551616) : Ct Tryz.prog 124 [btA b] [] (fun _ => uA (b.base + b.en.length)) [] (fun _ => []) := (batch_End0 b hn b0 b1).toCt cl cl
/-- The last of some batches ends within the numbers. -/
def Ends (acc : List Bt) : Prop := 0 < acc.length → (btLast acc).en.length ≤ 1000000 ∧ 0 ≤ (btLast acc).base ∧ (btLast acc).base + (btLast acc).en.length < 18446744073709551616
set_option maxRecDepth 100000 in
theorem legacy_follows0 (ep : Int) (acc : List Bt) (b : Bt) (hn : acc.length ≤ 1000000) (he : Ends acc) : Does Tryz.prog 58 [uA ep, slB acc, btA b] [] (bA (mayB ep acc b)) [] := by
  refine Does.runA Tryz.func58 b58 n58 Tryz.ntmps58 ?_; simp only [c58, go_sem, Nat.reduceAdd, Nat.reduceMul, Int.reduceToNat, Nat.reduceLeDiff, Int.reduceLE, Int.reduceLT, ↓reduceIte, Int.reduceBEq, Int.reduceBNe, Int.reduceAdd, Int.reduceSub, Int.reduceMul, bts_length]; try refine okTr_and rfl ?_
  by_cases h1 : b.ep ≤ ep
  · have q1 : decide (b.ep ≤ ep) = true := decide_eq_true h1
    by_cases h2 : acc.length = 0
    · have q2 : ((acc.length : Int) == 0) = true := by simp; exact List.eq_nil_of_length_eq_zero h2
      have e : mayB ep acc b = true := by unfold mayB; rw [q1, decide_eq_true h2]; rfl
      (simp only [go_sem, Nat.reduceAdd, Nat.reduceMul, Int.reduceToNat, Nat.reduceLeDiff, Int.reduceLE, Int.reduceLT, ↓reduceIte, Int.reduceBEq, Int.reduceBNe, Int.reduceAdd, Int.reduceSub, Int.reduceMul, q1, q2]; try refine okTr_and rfl ?_)
      ((refine FinK.finB r58 [] ?_ ?_); (· first | with_reducible rfl | (simp [e]; done) | rfl); (· simp [resAL, resA1, loadA, oneOr, e]))
    · have q2 : ((acc.length : Int) == 0) = false := by
        rw [Bool.eq_false_iff]; intro hh; rw [beq_iff_eq] at hh; omega
      obtain ⟨e1, e2, e3⟩ := he (by omega)
      have ep1 := i64_pred acc.length (by omega) (by omega)
      have g : (bts acc).getD (acc.length - 1) .any = btA (btLast acc) := bts_get acc (acc.length - 1) (by omega)
      have ey : mayB ep acc b = (decide ((btLast acc).ep ≤ b.ep) && decide ((btLast acc).base + (btLast acc).en.length ≤ b.base)) := by unfold mayB; rw [q1, decide_eq_false h2]; rfl
      have hE := batch_End (btLast acc) e1 e2 e3
      obtain ⟨L, hL⟩ : ∃ L, btLast acc = L := ⟨_, rfl⟩
      rw [hL] at g ey hE
      by_cases h3 : L.ep ≤ b.ep
      · have q3 : decide (L.ep ≤ b.ep) = true := decide_eq_true h3
        rw [q3, Bool.true_and] at ey
        (simp only [go_sem, Nat.reduceAdd, Nat.reduceMul, Int.reduceToNat, Nat.reduceLeDiff, Int.reduceLE, Int.reduceLT, ↓reduceIte, Int.reduceBEq, Int.reduceBNe, Int.reduceAdd, Int.reduceSub, Int.reduceMul, q1, q2, ep1, g, bts_length, Int.toNat_natCast, q3]; try refine okTr_and rfl ?_)
        (repeat ((with_reducible refine And.intro ?_ ?_); (· exact sd)))
        refine CallK.p (hE) ?_; (simp only [go_sem, Nat.reduceAdd, Nat.reduceMul, Int.reduceToNat, Nat.reduceLeDiff, Int.reduceLE, Int.reduceLT, ↓reduceIte, Int.reduceBEq, Int.reduceBNe, Int.reduceAdd, Int.reduceSub, Int.reduceMul, ← ey]; try refine okTr_and rfl ?_)
        exact FinK.finA r58 []
      · have q3 : decide (L.ep ≤ b.ep) = false := decide_eq_false h3
        rw [q3, Bool.false_and] at ey
        (simp only [go_sem, Nat.reduceAdd, Nat.reduceMul, Int.reduceToNat, Nat.reduceLeDiff, Int.reduceLE, Int.reduceLT, ↓reduceIte, Int.reduceBEq, Int.reduceBNe, Int.reduceAdd, Int.reduceSub, Int.reduceMul, q1, q2, ep1, g, bts_length, Int.toNat_natCast, q3]; try refine okTr_and rfl ?_)
        (repeat ((with_reducible refine And.intro ?_ ?_); (· exact sd)))
        ((refine FinK.finB r58 [] ?_ ?_); (· first | with_reducible rfl | (simp [ey]; done) | rfl); (· simp [resAL, resA1, loadA, oneOr, ey]))
  · have q1 : decide (b.ep ≤ ep) = false := decide_eq_false h1
    have e : mayB ep acc b = false := by unfold mayB; rw [q1]; rfl
    (simp only [go_sem, Nat.reduceAdd, Nat.reduceMul, Int.reduceToNat, Nat.reduceLeDiff, Int.reduceLE, Int.reduceLT, ↓reduceIte, Int.reduceBEq, Int.reduceBNe, Int.reduceAdd, Int.reduceSub, Int.reduceMul, q1]; try refine okTr_and rfl ?_)
    ((refine FinK.finB r58 [] ?_ ?_); (· first | with_reducible rfl | (simp [e]; done) | rfl); (· simp [resAL, resA1, loadA, oneOr, e]))
theorem legacy_follows (ep : Int) (acc : List Bt) (b : Bt) (hn : acc.length ≤ 1000000) (he : Ends acc) : Ct Tryz.prog 58 [uA ep, slB acc, btA b] [] (fun _ => bA (mayB ep acc b)) [] (fun _ => []) := (legacy_follows0 ep acc b hn he).toCt cl cl
set_option maxRecDepth 100000 in
theorem ref34_May0 (ep : Int) (l : List Bt) (k : Nat) (b : Bt) (hk : k ≤ l.length) (hn : l.length ≤ 1000000) (he : Ends (l.take k)) : Does Tryz.prog 63 [sg2A ⟨ep, l⟩, iA k, btA b] [] (bA (mayB ep (l.take k) b)) [] := by
  have hlen : (l.take k).length = k := by rw [List.length_take]; omega
  refine Does.runA Tryz.func63 b63 n63 Tryz.ntmps63 ?_; simp only [c63, go_sem, Nat.reduceAdd, Nat.reduceMul, Int.reduceToNat, Nat.reduceLeDiff, Int.reduceLE, Int.reduceLT, ↓reduceIte, Int.reduceBEq, Int.reduceBNe, Int.reduceAdd, Int.reduceSub, Int.reduceMul]; try refine okTr_and rfl ?_
  by_cases h1 : b.ep ≤ ep
  · have q1 : decide (ep < b.ep) = false := decide_eq_false (by omega)
    have q1' : decide (b.ep ≤ ep) = true := decide_eq_true h1
    by_cases h2 : k = 0
    · have q2 : ((k : Int) == 0) = true := by simp; exact h2
      have e : mayB ep (l.take k) b = true := by unfold mayB; rw [q1', decide_eq_true (by omega)]; rfl
      (simp only [go_sem, Nat.reduceAdd, Nat.reduceMul, Int.reduceToNat, Nat.reduceLeDiff, Int.reduceLE, Int.reduceLT, ↓reduceIte, Int.reduceBEq, Int.reduceBNe, Int.reduceAdd, Int.reduceSub, Int.reduceMul, q1, q2]; try refine okTr_and rfl ?_)
      ((refine FinK.finB r63 [] ?_ ?_); (· first | with_reducible rfl | (simp [e]; done) | rfl); (· simp [resAL, resA1, loadA, oneOr, e]))
    · have q2 : ((k : Int) == 0) = false := by
        rw [Bool.eq_false_iff]; intro hh; rw [beq_iff_eq] at hh; omega
      obtain ⟨e1, e2, e3⟩ := he (by omega)
      have ep1 := i64_pred k (by omega) (by omega)
      have hbl : btLast (l.take k) = l.getD (k - 1) bt0 := by
        unfold btLast; rw [hlen]
        simp [show k - 1 < l.length by omega, show k - 1 < k by omega]
      have g : (bts l).getD (k - 1) .any = btA (btLast (l.take k)) := by rw [hbl]; exact bts_get l (k - 1) (by omega)
      have ey : mayB ep (l.take k) b = (decide ((btLast (l.take k)).ep ≤ b.ep) && decide ((btLast (l.take k)).base + (btLast (l.take k)).en.length ≤ b.base)) := by unfold mayB; rw [q1', decide_eq_false (by omega)]; rfl
      obtain ⟨L, hL⟩ : ∃ L, btLast (l.take k) = L := ⟨_, rfl⟩
      rw [hL] at g ey e1 e2 e3
      have w0 : IntKind.u64.wrap (L.en.length : Int) = L.en.length := IntWalk.u64_in _ (by omega)
      have w1 : IntKind.u64.wrap (L.base + (L.en.length : Int)) = L.base + L.en.length := IntWalk.u64_in _ (by omega)
      by_cases h3 : L.ep ≤ b.ep
      · have q3 : decide (L.ep ≤ b.ep) = true := decide_eq_true h3
        rw [q3, Bool.true_and] at ey
        (simp only [go_sem, Nat.reduceAdd, Nat.reduceMul, Int.reduceToNat, Nat.reduceLeDiff, Int.reduceLE, Int.reduceLT, ↓reduceIte, Int.reduceBEq, Int.reduceBNe, Int.reduceAdd, Int.reduceSub, Int.reduceMul, q1, q2, ep1, g, bts_length, Int.toNat_natCast, q3, ens_length, w0, w1, ← ey]; try refine okTr_and rfl ?_)
        (repeat ((with_reducible refine And.intro ?_ ?_); (· exact sd)))
        exact FinK.finA r63 []
      · have q3 : decide (L.ep ≤ b.ep) = false := decide_eq_false h3
        rw [q3, Bool.false_and] at ey
        (simp only [go_sem, Nat.reduceAdd, Nat.reduceMul, Int.reduceToNat, Nat.reduceLeDiff, Int.reduceLE, Int.reduceLT, ↓reduceIte, Int.reduceBEq, Int.reduceBNe, Int.reduceAdd, Int.reduceSub, Int.reduceMul, q1, q2, ep1, g, bts_length, Int.toNat_natCast, q3]; try refine okTr_and rfl ?_)
        (repeat ((with_reducible refine And.intro ?_ ?_); (· exact sd)))
        ((refine FinK.finB r63 [] ?_ ?_); (· first | with_reducible rfl | (simp [ey]; done) | rfl); (· simp [resAL, resA1, loadA, oneOr, ey]))
  · have q1 : decide (ep < b.ep) = true := decide_eq_true (by omega)
    have e : mayB ep (l.take k) b = false := by unfold mayB; rw [decide_eq_false h1]; rfl
    (simp only [go_sem, Nat.reduceAdd, Nat.reduceMul, Int.reduceToNat, Nat.reduceLeDiff, Int.reduceLE, Int.reduceLT, ↓reduceIte, Int.reduceBEq, Int.reduceBNe, Int.reduceAdd, Int.reduceSub, Int.reduceMul, q1]; try refine okTr_and rfl ?_)
    ((refine FinK.finB r63 [] ?_ ?_); (· first | with_reducible rfl | (simp [e]; done) | rfl); (· simp [resAL, resA1, loadA, oneOr, e]))
theorem ref34_May (ep : Int) (l : List Bt) (k : Nat) (b : Bt) (hk : k ≤ l.length) (hn : l.length ≤ 1000000) (he : Ends (l.take k)) : Ct Tryz.prog 63 [sg2A ⟨ep, l⟩, iA k, btA b] [] (fun _ => bA (mayB ep (l.take k) b)) [] (fun _ => []) := (ref34_May0 ep l k b hk hn he).toCt cl cl
end Go.Proofs.YtnfagphepkeedaaGreat
end
section
namespace Go.Proofs.YtnfagphepkeedaaGreat
open Go.RowKit

def allB (ok : Nat → Bool) (n : Nat) : Bool := (List.range n).all ok
theorem allB_iff {ok : Nat → Bool} {n : Nat} : allB ok n = true ↔ ∀ i, i < n → ok i = true := by
  simp only [allB, List.all_eq_true, List.mem_range]
set_option maxRecDepth 100000 in
theorem legacy_allB0 (f : FuncId) (o : AObj) (ok : Nat → Bool) (ho : ∀ ρ, o.ren ρ = o) (hd : o ≠ .dead) (l : List Bt) (hf : ∀ k, k < l.length → (∀ i, i < k → ok i = true) → ∀ i, Ct Tryz.prog f [iA k, btA (l.getD k bt0), .ref i 0] [(i, o)] (fun _ => bA (ok k)) [] (fun _ => [])) (hn : l.length ≤ 1000000) :
    Does Tryz.prog 91 [slB l, .fn f [] [.ref 0 0]] [o] (bA (allB ok l.length)) [o] := by
  refine Does.runA Tryz.func91 b91 n91 Tryz.ntmps91 ?_; simp only [c91, go_sem, Nat.reduceAdd, Nat.reduceMul, Int.reduceToNat, Nat.reduceLeDiff, Int.reduceLE, Int.reduceLT, ↓reduceIte, Int.reduceBEq, Int.reduceBNe, Int.reduceAdd, Int.reduceSub, Int.reduceMul, bts_length]; try refine okTr_and rfl ?_
  refine loop_of (α := Nat) (fun k => [slB l, .fn f [] [.ref 0 0], .any, .any, .any, .any, .any, slB l, iA l.length, iA k, .any, .any, .any, .any, .any, .any, .any, .any, .any, .any]) (fun _ => [o]) (fun k => k ≤ l.length ∧ ∀ i, i < k → ok i = true) (fun k => l.length - k) 0 ⟨by simp, fun i hi => by omega⟩ (Wk.to (by simp) (by simp [leT])) ?_
  rintro k ⟨hk, hall⟩
  (simp only [go_sem, Nat.reduceAdd, Nat.reduceMul, Int.reduceToNat, Nat.reduceLeDiff, Int.reduceLE, Int.reduceLT, ↓reduceIte, Int.reduceBEq, Int.reduceBNe, Int.reduceAdd, Int.reduceSub, Int.reduceMul]; try refine okTr_and rfl ?_)
  by_cases hlt : k < l.length
  · have q1 : decide ((k : Int) < (l.length : Int)) = true := decide_eq_true (by omega)
    have ek := i64_succ k (by omega)
    have g := bts_get l k hlt
    have hfx := hf k hlt hall 0
    (simp only [go_sem, Nat.reduceAdd, Nat.reduceMul, Int.reduceToNat, Nat.reduceLeDiff, Int.reduceLE, Int.reduceLT, ↓reduceIte, Int.reduceBEq, Int.reduceBNe, Int.reduceAdd, Int.reduceSub, Int.reduceMul, q1, g, bts_length, Int.toNat_natCast]; try refine okTr_and rfl ?_)
    (repeat ((with_reducible refine And.intro ?_ ?_); (· exact sd)))
    refine CallK.r1 (hfx) rfl ?_
    cases hs : ok k with
    | false =>
      have e : allB ok l.length = false := by
        cases ha : allB ok l.length with
        | false => rfl
        | true => rw [allB_iff.1 ha k hlt] at hs; cases hs
      (simp only [go_sem, Nat.reduceAdd, Nat.reduceMul, Int.reduceToNat, Nat.reduceLeDiff, Int.reduceLE, Int.reduceLT, ↓reduceIte, Int.reduceBEq, Int.reduceBNe, Int.reduceAdd, Int.reduceSub, Int.reduceMul, hs]; try refine okTr_and rfl ?_)
      ((refine FinK.finB r91 [0] ?_ ?_); (· first | with_reducible rfl | (simp [e, ho]; done) | rfl); (· simp [resAL, resA1, loadA, oneOr, e, ho]))
    | true =>
      (simp only [go_sem, Nat.reduceAdd, Nat.reduceMul, Int.reduceToNat, Nat.reduceLeDiff, Int.reduceLE, Int.reduceLT, ↓reduceIte, Int.reduceBEq, Int.reduceBNe, Int.reduceAdd, Int.reduceSub, Int.reduceMul, hs, ek]; try refine okTr_and rfl ?_)
      exact ⟨k + 1, ⟨hlt, fun i hi => by
        rcases Nat.lt_or_ge i k with h | h
        · exact hall i h
        · obtain rfl : i = k := by omega
          exact hs⟩, by omega, Wk.sel [0] (by simp) rfl (by simp) rfl (by simp [ho]) (by simp [selT, ixs_z])⟩
  · have q1 : decide ((k : Int) < (l.length : Int)) = false := decide_eq_false (by omega)
    have e : allB ok l.length = true := allB_iff.2 fun i hi => hall i (by omega)
    (simp only [go_sem, Nat.reduceAdd, Nat.reduceMul, Int.reduceToNat, Nat.reduceLeDiff, Int.reduceLE, Int.reduceLT, ↓reduceIte, Int.reduceBEq, Int.reduceBNe, Int.reduceAdd, Int.reduceSub, Int.reduceMul, q1]; try refine okTr_and rfl ?_)
    ((refine FinK.finB r91 [0] ?_ ?_); (· first | with_reducible rfl | (simp [e, ho]; done) | rfl); (· simp [resAL, resA1, loadA, oneOr, e, ho]))
theorem legacy_allB (f : FuncId) (o : AObj) (ok : Nat → Bool) (ho : ∀ ρ, o.ren ρ = o) (hd : o ≠ .dead) (l : List Bt) (hf : ∀ k, k < l.length → (∀ i, i < k → ok i = true) → ∀ i, Ct Tryz.prog f [iA k, btA (l.getD k bt0), .ref i 0] [(i, o)] (fun _ => bA (ok k)) [] (fun _ => [])) (hn : l.length ≤ 1000000) (i : Nat) :
    Ct Tryz.prog 91 [slB l, .fn f [] [.ref i 0]] [(i, o)] (fun _ => bA (allB ok l.length)) [] (fun _ => []) := Ct.r1 (legacy_allB0 f o ok ho hd l hf hn) i cl ho hd clo
structure Small2 (u : Sg2) : Prop where
  n : u.bt.length ≤ 1000000
  s : ∀ b ∈ u.bt, SmallB b
  ok : Bts u.bt
theorem ends_of {ep : Int} {l : List Bt} {k : Nat} (hl : Bts l) (hk : k ≤ l.length) (h : ∀ i, i < k → mayAt ep l i = true) : Ends (l.take k) := by
  intro h0
  have hlen : (l.take k).length = k := by rw [List.length_take]; omega
  have hbl : btLast (l.take k) = l.getD (k - 1) bt0 := by
    unfold btLast; rw [hlen]
    simp [show k - 1 < l.length by omega, show k - 1 < k by omega]
  have hm := h (k - 1) (by omega)
  unfold mayAt at hm
  simp only [Bool.and_eq_true] at hm
  obtain ⟨r1, ⟨r2, r3⟩, r4⟩ := rightB_iff.1 hm.1.1
  have hb := hl _ (bt_mem l (k - 1) (by omega))
  rw [hbl]
  exact ⟨by omega, hb.b0, by omega⟩
set_option maxRecDepth 100000 in
theorem legacy_Right210 (u : Sg2) (k : Nat) (hs : Small2 u) (hk : k < u.bt.length) (he : Ends (u.bt.take k)) : Does Tryz.prog 92 [iA k, btA (u.bt.getD k bt0), .ref 0 0] [sg2O u] (bA (mayAt u.ep u.bt k)) [sg2O u] := by
  have hm := bt_mem u.bt k hk
  have hsb := hs.s _ hm
  have hok := hs.ok _ hm
  have hn := hs.n
  have hle : (u.bt.take k).length ≤ 1000000 := by rw [List.length_take]; omega
  have hkl : (k : Int) ≤ ((bts u.bt).length : Int) := by rw [bts_length]; omega
  have hdef : mayAt u.ep u.bt k = (rightB (u.bt.getD k bt0) && singleB (u.bt.getD k bt0) && mayB u.ep (u.bt.take k) (u.bt.getD k bt0)) := rfl
  obtain ⟨b, hb⟩ : ∃ b, u.bt.getD k bt0 = b := ⟨_, rfl⟩
  rw [hb] at hm hsb hok hdef ⊢
  have hA := legacy_allEn 94 (fun e => singleL e.lk) b.en (fun k hk => legacy_Right211 _ _ (hsb.lk _ (en_mem b.en k hk)).1) hsb.n
  have ea : (b.en.all fun e => singleL e.lk) = singleB b := rfl
  rw [ea] at hA
  refine Does.runA Tryz.func92 b92 n92 Tryz.ntmps92 ?_; simp only [c92, go_sem, Nat.reduceAdd, Nat.reduceMul, Int.reduceToNat, Nat.reduceLeDiff, Int.reduceLE, Int.reduceLT, ↓reduceIte, Int.reduceBEq, Int.reduceBNe, Int.reduceAdd, Int.reduceSub, Int.reduceMul]; try refine okTr_and rfl ?_
  refine CallK.p (hA) ?_
  cases h1 : singleB b with
  | false =>
    rw [h1, Bool.and_false, Bool.false_and] at hdef
    (simp only [go_sem, Nat.reduceAdd, Nat.reduceMul, Int.reduceToNat, Nat.reduceLeDiff, Int.reduceLE, Int.reduceLT, ↓reduceIte, Int.reduceBEq, Int.reduceBNe, Int.reduceAdd, Int.reduceSub, Int.reduceMul]; try refine okTr_and rfl ?_)
    ((refine FinK.finB r92 [0] ?_ ?_); (· first | with_reducible rfl | (simp [hdef]; done) | rfl); (· simp [resAL, resA1, loadA, oneOr, hdef]))
  | true =>
    rw [h1, Bool.and_true] at hdef
    (simp only [go_sem, Nat.reduceAdd, Nat.reduceMul, Int.reduceToNat, Nat.reduceLeDiff, Int.reduceLE, Int.reduceLT, ↓reduceIte, Int.reduceBEq, Int.reduceBNe, Int.reduceAdd, Int.reduceSub, Int.reduceMul]; try refine okTr_and rfl ?_)
    refine CallK.p (batch_Right b hok hsb) ?_
    cases h2 : rightB b with
    | false =>
      rw [h2, Bool.false_and] at hdef
      (simp only [go_sem, Nat.reduceAdd, Nat.reduceMul, Int.reduceToNat, Nat.reduceLeDiff, Int.reduceLE, Int.reduceLT, ↓reduceIte, Int.reduceBEq, Int.reduceBNe, Int.reduceAdd, Int.reduceSub, Int.reduceMul]; try refine okTr_and rfl ?_)
      ((refine FinK.finB r92 [0] ?_ ?_); (· first | with_reducible rfl | (simp [hdef]; done) | rfl); (· simp [resAL, resA1, loadA, oneOr, hdef]))
    | true =>
      rw [h2, Bool.true_and] at hdef
      (simp only [go_sem, Nat.reduceAdd, Nat.reduceMul, Int.reduceToNat, Nat.reduceLeDiff, Int.reduceLE, Int.reduceLT, ↓reduceIte, Int.reduceBEq, Int.reduceBNe, Int.reduceAdd, Int.reduceSub, Int.reduceMul, bts_take, bts_length, Int.sub_zero, Int.toNat_natCast]; try refine okTr_and rfl ?_)
      (repeat ((with_reducible refine And.intro ?_ ?_); (· exact sd)))
      refine CallK.p (legacy_follows u.ep (u.bt.take k) b hle he) ?_; (simp only [go_sem, Nat.reduceAdd, Nat.reduceMul, Int.reduceToNat, Nat.reduceLeDiff, Int.reduceLE, Int.reduceLT, ↓reduceIte, Int.reduceBEq, Int.reduceBNe, Int.reduceAdd, Int.reduceSub, Int.reduceMul, ← hdef]; try refine okTr_and rfl ?_)
      exact FinK.finA r92 [0]
theorem legacy_Right21 (u : Sg2) (k : Nat) (hs : Small2 u) (hk : k < u.bt.length) (he : Ends (u.bt.take k)) (i : Nat) : Ct Tryz.prog 92 [iA k, btA (u.bt.getD k bt0), .ref i 0] [(i, sg2O u)] (fun _ => bA (mayAt u.ep u.bt k)) [] (fun _ => []) :=
  Ct.r1 (legacy_Right210 u k hs hk he) i cl (sg2O_ren u) (by simp) clo
theorem right2_no {u : Sg2} (h : epRight u.ep = false ∨ 32 < u.bt.length) : right2 u = false := by
  cases hr : right2 u with
  | false => rfl
  | true =>
    exfalso
    unfold right2 at hr
    simp only [Bool.and_eq_true, decide_eq_true_eq] at hr
    obtain ⟨⟨a, b⟩, c⟩ := hr
    rcases h with h | h
    · rw [h] at a; cases a
    · omega
theorem legacy_Right20 (u : Sg2) (hs : Small2 u) : Does Tryz.prog 24 [sg2A u] [] (bA (right2 u)) [] := by
  refine Does.runA Tryz.func24 b24 n24 Tryz.ntmps24 ?_; simp only [c24, go_sem, Nat.reduceAdd, Nat.reduceMul, Int.reduceToNat, Nat.reduceLeDiff, Int.reduceLE, Int.reduceLT, ↓reduceIte, Int.reduceBEq, Int.reduceBNe, Int.reduceAdd, Int.reduceSub, Int.reduceMul]; try refine okTr_and rfl ?_
  refine CallK.p (epoch_Right u.ep) ?_
  cases h1 : epRight u.ep with
  | false =>
    have e := right2_no (u := u) (.inl h1)
    (simp only [go_sem, Nat.reduceAdd, Nat.reduceMul, Int.reduceToNat, Nat.reduceLeDiff, Int.reduceLE, Int.reduceLT, ↓reduceIte, Int.reduceBEq, Int.reduceBNe, Int.reduceAdd, Int.reduceSub, Int.reduceMul, h1]; try refine okTr_and rfl ?_)
    ((refine FinK.finB r24 [] ?_ ?_); (· first | with_reducible rfl | (simp [e]; done) | rfl); (· simp [resAL, resA1, loadA, oneOr, e]))
  | true =>
    by_cases h2 : u.bt.length ≤ 32
    · have q2 : decide (32 < (u.bt.length : Int)) = false := decide_eq_false (by omega)
      have e : right2 u = allB (mayAt u.ep u.bt) u.bt.length := by
        unfold right2 allB; rw [h1, decide_eq_true h2]; rfl
      (simp only [go_sem, Nat.reduceAdd, Nat.reduceMul, Int.reduceToNat, Nat.reduceLeDiff, Int.reduceLE, Int.reduceLT, ↓reduceIte, Int.reduceBEq, Int.reduceBNe, Int.reduceAdd, Int.reduceSub, Int.reduceMul, h1, bts_length, q2]; try refine okTr_and rfl ?_)
      refine CallK.r1 (legacy_allB 92 (sg2O u) (mayAt u.ep u.bt) (sg2O_ren u) (by simp) u.bt (fun k hk hall i => legacy_Right21 u k hs hk (ends_of hs.ok (by omega) hall) i) hs.n _) rfl ?_; (simp only [go_sem, Nat.reduceAdd, Nat.reduceMul, Int.reduceToNat, Nat.reduceLeDiff, Int.reduceLE, Int.reduceLT, ↓reduceIte, Int.reduceBEq, Int.reduceBNe, Int.reduceAdd, Int.reduceSub, Int.reduceMul, ← e]; try refine okTr_and rfl ?_)
      exact FinK.finA r24 []
    · have q2 : decide (32 < (u.bt.length : Int)) = true := decide_eq_true (by omega)
      have e := right2_no (u := u) (.inr (by omega))
      (simp only [go_sem, Nat.reduceAdd, Nat.reduceMul, Int.reduceToNat, Nat.reduceLeDiff, Int.reduceLE, Int.reduceLT, ↓reduceIte, Int.reduceBEq, Int.reduceBNe, Int.reduceAdd, Int.reduceSub, Int.reduceMul, h1, bts_length, q2]; try refine okTr_and rfl ?_)
      ((refine FinK.finB r24 [] ?_ ?_); (· first | with_reducible rfl | (simp [e]; done) | rfl); (· simp [resAL, resA1, loadA, oneOr, e]))
theorem legacy_Right2 (u : Sg2) (hs : Small2 u) : Ct Tryz.prog 24 [sg2A u] [] (fun _ => bA (right2 u)) [] (fun _ => []) := (legacy_Right20 u hs).toCt cl cl
set_option maxHeartbeats 1000000 in
set_option maxRecDepth 100000 in
theorem ref35_Right20 (u : Sg2) (hs : Small2 u) : Does Tryz.prog 22 [sg2A u] [] (bA (right2 u)) [] := by
  have hn := hs.n
  refine Does.runA Tryz.func22 b22 n22 Tryz.ntmps22 ?_; simp only [c22, go_sem, Nat.reduceAdd, Nat.reduceMul, Int.reduceToNat, Nat.reduceLeDiff, Int.reduceLE, Int.reduceLT, ↓reduceIte, Int.reduceBEq, Int.reduceBNe, Int.reduceAdd, Int.reduceSub, Int.reduceMul]; try refine okTr_and rfl ?_
  refine CallK.p (ref17_Right u.ep) ?_
  cases h1 : epRight u.ep with
  | false =>
    have e := right2_no (u := u) (.inl h1)
    (simp only [go_sem, Nat.reduceAdd, Nat.reduceMul, Int.reduceToNat, Nat.reduceLeDiff, Int.reduceLE, Int.reduceLT, ↓reduceIte, Int.reduceBEq, Int.reduceBNe, Int.reduceAdd, Int.reduceSub, Int.reduceMul, h1]; try refine okTr_and rfl ?_)
    ((refine FinK.finB r22 [] ?_ ?_); (· first | with_reducible rfl | (simp [e]; done) | rfl); (· simp [resAL, resA1, loadA, oneOr, e]))
  | true =>
    by_cases h2 : u.bt.length ≤ 32
    · have q2 : decide (32 < (u.bt.length : Int)) = false := decide_eq_false (by omega)
      (simp only [go_sem, Nat.reduceAdd, Nat.reduceMul, Int.reduceToNat, Nat.reduceLeDiff, Int.reduceLE, Int.reduceLT, ↓reduceIte, Int.reduceBEq, Int.reduceBNe, Int.reduceAdd, Int.reduceSub, Int.reduceMul, h1, bts_length, q2]; try refine okTr_and rfl ?_)
      refine loop_of (α := Nat) (fun k => [.any, .ref 0 0, .any, iA k, .any, .any, .any, .any, .any, .any, .any, .any, .any, .any, .any, .any, .any, .any, .any, .any, .any, .any, .any, .any, .any, .any, .any, .any, .any, .any, .any, .any, .any, .any, .any, .any, .any, .any, .any, .any, .any, .any, .any, .any, .any, .any, .any, .any, .any, .any, .any, .any, .any, .any, .any, .any, .any]) (fun _ => [sg2O u]) (fun k => k ≤ u.bt.length ∧ ∀ i, i < k → mayAt u.ep u.bt i = true) (fun k => u.bt.length - k) 0 ⟨by simp, fun i hi => by omega⟩ (Wk.to (by simp) (by simp [leT])) ?_
      rintro k ⟨hk, hall⟩
      (simp only [go_sem, Nat.reduceAdd, Nat.reduceMul, Int.reduceToNat, Nat.reduceLeDiff, Int.reduceLE, Int.reduceLT, ↓reduceIte, Int.reduceBEq, Int.reduceBNe, Int.reduceAdd, Int.reduceSub, Int.reduceMul, bts_length]; try refine okTr_and rfl ?_)
      by_cases hlt : k < u.bt.length
      · have q1 : decide ((k : Int) < (u.bt.length : Int)) = true := decide_eq_true (by omega)
        have ek := i64_succ k (by omega)
        have g := bts_get u.bt k hlt
        have hm := bt_mem u.bt k hlt
        have hsb := hs.s _ hm
        have hok := hs.ok _ hm
        have he := ends_of hs.ok (by omega) hall
        have hdef : mayAt u.ep u.bt k = (rightB (u.bt.getD k bt0) && singleB (u.bt.getD k bt0) && mayB u.ep (u.bt.take k) (u.bt.getD k bt0)) := rfl
        have bad : mayAt u.ep u.bt k = false → right2 u = false := fun h => by
          cases hr : right2 u with
          | false => rfl
          | true => rw [(right2_iff.1 hr).2.2 k hlt] at h; cases h
        obtain ⟨b, hb⟩ : ∃ b, u.bt.getD k bt0 = b := ⟨_, rfl⟩
        rw [hb] at hm hsb hok hdef g
        (simp only [go_sem, Nat.reduceAdd, Nat.reduceMul, Int.reduceToNat, Nat.reduceLeDiff, Int.reduceLE, Int.reduceLT, ↓reduceIte, Int.reduceBEq, Int.reduceBNe, Int.reduceAdd, Int.reduceSub, Int.reduceMul, q1, g, bts_length, Int.toNat_natCast]; try refine okTr_and rfl ?_)
        (repeat ((with_reducible refine And.intro ?_ ?_); (· exact sd)))
        refine CallK.p (ref25_Right b hok hsb) ?_
        cases h3 : rightB b with
        | false =>
          rw [h3, Bool.false_and, Bool.false_and] at hdef
          have e := bad hdef
          (simp only [go_sem, Nat.reduceAdd, Nat.reduceMul, Int.reduceToNat, Nat.reduceLeDiff, Int.reduceLE, Int.reduceLT, ↓reduceIte, Int.reduceBEq, Int.reduceBNe, Int.reduceAdd, Int.reduceSub, Int.reduceMul]; try refine okTr_and rfl ?_)
          ((refine FinK.finB r22 [] ?_ ?_); (· first | with_reducible rfl | (simp [e]; done) | rfl); (· simp [resAL, resA1, loadA, oneOr, e]))
        | true =>
          rw [h3, Bool.true_and] at hdef
          (simp only [go_sem, Nat.reduceAdd, Nat.reduceMul, Int.reduceToNat, Nat.reduceLeDiff, Int.reduceLE, Int.reduceLT, ↓reduceIte, Int.reduceBEq, Int.reduceBNe, Int.reduceAdd, Int.reduceSub, Int.reduceMul]; try refine okTr_and rfl ?_)
          refine CallK.p (ref34_May u.ep u.bt k b (by omega) hn he) ?_
          cases h4 : mayB u.ep (u.bt.take k) b with
          | false =>
            rw [h4, Bool.and_false] at hdef
            have e := bad hdef
            (simp only [go_sem, Nat.reduceAdd, Nat.reduceMul, Int.reduceToNat, Nat.reduceLeDiff, Int.reduceLE, Int.reduceLT, ↓reduceIte, Int.reduceBEq, Int.reduceBNe, Int.reduceAdd, Int.reduceSub, Int.reduceMul]; try refine okTr_and rfl ?_)
            ((refine FinK.finB r22 [] ?_ ?_); (· first | with_reducible rfl | (simp [e]; done) | rfl); (· simp [resAL, resA1, loadA, oneOr, e]))
          | true =>
            rw [h4, Bool.and_true] at hdef
            (simp only [go_sem, Nat.reduceAdd, Nat.reduceMul, Int.reduceToNat, Nat.reduceLeDiff, Int.reduceLE, Int.reduceLT, ↓reduceIte, Int.reduceBEq, Int.reduceBNe, Int.reduceAdd, Int.reduceSub, Int.reduceMul]; try refine okTr_and rfl ?_)
            refine loop_of (α := Nat) (fun j => [.any, .ref 0 0, .any, iA k, .ref 1 0, iA j, .any, .any, .any, .any, .any, .any, .any, .any, .any, .any, .any, .any, .any, .any, .any, .any, .any, .any, .any, .any, .any, .any, .any, .any, .any, .any, .any, .any, .any, .any, .any, .any, .any, .any, .any, .any, .any, .any, .any, .any, .any, .any, .any, .any, .any, .any, .any, .any, .any, .any, .any]) (fun _ => [sg2O u, btO b]) (fun j => j ≤ b.en.length ∧ ∀ i, i < j → singleL (b.en.getD i en0).lk = true) (fun j => b.en.length - j) 0 ⟨by simp, fun i hi => by omega⟩ (Wk.sel [0, 1] (by simp) rfl (by simp) rfl (by simp [ixs_z]) (by simp [selT, ixs_z])) ?_
            rintro j ⟨hj, hall2⟩
            have hbn := hsb.n
            (simp only [go_sem, Nat.reduceAdd, Nat.reduceMul, Int.reduceToNat, Nat.reduceLeDiff, Int.reduceLE, Int.reduceLT, ↓reduceIte, Int.reduceBEq, Int.reduceBNe, Int.reduceAdd, Int.reduceSub, Int.reduceMul, ens_length]; try refine okTr_and rfl ?_)
            by_cases hjl : j < b.en.length
            · have p1 : decide ((j : Int) < (b.en.length : Int)) = true := decide_eq_true (by omega)
              have ej := i64_succ j (by omega)
              have g2 := ens_get b.en j hjl
              have hsl := hsb.lk _ (en_mem b.en j hjl)
              (simp only [go_sem, Nat.reduceAdd, Nat.reduceMul, Int.reduceToNat, Nat.reduceLeDiff, Int.reduceLE, Int.reduceLT, ↓reduceIte, Int.reduceBEq, Int.reduceBNe, Int.reduceAdd, Int.reduceSub, Int.reduceMul, p1, g2, ens_length, Int.toNat_natCast]; try refine okTr_and rfl ?_)
              (repeat ((with_reducible refine And.intro ?_ ?_); (· exact sd)))
              refine CallK.p (ref35_single (b.en.getD j en0).lk hsl.1) ?_
              cases h5 : singleL (b.en.getD j en0).lk with
              | false =>
                have hsn : singleB b = false := by
                  cases hsx : singleB b with
                  | false => rfl
                  | true => rw [singleB_iff.1 hsx j hjl] at h5; cases h5
                rw [hsn] at hdef
                have e := bad hdef
                (simp only [go_sem, Nat.reduceAdd, Nat.reduceMul, Int.reduceToNat, Nat.reduceLeDiff, Int.reduceLE, Int.reduceLT, ↓reduceIte, Int.reduceBEq, Int.reduceBNe, Int.reduceAdd, Int.reduceSub, Int.reduceMul]; try refine okTr_and rfl ?_)
                (repeat ((with_reducible refine And.intro ?_ ?_); (· exact sd)))
                ((refine FinK.finB r22 [] ?_ ?_); (· first | with_reducible rfl | (simp [e]; done) | rfl); (· simp [resAL, resA1, loadA, oneOr, e]))
              | true =>
                (simp only [go_sem, Nat.reduceAdd, Nat.reduceMul, Int.reduceToNat, Nat.reduceLeDiff, Int.reduceLE, Int.reduceLT, ↓reduceIte, Int.reduceBEq, Int.reduceBNe, Int.reduceAdd, Int.reduceSub, Int.reduceMul, ej]; try refine okTr_and rfl ?_)
                (repeat ((with_reducible refine And.intro ?_ ?_); (· exact sd)))
                exact ⟨j + 1, ⟨hjl, fun i hi => by
                  rcases Nat.lt_or_ge i j with h | h
                  · exact hall2 i h
                  · obtain rfl : i = j := by omega
                    exact h5⟩, by omega, Wk.to (by simp) (by simp [leT])⟩
            · have p1 : decide ((j : Int) < (b.en.length : Int)) = false := decide_eq_false (by omega)
              have hsn : singleB b = true := singleB_iff.2 fun i hi => hall2 i (by omega)
              rw [hsn] at hdef
              (simp only [go_sem, Nat.reduceAdd, Nat.reduceMul, Int.reduceToNat, Nat.reduceLeDiff, Int.reduceLE, Int.reduceLT, ↓reduceIte, Int.reduceBEq, Int.reduceBNe, Int.reduceAdd, Int.reduceSub, Int.reduceMul, p1, ek]; try refine okTr_and rfl ?_)
              exact ⟨k + 1, ⟨hlt, fun i hi => by
                rcases Nat.lt_or_ge i k with h | h
                · exact hall i h
                · obtain rfl : i = k := by omega
                  exact hdef⟩, by omega, Wk.sel [0] (by simp) rfl (by simp) rfl (by simp [ixs_z]) (by simp [selT, ixs_z])⟩
      · have q1 : decide ((k : Int) < (u.bt.length : Int)) = false := decide_eq_false (by omega)
        have e : right2 u = true := right2_iff.2 ⟨epRight_iff.1 h1, h2, fun i hi => hall i (by omega)⟩
        (simp only [go_sem, Nat.reduceAdd, Nat.reduceMul, Int.reduceToNat, Nat.reduceLeDiff, Int.reduceLE, Int.reduceLT, ↓reduceIte, Int.reduceBEq, Int.reduceBNe, Int.reduceAdd, Int.reduceSub, Int.reduceMul, q1]; try refine okTr_and rfl ?_)
        ((refine FinK.finB r22 [] ?_ ?_); (· first | with_reducible rfl | (simp [e]; done) | rfl); (· simp [resAL, resA1, loadA, oneOr, e]))
    · have q2 : decide (32 < (u.bt.length : Int)) = true := decide_eq_true (by omega)
      have e := right2_no (u := u) (.inr (by omega))
      (simp only [go_sem, Nat.reduceAdd, Nat.reduceMul, Int.reduceToNat, Nat.reduceLeDiff, Int.reduceLE, Int.reduceLT, ↓reduceIte, Int.reduceBEq, Int.reduceBNe, Int.reduceAdd, Int.reduceSub, Int.reduceMul, h1, bts_length, q2]; try refine okTr_and rfl ?_)
      ((refine FinK.finB r22 [] ?_ ?_); (· first | with_reducible rfl | (simp [e]; done) | rfl); (· simp [resAL, resA1, loadA, oneOr, e]))
theorem ref35_Right2 (u : Sg2) (hs : Small2 u) : Ct Tryz.prog 22 [sg2A u] [] (fun _ => bA (right2 u)) [] (fun _ => []) := (ref35_Right20 u hs).toCt cl cl
-- long ones
end Go.Proofs.YtnfagphepkeedaaGreat
end
section
namespace Go.Proofs.YtnfagphepkeedaaGreat
open Go.RowKit

theorem links_len35 {s : RS} {pos : Int} (h : ROk s) (p0 : 0 ≤ pos) (p1 : pos < 18446744073709551616) : Smalls (s.links pos).2 := by
  by_cases hc : (s.links pos).1.code = 0
  · obtain ⟨i1, i2, i3, i4, i5⟩ := links_is h p0 p1 hc
    obtain ⟨r1, r2, r3⟩ := rightL_iff.1 i3
    exact ⟨by omega, fun x hx => by have := (goodL_iff.1 (r3 x hx)).1; omega⟩
  · rw [links_bad hc]; exact ⟨by simp, by simp⟩
theorem lsing_fail {s : RS} (pos : Int) : (singleL (s.links pos).2 = false → s.lsing pos = (s.links pos).1.fail 3 s.at_) ∧ (singleL (s.links pos).2 = true → s.lsing pos = (s.links pos).1) := by
  unfold RS.lsing
  refine ⟨fun h => ?_, fun h => by rw [if_neg (by rw [h]; rintro ⟨_, h⟩; cases h)]⟩
  by_cases hc : (s.links pos).1.code = 0
  · rw [if_pos ⟨hc, h⟩]
  · rw [links_bad hc] at h; cases h
abbrev bO (e base : Int) : AObj := .cells [uA e, uA base, .sl .full 1 []]
abbrev entV (t : RS) (pos left : Int) : En := ⟨(t.links pos).2, ((t.lsing pos).blob left).2⟩
set_option maxRecDepth 100000 in
theorem legacy_unplain10 (t : RS) (e base : Int) (k : Nat) (left pos : Int) (ht : ROk t) (hp : IntKind.u64.wrap (base + k) = pos) (hk : k ≤ 1000000) (p0 : 0 ≤ pos) (p1 : pos < 18446744073709551616) (l0 : 0 ≤ left) (l1 : left ≤ 1048576) (hn : t.l.length * 32 ≤ 100000000000000) :
    Does Tryz.prog 122 [iA k, .ref 1 0, .ref 2 0, .ref 3 0] [rdr t, ptO 0, bO e base, inO left] (enA (entV t pos left)) [rdr ((t.lsing pos).blob left).1, ptO 0, bO e base, inO (left - ((t.lsing pos).blob left).2.length)] := by
  have w0 : IntKind.u64.wrap (k : Int) = k := IntWalk.u64_in _ (by omega)
  have hsk := lsing_keep ht p0 p1
  have hlk := links_keep ht p0 p1
  have hsm := links_len35 ht p0 p1
  have hl := blob_len2 hsk.1 (m := left) l0
  obtain ⟨f1, f2⟩ := lsing_fail (s := t) pos
  have hlr := link_Read t pos 0 p0 p1 ht hn
  have hbr := blob_Read (t.lsing pos) left 0 (by omega) hsk.1
  obtain ⟨F, hF⟩ : ∃ F, t.links pos = F := ⟨_, rfl⟩
  have hV : entV t pos left = ⟨F.2, ((t.lsing pos).blob left).2⟩ := by rw [← hF]
  rw [hF] at hlk hsm f1 f2 hlr
  rw [hV]
  obtain ⟨D, hD⟩ : ∃ D, t.lsing pos = D := ⟨_, rfl⟩
  rw [hD] at f1 f2 hl hsk hbr
  rw [hD]
  obtain ⟨X, hX⟩ : ∃ X, D.blob left = X := ⟨_, rfl⟩
  rw [hX] at hl hbr
  rw [hX]
  have w1 : IntKind.i64.wrap (left - (X.2.length : Int)) = left - (X.2.length : Int) := IntWalk.i64_in _ (by omega)
  refine Does.runA Tryz.func122 b122 n122 Tryz.ntmps122 ?_; simp only [c122, go_sem, Nat.reduceAdd, Nat.reduceMul, Int.reduceToNat, Nat.reduceLeDiff, Int.reduceLE, Int.reduceLT, ↓reduceIte, Int.reduceBEq, Int.reduceBNe, Int.reduceAdd, Int.reduceSub, Int.reduceMul, w0, hp]; try refine okTr_and rfl ?_
  refine CallK.r1 (Reader_At t 0) rfl ?_; (simp only [go_sem, Nat.reduceAdd, Nat.reduceMul, Int.reduceToNat, Nat.reduceLeDiff, Int.reduceLE, Int.reduceLT, ↓reduceIte, Int.reduceBEq, Int.reduceBNe, Int.reduceAdd, Int.reduceSub, Int.reduceMul]; try refine okTr_and rfl ?_)
  (simp only [go_sem, Nat.reduceAdd, Nat.reduceMul, Int.reduceToNat, Nat.reduceLeDiff, Int.reduceLE, Int.reduceLT, ↓reduceIte, Int.reduceBEq, Int.reduceBNe, Int.reduceAdd, Int.reduceSub, Int.reduceMul, w0, hp]; try refine okTr_and rfl ?_)
  refine CallK.u1 (hlr) rfl ?_; (simp only [go_sem, Nat.reduceAdd, Nat.reduceMul, Int.reduceToNat, Nat.reduceLeDiff, Int.reduceLE, Int.reduceLT, ↓reduceIte, Int.reduceBEq, Int.reduceBNe, Int.reduceAdd, Int.reduceSub, Int.reduceMul]; try refine okTr_and rfl ?_)
  refine CallK.p (legacy_single F.2 hsm.1) ?_
  cases h : singleL F.2 with
  | true =>
    have ee := f2 h
    (simp only [go_sem, Nat.reduceAdd, Nat.reduceMul, Int.reduceToNat, Nat.reduceLeDiff, Int.reduceLE, Int.reduceLT, ↓reduceIte, Int.reduceBEq, Int.reduceBNe, Int.reduceAdd, Int.reduceSub, Int.reduceMul, ← ee]; try refine okTr_and rfl ?_)
    refine CallK.u1 (hbr) rfl ?_; (simp only [go_sem, Nat.reduceAdd, Nat.reduceMul, Int.reduceToNat, Nat.reduceLeDiff, Int.reduceLE, Int.reduceLT, ↓reduceIte, Int.reduceBEq, Int.reduceBNe, Int.reduceAdd, Int.reduceSub, Int.reduceMul, ints_length, w1]; try refine okTr_and rfl ?_)
    exact FinK.finA r122 [0, 1, 2, 3]
  | false =>
    have ee := f1 h
    (simp only [go_sem, Nat.reduceAdd, Nat.reduceMul, Int.reduceToNat, Nat.reduceLeDiff, Int.reduceLE, Int.reduceLT, ↓reduceIte, Int.reduceBEq, Int.reduceBNe, Int.reduceAdd, Int.reduceSub, Int.reduceMul]; try refine okTr_and rfl ?_)
    refine CallK.u1 (Reader_Fail F.1 3 t.at_ 0) rfl ?_; (simp only [go_sem, Nat.reduceAdd, Nat.reduceMul, Int.reduceToNat, Nat.reduceLeDiff, Int.reduceLE, Int.reduceLT, ↓reduceIte, Int.reduceBEq, Int.reduceBNe, Int.reduceAdd, Int.reduceSub, Int.reduceMul, ← ee]; try refine okTr_and rfl ?_)
    refine CallK.u1 (hbr) rfl ?_; (simp only [go_sem, Nat.reduceAdd, Nat.reduceMul, Int.reduceToNat, Nat.reduceLeDiff, Int.reduceLE, Int.reduceLT, ↓reduceIte, Int.reduceBEq, Int.reduceBNe, Int.reduceAdd, Int.reduceSub, Int.reduceMul, ints_length, w1]; try refine okTr_and rfl ?_)
    exact FinK.finA r122 [0, 1, 2, 3]
theorem legacy_unplain1 (t : RS) (e base : Int) (k : Nat) (left pos : Int) (r b c d : Nat) (hnd : [r, b, c, d].Nodup) (ht : ROk t) (hp : IntKind.u64.wrap (base + k) = pos) (hk : k ≤ 1000000) (p0 : 0 ≤ pos) (p1 : pos < 18446744073709551616) (l0 : 0 ≤ left) (l1 : left ≤ 1048576) (hn : t.l.length * 32 ≤ 100000000000000) :
    Ct Tryz.prog 122 [iA k, .ref b 0, .ref c 0, .ref d 0] [(r, rdr t), (b, ptO r), (c, bO e base), (d, inO left)] (fun _ => enA (entV t pos left)) [(r, rdr ((t.lsing pos).blob left).1), (b, ptO r), (c, bO e base), (d, inO (left - ((t.lsing pos).blob left).2.length))] (fun _ => []) :=
  Ct.u4 (legacy_unplain10 t e base k left pos ht hp hk p0 p1 l0 l1 hn) r b c d hnd cl cl cl cl cl cl cl cl cl (by simp [rdr]) cl
theorem fall_code35 {s : RS} {b m : Int} (hc : ¬ s.code = 0) : (s.fall b m).1 = s := by
  have hi : (s.int m).1 = s := int_stays hc
  unfold RS.fall Fmt.counted
  rw [hi]
  rw [many_code (fun s acc hc => ?_) hc]
  simp only [fallF]
  rw [vint_bad hc]; simp only
  rw [if_neg (fun h => hc h.1)]
theorem links_code {s : RS} {pos : Int} (hc : ¬ s.code = 0) : (s.links pos).1 = s := by
  have hi : (s.int 16).1 = s := int_stays hc
  unfold RS.links Fmt.counted
  rw [hi]
  rw [many_code (fun s acc hc => ?_) hc]
  have hh : s.lkHead acc = s := by
    unfold RS.lkHead
    rw [vint_bad hc]; simp only
    rw [if_neg (fun h => hc h.1)]
  simp only [linkF]
  rw [hh]
  exact fall_code35 hc
theorem lsing_code {s : RS} {pos : Int} (hc : ¬ s.code = 0) : s.lsing pos = s := by
  have h1 := links_code (pos := pos) hc
  unfold RS.lsing
  rw [h1, if_neg (fun h => hc h.1)]
theorem entF_code (base : Int) : ∀ s acc, ¬ s.code = 0 → ((entF base).f s acc).1 = s := by
  intro s acc hc
  simp only [entF]
  split
  · simp only; rw [lsing_code hc, blob_code hc]
  · exact fail_stays hc
set_option maxHeartbeats 1000000 in
set_option maxRecDepth 100000 in
theorem legacy_manyE0 (u : RS) (e base : Int) (N : Nat) (hu : ROk u) (b0 : 0 ≤ base) (b1 : base < 18446744073709551616) (hN : N ≤ 1000000) (hf : u.code = 0 → base + N ≤ 4611686018427387904) (hn : u.l.length * 48 ≤ 100000000000000) :
    Does Tryz.prog 121 [.ref 0 0, iA N, .fn 122 [] [.ref 1 0, .ref 2 0, .ref 3 0]] [rdr u, ptO 0, bO e base, inO 1048576] (slE ((entF base).many N u []).2) [rdr ((entF base).many N u []).1, ptO 0, bO e base, .cells [.any]] := by
  have hF := entF_ok b0
  refine Does.runA Tryz.func121 b121 n121 Tryz.ntmps121 ?_; simp only [c121, go_sem, Nat.reduceAdd, Nat.reduceMul, Int.reduceToNat, Nat.reduceLeDiff, Int.reduceLE, Int.reduceLT, ↓reduceIte, Int.reduceBEq, Int.reduceBNe, Int.reduceAdd, Int.reduceSub, Int.reduceMul]; try refine okTr_and rfl ?_
  refine loop_of (α := RS × List En) (fun a => [.ref 0 0, .any, .fn 122 [] [.ref 1 0, .ref 2 0, .ref 3 0], .any, .any, .any, .any, .sl (.row 4) 2 (ens a.2), .any, .any, iA N, iA a.2.length, .any, .any, .any, .any, .any, .any, .any, .any, .any, .any, .any, .any, .any, .any]) (fun a => [rdr a.1, ptO 0, bO e base, inO (1048576 - (joinE a.2).length), .row 2 a.2.length]) (fun a => (entF base).On u N a ∧ (a.1.code = 0 → u.code = 0)) (fun a => N - a.2.length) (u, []) ⟨Fmt.On.start hu N, fun h => h⟩ ((Wk.row 7 2 rfl (.inr rfl) (by decide)).trans (Wk.to (by simp [joinE]) (by simp [leT, ens]))) ?_
  rintro ⟨t, acc⟩ ⟨ho, hor⟩
  have hla := ho.len
  have h1 := ho.ok
  have h2 := ho.l
  have h6 := ho.res
  have hwf := ho.wf
  simp only at h1 h2 h6 hwf hor
  have hsum := ent_sum hwf
  (simp only [go_sem, Nat.reduceAdd, Nat.reduceMul, Int.reduceToNat, Nat.reduceLeDiff, Int.reduceLE, Int.reduceLT, ↓reduceIte, Int.reduceBEq, Int.reduceBNe, Int.reduceAdd, Int.reduceSub, Int.reduceMul]; try refine okTr_and rfl ?_)
  by_cases hlt : acc.length < N
  · have q0 : decide ((acc.length : Int) < (N : Int)) = true := decide_eq_true (by omega)
    have ei := i64_succ acc.length (by omega)
    obtain ⟨pos, hpos⟩ : ∃ pos, IntKind.u64.wrap (base + (acc.length : Int)) = pos := ⟨_, rfl⟩
    have hpr : 0 ≤ pos ∧ pos < 18446744073709551616 := by
      rw [← hpos, IntKind.wrap_u64]; omega
    have hcl := legacy_unplain1 t e base acc.length (1048576 - (joinE acc).length) pos 0 1 2 3 (by decide) h1 hpos (by omega) hpr.1 hpr.2 (by omega) (by omega) (by rw [h2]; omega)
    have hff : ((entF base).f t acc).1 = ((t.lsing pos).blob (1048576 - (joinE acc).length)).1 ∧ (((t.lsing pos).blob (1048576 - (joinE acc).length)).1.code = 0 → ((entF base).f t acc).2 = entV t pos (1048576 - (joinE acc).length)) := by
      by_cases hc0 : t.code = 0
      · have hg : base + (acc.length : Int) < 4611686018427387904 := by
          have := hf (hor hc0)
          omega
        have hpe : pos = base + (acc.length : Int) := by rw [← hpos]; exact IntWalk.u64_in _ (by omega)
        rw [entF_f hg, ← hpe]
        exact ⟨rfl, fun _ => rfl⟩
      · rw [entF_code base t acc hc0, lsing_code hc0, blob_code hc0]
        exact ⟨rfl, fun hh => absurd hh hc0⟩
    have hdt : (entV t pos (1048576 - (joinE acc).length)).data = ((t.lsing pos).blob (1048576 - (joinE acc).length)).2 := rfl
    obtain ⟨V, hV⟩ : ∃ V, entV t pos (1048576 - (joinE acc).length) = V := ⟨_, rfl⟩
    rw [hV] at hff hcl hdt
    obtain ⟨D, hD⟩ : ∃ D, (t.lsing pos).blob (1048576 - (joinE acc).length) = D := ⟨_, rfl⟩
    rw [hD] at hff hcl hdt
    obtain ⟨hf1, hf2⟩ := hff
    (simp only [go_sem, Nat.reduceAdd, Nat.reduceMul, Int.reduceToNat, Nat.reduceLeDiff, Int.reduceLE, Int.reduceLT, ↓reduceIte, Int.reduceBEq, Int.reduceBNe, Int.reduceAdd, Int.reduceSub, Int.reduceMul, q0]; try refine okTr_and rfl ?_)
    refine CallK.u4 hcl rfl rfl rfl rfl ?_
    (simp only [go_sem, Nat.reduceAdd, Nat.reduceMul, Int.reduceToNat, Nat.reduceLeDiff, Int.reduceLE, Int.reduceLT, ↓reduceIte, Int.reduceBEq, Int.reduceBNe, Int.reduceAdd, Int.reduceSub, Int.reduceMul]; try refine okTr_and rfl ?_)
    refine CallK.r1 (Reader_Good D.1 0) rfl ?_; (simp only [go_sem, Nat.reduceAdd, Nat.reduceMul, Int.reduceToNat, Nat.reduceLeDiff, Int.reduceLE, Int.reduceLT, ↓reduceIte, Int.reduceBEq, Int.reduceBNe, Int.reduceAdd, Int.reduceSub, Int.reduceMul]; try refine okTr_and rfl ?_)
    by_cases hc : D.1.code = 0
    · have hg : D.1.good = true := by unfold RS.good; simpa using hc
      have hnx := ho.next hF hlt (by rw [hf1]; exact hc)
      rw [hf1, hf2 hc] at hnx
      have hrd := (hF.read t acc h1 hwf (by rw [hf1]; exact hc)).1
      have hss : (joinE (acc ++ [V])).length = (joinE acc).length + V.data.length := by rw [joinE_snoc, List.length_append]
      have e1 : 1048576 - ((joinE acc).length : Int) - (D.2.length : Int) = 1048576 - ((joinE (acc ++ [V])).length : Int) := by rw [hss, hdt]; omega
      have hsn : ens acc ++ [enA V] = ens (acc ++ [V]) := by simp [ens]
      (simp only [go_sem, Nat.reduceAdd, Nat.reduceMul, Int.reduceToNat, Nat.reduceLeDiff, Int.reduceLE, Int.reduceLT, ↓reduceIte, Int.reduceBEq, Int.reduceBNe, Int.reduceAdd, Int.reduceSub, Int.reduceMul, hg, hsn, ens_length, ei, e1]; try refine okTr_and rfl ?_)
      (repeat ((with_reducible refine And.intro ?_ ?_); (· exact sd)))
      exact ⟨(D.1, acc ++ [V]), ⟨hnx, fun _ => hor hrd⟩, by simp; omega, Wk.sel [0, 1, 2, 3, 4] (by simp) rfl (by simp) rfl (by simp [ixs_z, rdr_ren]) (by simp [selT, ixs_z, ixs])⟩
    · have hg : D.1.good = false := by unfold RS.good; simpa using hc
      have hb := many_bad (F := entF base) (s := t) hlt (by rw [hf1]; exact hc)
      rw [h6, hf1] at hb
      rw [hb]
      have hnil : ens [] = [] := rfl
      (simp only [go_sem, Nat.reduceAdd, Nat.reduceMul, Int.reduceToNat, Nat.reduceLeDiff, Int.reduceLE, Int.reduceLT, ↓reduceIte, Int.reduceBEq, Int.reduceBNe, Int.reduceAdd, Int.reduceSub, Int.reduceMul, hg]; try refine okTr_and rfl ?_)
      (refine FinK.nilk 6 2 rfl ?_; simp only [List.set_cons_zero, List.set_cons_succ])
      refine FinK.wao (ys := [.any]) 3 rfl (WaL.cons (Wa.anyL _) WaL.nil) ?_
      simp only [List.set_cons_zero, List.set_cons_succ]
      ((refine FinK.finB r121 [0, 1, 2, 3] ?_ ?_); (· first | with_reducible rfl | (simp [hnil]; done) | rfl); (· simp [resAL, resA1, loadA, oneOr, hnil]))
  · have q0 : decide ((acc.length : Int) < (N : Int)) = false := decide_eq_false (by omega)
    have he := many_end (F := entF base) (s := t) (acc := acc) (N := N) (by omega)
    rw [h6] at he
    rw [he]
    (simp only [go_sem, Nat.reduceAdd, Nat.reduceMul, Int.reduceToNat, Nat.reduceLeDiff, Int.reduceLE, Int.reduceLT, ↓reduceIte, Int.reduceBEq, Int.reduceBNe, Int.reduceAdd, Int.reduceSub, Int.reduceMul, q0]; try refine okTr_and rfl ?_)
    (refine FinK.untag 6 rfl ?_; simp only [untag1_sl, List.set_cons_zero, List.set_cons_succ])
    refine FinK.wao (ys := [.any]) 3 rfl (WaL.cons (Wa.anyL _) WaL.nil) ?_
    simp only [List.set_cons_zero, List.set_cons_succ]
    exact FinK.finA r121 [0, 1, 2, 3]
theorem legacy_manyE (u : RS) (e base : Int) (N : Nat) (hu : ROk u) (b0 : 0 ≤ base) (b1 : base < 18446744073709551616) (hN : N ≤ 1000000) (hf : u.code = 0 → base + N ≤ 4611686018427387904) (hn : u.l.length * 48 ≤ 100000000000000) (r b c d : Nat) (hnd : [r, b, c, d].Nodup) :
    Ct Tryz.prog 121 [.ref r 0, iA N, .fn 122 [] [.ref b 0, .ref c 0, .ref d 0]] [(r, rdr u), (b, ptO r), (c, bO e base), (d, inO 1048576)] (fun _ => slE ((entF base).many N u []).2) [(r, rdr ((entF base).many N u []).1), (b, ptO r), (c, bO e base), (d, .cells [.any])] (fun _ => []) :=
  Ct.u4 (legacy_manyE0 u e base N hu b0 b1 hN hf hn) r b c d hnd cl cl cl cl cl cl cl cl cl (by simp [rdr]) cl
set_option maxHeartbeats 1000000 in
set_option maxRecDepth 100000 in
theorem legacy_unplain0 (s : RS) (hs : ROk s) (hn : s.l.length ≤ 1000000) : Does Tryz.prog 54 [.ref 0 0] [rdr s] (btA s.unpl.2) [rdr (s.unpl.1)] := by
  obtain ⟨a, b⟩ := epo_keep hs epRight
  obtain ⟨c, d⟩ := epo_keep a epPos
  have hrg := epo_range a epPos
  have hck := cnt_keep c ((s.epo epRight).1.epo epPos).2 1 16
  have hcr := int_range (s := ((s.epo epRight).1.epo epPos).1) (m := 16) c.bys
  have hcs := cnt_snd ((s.epo epRight).1.epo epPos).1 ((s.epo epRight).1.epo epPos).2 1 16
  have hci := fun hc => (cnt_is c (base := ((s.epo epRight).1.epo epPos).2) (least := 1) (most := 16) hc)
  have hek := ents_keep c hrg.1
  have hem : ((s.epo epRight).1.epo epPos).1.ents ((s.epo epRight).1.epo epPos).2 = (entF ((s.epo epRight).1.epo epPos).2).many (((s.epo epRight).1.epo epPos).1.cnt ((s.epo epRight).1.epo epPos).2 1 16).2.toNat (((s.epo epRight).1.epo epPos).1.cnt ((s.epo epRight).1.epo epPos).2 1 16).1 [] := rfl
  have hun : s.unpl = ((((s.epo epRight).1.epo epPos).1.ents ((s.epo epRight).1.epo epPos).2).1.rest9, ⟨(s.epo epRight).2, ((s.epo epRight).1.epo epPos).2, (((s.epo epRight).1.epo epPos).1.ents ((s.epo epRight).1.epo epPos).2).2⟩) := rfl
  rw [hun]
  have hE1 := epoch_Read s 0 hs
  obtain ⟨E, hE⟩ : ∃ E, s.epo epRight = E := ⟨_, rfl⟩
  rw [hE] at a b c d hrg hck hcr hcs hci hek hem hE1 ⊢
  have hE2 := epoch_ReadPos E.1 0 a
  obtain ⟨P, hP⟩ : ∃ P, E.1.epo epPos = P := ⟨_, rfl⟩
  rw [hP] at c d hrg hck hcr hcs hci hek hem hE2 ⊢
  have hcn := legacy_counted P.1 P.2 1 16 0 c hrg.1 hrg.2 (by decide)
  obtain ⟨C, hC⟩ : ∃ C, P.1.cnt P.2 1 16 = C := ⟨_, rfl⟩
  rw [hC] at hck hcs hci hem hcn
  have hN : C.2 = (C.2.toNat : Int) := by omega
  have hmn := legacy_manyE C.1 E.2 P.2 C.2.toNat hck.1 hrg.1 hrg.2 (by omega) (fun hc => by have := (hci hc).2.2.2.2.2.1; omega) (by rw [hck.2, d, b]; omega) 0 1 3 4 (by decide)
  rw [← hem, ← hN] at hmn
  obtain ⟨O, hO⟩ : ∃ O, P.1.ents P.2 = O := ⟨_, rfl⟩
  rw [hO] at hek hmn ⊢
  refine Does.runA Tryz.func54 b54 n54 Tryz.ntmps54 ?_; simp only [c54, go_sem, Nat.reduceAdd, Nat.reduceMul, Int.reduceToNat, Nat.reduceLeDiff, Int.reduceLE, Int.reduceLT, ↓reduceIte, Int.reduceBEq, Int.reduceBNe, Int.reduceAdd, Int.reduceSub, Int.reduceMul]; try refine okTr_and rfl ?_
  refine CallK.u1 (hE1) rfl ?_; (simp only [go_sem, Nat.reduceAdd, Nat.reduceMul, Int.reduceToNat, Nat.reduceLeDiff, Int.reduceLE, Int.reduceLT, ↓reduceIte, Int.reduceBEq, Int.reduceBNe, Int.reduceAdd, Int.reduceSub, Int.reduceMul]; try refine okTr_and rfl ?_)
  refine CallK.u1 (hE2) rfl ?_; (simp only [go_sem, Nat.reduceAdd, Nat.reduceMul, Int.reduceToNat, Nat.reduceLeDiff, Int.reduceLE, Int.reduceLT, ↓reduceIte, Int.reduceBEq, Int.reduceBNe, Int.reduceAdd, Int.reduceSub, Int.reduceMul]; try refine okTr_and rfl ?_)
  refine CallK.u1 (hcn) rfl ?_; (simp only [go_sem, Nat.reduceAdd, Nat.reduceMul, Int.reduceToNat, Nat.reduceLeDiff, Int.reduceLE, Int.reduceLT, ↓reduceIte, Int.reduceBEq, Int.reduceBNe, Int.reduceAdd, Int.reduceSub, Int.reduceMul]; try refine okTr_and rfl ?_)
  refine CallK.u4 hmn rfl rfl rfl rfl ?_
  (simp only [go_sem, Nat.reduceAdd, Nat.reduceMul, Int.reduceToNat, Nat.reduceLeDiff, Int.reduceLE, Int.reduceLT, ↓reduceIte, Int.reduceBEq, Int.reduceBNe, Int.reduceAdd, Int.reduceSub, Int.reduceMul]; try refine okTr_and rfl ?_)
  refine CallK.u1 (Reader_End O.1 0 hek.1) rfl ?_; (simp only [go_sem, Nat.reduceAdd, Nat.reduceMul, Int.reduceToNat, Nat.reduceLeDiff, Int.reduceLE, Int.reduceLT, ↓reduceIte, Int.reduceBEq, Int.reduceBNe, Int.reduceAdd, Int.reduceSub, Int.reduceMul]; try refine okTr_and rfl ?_)
  exact FinK.finA r54 [0]
theorem legacy_unplain (s : RS) (i : Nat) (hs : ROk s) (hn : s.l.length ≤ 1000000) : Ct Tryz.prog 54 [.ref i 0] [(i, rdr s)] (fun _ => btA s.unpl.2) [(i, rdr (s.unpl.1))] (fun _ => []) := Ct.u1 (legacy_unplain0 s hs hn) i cl (fun ρ => rdr_ren ρ _) (fun ρ => rdr_ren ρ _) (rdr_dead _) cl
end Go.Proofs.YtnfagphepkeedaaGreat
end
section
namespace Go.Proofs.YtnfagphepkeedaaGreat
open Go.RowKit

theorem fault_Shift0 (c a n x : Int) (hx : IntKind.i64.wrap (a + n) = x) : Does Tryz.prog 55 [fltA (c, a), iA n] [] (fltA (flt c x)) [] := by
  refine Does.runA Tryz.func55 b55 n55 Tryz.ntmps55 ?_; simp only [c55, go_sem, Nat.reduceAdd, Nat.reduceMul, Int.reduceToNat, Nat.reduceLeDiff, Int.reduceLE, Int.reduceLT, ↓reduceIte, Int.reduceBEq, Int.reduceBNe, Int.reduceAdd, Int.reduceSub, Int.reduceMul, hx]; try refine okTr_and rfl ?_
  refine CallK.p (fault_At c x) ?_; (simp only [go_sem, Nat.reduceAdd, Nat.reduceMul, Int.reduceToNat, Nat.reduceLeDiff, Int.reduceLE, Int.reduceLT, ↓reduceIte, Int.reduceBEq, Int.reduceBNe, Int.reduceAdd, Int.reduceSub, Int.reduceMul]; try refine okTr_and rfl ?_)
  exact FinK.finA r55 []
theorem fault_Shift (c a n x : Int) (hx : IntKind.i64.wrap (a + n) = x) : Ct Tryz.prog 55 [fltA (c, a), iA n] [] (fun _ => fltA (flt c x)) [] (fun _ => []) := (fault_Shift0 c a n x hx).toCt cl cl
end Go.Proofs.YtnfagphepkeedaaGreat
end
section
namespace Go.Proofs.YtnfagphepkeedaaGreat
open Go.RowKit

abbrev bsO (ep : Int) (acc : List Bt) (j : Nat) : AObj := .cells [uA ep, .sl (.row j) 3 (bts acc)]
def batAcc (t : RS) (ep : Int) (acc : List Bt) : List Bt := if (t.frame 2097152).1.code = 0 then acc ++ [(t.bat ep acc).2] else acc
theorem frame_blen {t : RS} (ht : ROk t) (m : Int) : (t.frame m).2.length ≤ t.l.length := by
  by_cases hc : (t.frame m).1.code = 0
  · obtain ⟨f1, f2, f3, f4, f5⟩ := frame_is ht hc
    have h := congrArg List.length f5
    have k := (frame_keep ht m).1.at1
    rw [(frame_keep ht m).2] at k
    rw [List.length_take, List.length_append, List.length_take, frameB_len] at h
    unfold blobB at h
    rw [List.length_append] at h
    omega
  · rw [frame_bad hc]; simp
theorem frame_bys {t : RS} (ht : ROk t) (m : Int) : Bys (t.frame m).2 := by
  by_cases hc : (t.frame m).1.code = 0
  · exact (frame_is ht hc).2.2.1
  · rw [frame_bad hc]; intro x hx; simp at hx
set_option maxHeartbeats 1000000 in
set_option maxRecDepth 100000 in
theorem legacy_Decode210 (t : RS) (ep : Int) (acc : List Bt) (k : Int) (ht : ROk t) (hn : t.l.length ≤ 1000000) (ha : acc.length ≤ 1000000) (he : Ends acc) :
    Does Tryz.prog 51 [iA k, .ref 1 0, .ref 2 0] [rdr t, ptO 0, bsO ep acc 3, .row 3 acc.length] (btA (t.bat ep acc).2) [rdr (t.bat ep acc).1, ptO 0, bsO ep (batAcc t ep acc) 3, .row 3 (batAcc t ep acc).length] := by
  have hfk := frame_keep ht 2097152
  have hfl := frame_blen ht 2097152
  have hfb := frame_bys ht 2097152
  have hfr := frame_Read t 2097152 0 ht (by decide)
  have hb : t.bat ep acc = if (t.frame 2097152).1.code = 0 then
    (if (RS.new (t.frame 2097152).2).unpl.1.code = 0 then
      (if mayB ep acc (RS.new (t.frame 2097152).2).unpl.2 = true then ((t.frame 2097152).1, (RS.new (t.frame 2097152).2).unpl.2) else ((t.frame 2097152).1.fail 13 t.at_, (RS.new (t.frame 2097152).2).unpl.2))
    else ((t.frame 2097152).1.fail (RS.new (t.frame 2097152).2).unpl.1.code ((t.frame 2097152).1.at_ - 4 - (t.frame 2097152).2.length + (RS.new (t.frame 2097152).2).unpl.1.fat), (RS.new (t.frame 2097152).2).unpl.2))
  else ((t.frame 2097152).1, bt0) := rfl
  have hacc : batAcc t ep acc = if (t.frame 2097152).1.code = 0 then acc ++ [(t.bat ep acc).2] else acc := rfl
  obtain ⟨D, hD⟩ : ∃ D, t.frame 2097152 = D := ⟨_, rfl⟩
  rw [hD] at hfk hfl hfb hfr hb hacc
  have hq0 : ROk (RS.new D.2) := ROk.new hfb (by omega)
  have hup := legacy_unplain (RS.new D.2) 5 hq0 (by show D.2.length ≤ 1000000; omega)
  have hfa := (Fa.new D.2).unpl hq0
  have huk := unpl_keep hq0
  obtain ⟨U, hU⟩ : ∃ U, (RS.new D.2).unpl = U := ⟨_, rfl⟩
  rw [hU] at hup hfa huk hb
  have hul : U.1.l = D.2 := huk.2
  obtain ⟨fa0, fa1⟩ := hfa
  rw [hul] at fa1
  have hat0 := hfk.1.at0
  have hat1 := hfk.1.at1
  rw [hfk.2] at hat1
  have w1 : IntKind.i64.wrap (D.1.at_ - 4) = D.1.at_ - 4 := IntWalk.i64_in _ (by omega)
  have w2 : IntKind.i64.wrap (D.1.at_ - 4 - (D.2.length : Int)) = D.1.at_ - 4 - D.2.length := IntWalk.i64_in _ (by omega)
  have w3 : IntKind.i64.wrap (U.1.fat + (D.1.at_ - 4 - (D.2.length : Int))) = D.1.at_ - 4 - D.2.length + U.1.fat := by rw [IntWalk.i64_in _ (by omega)]; omega
  refine Does.runA Tryz.func51 b51 n51 Tryz.ntmps51 ?_; simp only [c51, go_sem, Nat.reduceAdd, Nat.reduceMul, Int.reduceToNat, Nat.reduceLeDiff, Int.reduceLE, Int.reduceLT, ↓reduceIte, Int.reduceBEq, Int.reduceBNe, Int.reduceAdd, Int.reduceSub, Int.reduceMul]; try refine okTr_and rfl ?_
  refine CallK.r1 (Reader_At t 0) rfl ?_; (simp only [go_sem, Nat.reduceAdd, Nat.reduceMul, Int.reduceToNat, Nat.reduceLeDiff, Int.reduceLE, Int.reduceLT, ↓reduceIte, Int.reduceBEq, Int.reduceBNe, Int.reduceAdd, Int.reduceSub, Int.reduceMul]; try refine okTr_and rfl ?_)
  refine CallK.u1 (hfr) rfl ?_; (simp only [go_sem, Nat.reduceAdd, Nat.reduceMul, Int.reduceToNat, Nat.reduceLeDiff, Int.reduceLE, Int.reduceLT, ↓reduceIte, Int.reduceBEq, Int.reduceBNe, Int.reduceAdd, Int.reduceSub, Int.reduceMul]; try refine okTr_and rfl ?_)
  refine CallK.r1 (Reader_Good D.1 0) rfl ?_; (simp only [go_sem, Nat.reduceAdd, Nat.reduceMul, Int.reduceToNat, Nat.reduceLeDiff, Int.reduceLE, Int.reduceLT, ↓reduceIte, Int.reduceBEq, Int.reduceBNe, Int.reduceAdd, Int.reduceSub, Int.reduceMul]; try refine okTr_and rfl ?_)
  by_cases hc : D.1.code = 0
  · have hg : D.1.good = true := by unfold RS.good; simpa using hc
    rw [if_pos hc] at hb hacc
    (simp only [go_sem, Nat.reduceAdd, Nat.reduceMul, Int.reduceToNat, Nat.reduceLeDiff, Int.reduceLE, Int.reduceLT, ↓reduceIte, Int.reduceBEq, Int.reduceBNe, Int.reduceAdd, Int.reduceSub, Int.reduceMul, hg]; try refine okTr_and rfl ?_)
    refine CallK.n (cursor_New D.2) ?_; (simp only [go_sem, Nat.reduceAdd, Nat.reduceMul, Int.reduceToNat, Nat.reduceLeDiff, Int.reduceLE, Int.reduceLT, ↓reduceIte, Int.reduceBEq, Int.reduceBNe, Int.reduceAdd, Int.reduceSub, Int.reduceMul]; try refine okTr_and rfl ?_)
    refine CallK.u1 (hup) rfl ?_; (simp only [go_sem, Nat.reduceAdd, Nat.reduceMul, Int.reduceToNat, Nat.reduceLeDiff, Int.reduceLE, Int.reduceLT, ↓reduceIte, Int.reduceBEq, Int.reduceBNe, Int.reduceAdd, Int.reduceSub, Int.reduceMul]; try refine okTr_and rfl ?_)
    refine CallK.r1 (Reader_Fault U.1 5) rfl ?_; (simp only [go_sem, Nat.reduceAdd, Nat.reduceMul, Int.reduceToNat, Nat.reduceLeDiff, Int.reduceLE, Int.reduceLT, ↓reduceIte, Int.reduceBEq, Int.reduceBNe, Int.reduceAdd, Int.reduceSub, Int.reduceMul]; try refine okTr_and rfl ?_)
    refine CallK.r1 (Reader_At D.1 0) rfl ?_; (simp only [go_sem, Nat.reduceAdd, Nat.reduceMul, Int.reduceToNat, Nat.reduceLeDiff, Int.reduceLE, Int.reduceLT, ↓reduceIte, Int.reduceBEq, Int.reduceBNe, Int.reduceAdd, Int.reduceSub, Int.reduceMul, ints_length, w1, w2]; try refine okTr_and rfl ?_)
    have hsh := fault_Shift U.1.code U.1.fat (D.1.at_ - 4 - D.2.length) _ w3
    by_cases hz : U.1.code = 0
    · rw [if_pos hz] at hb
      have ef : flt U.1.code (D.1.at_ - 4 - D.2.length + U.1.fat) = (0, 0) := by unfold flt; rw [if_pos hz]
      rw [ef] at hsh
      refine CallK.p (hsh) ?_; (simp only [go_sem, Nat.reduceAdd, Nat.reduceMul, Int.reduceToNat, Nat.reduceLeDiff, Int.reduceLE, Int.reduceLT, ↓reduceIte, Int.reduceBEq, Int.reduceBNe, Int.reduceAdd, Int.reduceSub, Int.reduceMul]; try refine okTr_and rfl ?_)
      refine CallK.p (fault_Good 0 0) ?_; (simp only [go_sem, Nat.reduceAdd, Nat.reduceMul, Int.reduceToNat, Nat.reduceLeDiff, Int.reduceLE, Int.reduceLT, ↓reduceIte, Int.reduceBEq, Int.reduceBNe, Int.reduceAdd, Int.reduceSub, Int.reduceMul]; try refine okTr_and rfl ?_)
      refine CallK.p (legacy_follows ep acc U.2 ha he) ?_
      cases hm : mayB ep acc U.2 with
      | true =>
        rw [if_pos hm] at hb
        rw [hb] at hacc
        rw [hb, hacc]
        simp only
        (simp only [go_sem, Nat.reduceAdd, Nat.reduceMul, Int.reduceToNat, Nat.reduceLeDiff, Int.reduceLE, Int.reduceLT, ↓reduceIte, Int.reduceBEq, Int.reduceBNe, Int.reduceAdd, Int.reduceSub, Int.reduceMul, bts_snoc, bts_length, List.length_append]; try refine okTr_and rfl ?_)
        (repeat ((with_reducible refine And.intro ?_ ?_); (· exact sd)))
        exact FinK.finA r51 [0, 1, 2, 3]
      | false =>
        rw [if_neg (by rw [hm]; decide)] at hb
        rw [hb] at hacc
        rw [hb, hacc]
        simp only
        (simp only [go_sem, Nat.reduceAdd, Nat.reduceMul, Int.reduceToNat, Nat.reduceLeDiff, Int.reduceLE, Int.reduceLT, ↓reduceIte, Int.reduceBEq, Int.reduceBNe, Int.reduceAdd, Int.reduceSub, Int.reduceMul]; try refine okTr_and rfl ?_)
        refine CallK.u1 (Reader_Fail D.1 13 t.at_ 0) rfl ?_; (simp only [go_sem, Nat.reduceAdd, Nat.reduceMul, Int.reduceToNat, Nat.reduceLeDiff, Int.reduceLE, Int.reduceLT, ↓reduceIte, Int.reduceBEq, Int.reduceBNe, Int.reduceAdd, Int.reduceSub, Int.reduceMul, bts_snoc, bts_length, List.length_append]; try refine okTr_and rfl ?_)
        (repeat ((with_reducible refine And.intro ?_ ?_); (· exact sd)))
        exact FinK.finA r51 [0, 1, 2, 3]
    · rw [if_neg hz] at hb
      have ef : flt U.1.code (D.1.at_ - 4 - D.2.length + U.1.fat) = (U.1.code, D.1.at_ - 4 - D.2.length + U.1.fat) := by unfold flt; rw [if_neg hz]
      have q : (U.1.code == 0) = false := by simpa using hz
      rw [ef] at hsh
      rw [hb] at hacc
      rw [hb, hacc]
      simp only
      refine CallK.p (hsh) ?_; (simp only [go_sem, Nat.reduceAdd, Nat.reduceMul, Int.reduceToNat, Nat.reduceLeDiff, Int.reduceLE, Int.reduceLT, ↓reduceIte, Int.reduceBEq, Int.reduceBNe, Int.reduceAdd, Int.reduceSub, Int.reduceMul]; try refine okTr_and rfl ?_)
      refine CallK.p (fault_Good U.1.code (D.1.at_ - 4 - D.2.length + U.1.fat)) ?_; (simp only [go_sem, Nat.reduceAdd, Nat.reduceMul, Int.reduceToNat, Nat.reduceLeDiff, Int.reduceLE, Int.reduceLT, ↓reduceIte, Int.reduceBEq, Int.reduceBNe, Int.reduceAdd, Int.reduceSub, Int.reduceMul, q]; try refine okTr_and rfl ?_)
      refine CallK.u1 (Reader_Fail D.1 U.1.code (D.1.at_ - 4 - D.2.length + U.1.fat) 0) rfl ?_; (simp only [go_sem, Nat.reduceAdd, Nat.reduceMul, Int.reduceToNat, Nat.reduceLeDiff, Int.reduceLE, Int.reduceLT, ↓reduceIte, Int.reduceBEq, Int.reduceBNe, Int.reduceAdd, Int.reduceSub, Int.reduceMul, bts_snoc, bts_length, List.length_append]; try refine okTr_and rfl ?_)
      (repeat ((with_reducible refine And.intro ?_ ?_); (· exact sd)))
      exact FinK.finA r51 [0, 1, 2, 3]
  · have hg : D.1.good = false := by unfold RS.good; simpa using hc
    rw [if_neg hc] at hb hacc
    rw [hb, hacc]
    have hnil : ens [] = [] := rfl
    (simp only [go_sem, Nat.reduceAdd, Nat.reduceMul, Int.reduceToNat, Nat.reduceLeDiff, Int.reduceLE, Int.reduceLT, ↓reduceIte, Int.reduceBEq, Int.reduceBNe, Int.reduceAdd, Int.reduceSub, Int.reduceMul, hg]; try refine okTr_and rfl ?_)
    (refine FinK.wao (ys := [uA 0, uA 0, slE []]) 4 rfl (by repeat (first | exact Wa.refl _ | exact WaL.nil | exact Wa.nil | exact Wa.none | refine WaL.cons ?_ ?_ | refine Wa.agg ?_ | refine Wa.slN ?_ | refine Wa.slS ?_ | exact WaL.refl _)) ?_; simp only [List.set_cons_zero, List.set_cons_succ])
    ((refine FinK.finB r51 [0, 1, 2, 3] ?_ ?_); (· first | with_reducible rfl | (simp [bt0, hnil]; done) | rfl); (· simp [resAL, resA1, loadA, oneOr, bt0, hnil]))
theorem legacy_Decode21 (t : RS) (ep : Int) (acc : List Bt) (k : Int) (ht : ROk t) (hn : t.l.length ≤ 1000000) (ha : acc.length ≤ 1000000) (he : Ends acc) (r b c d : Nat) (hnd : [r, b, c, d].Nodup) :
    Ct Tryz.prog 51 [iA k, .ref b 0, .ref c 0] [(r, rdr t), (b, ptO r), (c, bsO ep acc d), (d, .row 3 acc.length)] (fun _ => btA (t.bat ep acc).2) [(r, rdr (t.bat ep acc).1), (b, ptO r), (c, bsO ep (batAcc t ep acc) d), (d, .row 3 (batAcc t ep acc).length)] (fun _ => []) :=
  Ct.u4 (legacy_Decode210 t ep acc k ht hn ha he) r b c d hnd cl cl cl cl cl cl cl cl cl (by simp [rdr]) cl
theorem ends_wf {ep : Int} {l : List Bt} (h : Wf (batF ep).nx [] l) : Ends l := by
  intro h0
  have hm : btLast l ∈ l := by
    unfold btLast
    have : l.length - 1 < l.length := by omega
    simp [this]
  obtain ⟨i, hi, e⟩ := List.getElem_of_mem hm
  have hn := wf_get i hi h
  rw [e] at hn
  obtain ⟨r1, ⟨r2, r3⟩, r4⟩ := rightB_iff.1 hn.rt
  exact ⟨by omega, hn.ok.b0, by omega⟩
abbrev bsF (ep : Int) (F : RS × List Bt) : AObj := .cells [uA ep, if F.1.code = 0 then slB F.2 else .any]
theorem bsF_ren (ep : Int) (F : RS × List Bt) (ρ : Nat → Nat) : (bsF ep F).ren ρ = bsF ep F := by
  by_cases h : F.1.code = 0 <;> simp [h, ixs_z]
set_option maxHeartbeats 1000000 in
set_option maxRecDepth 100000 in
theorem legacy_manyB0 (u : RS) (ep : Int) (N : Nat) (hu : ROk u) (hN : N ≤ 1000000) (hn : u.l.length ≤ 1000000) :
    Does Tryz.prog 50 [.ref 0 0, iA N, .fn 51 [] [.ref 1 0, .ref 2 0]] [rdr u, ptO 0, .cells [uA ep, .sl .full 1 []]] .any [rdr ((batF ep).many N u []).1, ptO 0, bsF ep ((batF ep).many N u [])] := by
  have hF := batF_ok ep
  refine Does.runA Tryz.func50 b50 n50 Tryz.ntmps50 ?_; simp only [c50, go_sem, Nat.reduceAdd, Nat.reduceMul, Int.reduceToNat, Nat.reduceLeDiff, Int.reduceLE, Int.reduceLT, ↓reduceIte, Int.reduceBEq, Int.reduceBNe, Int.reduceAdd, Int.reduceSub, Int.reduceMul]; try refine okTr_and rfl ?_
  refine loop_of (α := RS × List Bt) (fun a => [.ref 0 0, .any, .fn 51 [] [.ref 1 0, .ref 2 0], .any, .any, .any, .any, .sl (.row 4) 3 (bts a.2), .any, .any, iA N, iA a.2.length, .any, .any, .any, .any, .any, .any, .any, .any, .any, .any, .any, .any, .any, .any]) (fun a => [rdr a.1, ptO 0, bsO ep a.2 3, .row 3 a.2.length, .row 3 a.2.length]) (fun a => (batF ep).On u N a) (fun a => N - a.2.length) (u, []) (Fmt.On.start hu N) ((Wk.rowObj 2 1 3 rfl rfl (.inr rfl) (by decide)).trans ((Wk.row 7 3 rfl (.inr rfl) (by decide)).trans (Wk.to (by rfl) (by simp [leT, bts])))) ?_
  rintro ⟨t, acc⟩ ho
  have hla := ho.len
  have h1 := ho.ok
  have h2 := ho.l
  have h6 := ho.res
  have hwf := ho.wf
  simp only at h1 h2 h6 hwf
  have hends := ends_wf hwf
  (simp only [go_sem, Nat.reduceAdd, Nat.reduceMul, Int.reduceToNat, Nat.reduceLeDiff, Int.reduceLE, Int.reduceLT, ↓reduceIte, Int.reduceBEq, Int.reduceBNe, Int.reduceAdd, Int.reduceSub, Int.reduceMul]; try refine okTr_and rfl ?_)
  by_cases hlt : acc.length < N
  · have q0 : decide ((acc.length : Int) < (N : Int)) = true := decide_eq_true (by omega)
    have ei := i64_succ acc.length (by omega)
    have hcl := legacy_Decode21 t ep acc acc.length h1 (by rw [h2]; exact hn) (by omega) hends 0 1 2 3 (by decide)
    have hff : (batF ep).f t acc = t.bat ep acc := rfl
    have hfc := bat_is (s := t) (ep := ep) (acc := acc)
    have hac : batAcc t ep acc = if (t.frame 2097152).1.code = 0 then acc ++ [(t.bat ep acc).2] else acc := rfl
    obtain ⟨D, hD⟩ : ∃ D, t.bat ep acc = D := ⟨_, rfl⟩
    rw [hD] at hcl hff hfc hac
    obtain ⟨A, hA⟩ : ∃ A, batAcc t ep acc = A := ⟨_, rfl⟩
    rw [hA] at hcl hac
    (simp only [go_sem, Nat.reduceAdd, Nat.reduceMul, Int.reduceToNat, Nat.reduceLeDiff, Int.reduceLE, Int.reduceLT, ↓reduceIte, Int.reduceBEq, Int.reduceBNe, Int.reduceAdd, Int.reduceSub, Int.reduceMul, q0]; try refine okTr_and rfl ?_)
    refine CallK.u4 hcl rfl rfl rfl rfl ?_
    (simp only [go_sem, Nat.reduceAdd, Nat.reduceMul, Int.reduceToNat, Nat.reduceLeDiff, Int.reduceLE, Int.reduceLT, ↓reduceIte, Int.reduceBEq, Int.reduceBNe, Int.reduceAdd, Int.reduceSub, Int.reduceMul]; try refine okTr_and rfl ?_)
    refine CallK.r1 (Reader_Good D.1 0) rfl ?_; (simp only [go_sem, Nat.reduceAdd, Nat.reduceMul, Int.reduceToNat, Nat.reduceLeDiff, Int.reduceLE, Int.reduceLT, ↓reduceIte, Int.reduceBEq, Int.reduceBNe, Int.reduceAdd, Int.reduceSub, Int.reduceMul]; try refine okTr_and rfl ?_)
    by_cases hc : D.1.code = 0
    · have hg : D.1.good = true := by unfold RS.good; simpa using hc
      have hnx := ho.next hF hlt (by rw [hff]; exact hc)
      rw [hff] at hnx
      rw [if_pos (hfc hc).1] at hac
      have e1 : A.length = (acc ++ [D.2]).length := by rw [hac]
      rw [hac]
      (simp only [go_sem, Nat.reduceAdd, Nat.reduceMul, Int.reduceToNat, Nat.reduceLeDiff, Int.reduceLE, Int.reduceLT, ↓reduceIte, Int.reduceBEq, Int.reduceBNe, Int.reduceAdd, Int.reduceSub, Int.reduceMul, hg, bts_snoc, bts_length, ei]; try refine okTr_and rfl ?_)
      (repeat ((with_reducible refine And.intro ?_ ?_); (· exact sd)))
      exact ⟨(D.1, acc ++ [D.2]), hnx, by simp; omega, Wk.sel [0, 1, 2, 3, 4] (by simp) rfl (by simp) rfl (by simp [ixs_z, rdr_ren, ixs]) (by simp [selT, ixs_z, ixs])⟩
    · have hg : D.1.good = false := by unfold RS.good; simpa using hc
      have hb := many_bad (F := batF ep) (s := t) hlt (by rw [hff]; exact hc)
      rw [h6, hff] at hb
      rw [hb]
      have hbf : bsF ep (D.1, []) = .cells [uA ep, .any] := by simp [bsF, hc]
      rw [hbf]
      (simp only [go_sem, Nat.reduceAdd, Nat.reduceMul, Int.reduceToNat, Nat.reduceLeDiff, Int.reduceLE, Int.reduceLT, ↓reduceIte, Int.reduceBEq, Int.reduceBNe, Int.reduceAdd, Int.reduceSub, Int.reduceMul, hg]; try refine okTr_and rfl ?_)
      refine FinK.wa (y := .any) 6 rfl (Wa.anyS _ _ _) ?_
      simp only [List.set_cons_zero, List.set_cons_succ]
      refine FinK.wao (ys := [uA ep, .any]) 2 rfl (WaL.cons (Wa.refl _) (WaL.cons (Wa.anyS _ _ _) WaL.nil)) ?_
      simp only [List.set_cons_zero, List.set_cons_succ]
      exact FinK.finA r50 [0, 1, 2]
  · have q0 : decide ((acc.length : Int) < (N : Int)) = false := decide_eq_false (by omega)
    have he := many_end (F := batF ep) (s := t) (acc := acc) (N := N) (by omega)
    rw [h6] at he
    rw [he]
    (simp only [go_sem, Nat.reduceAdd, Nat.reduceMul, Int.reduceToNat, Nat.reduceLeDiff, Int.reduceLE, Int.reduceLT, ↓reduceIte, Int.reduceBEq, Int.reduceBNe, Int.reduceAdd, Int.reduceSub, Int.reduceMul, q0]; try refine okTr_and rfl ?_)
    refine FinK.wa (y := .any) 6 rfl (Wa.anyS _ _ _) ?_
    simp only [List.set_cons_zero, List.set_cons_succ]
    by_cases hc : t.code = 0
    · have hbf : bsF ep (t, acc) = .cells [uA ep, slB acc] := by simp [bsF, hc]
      rw [hbf]
      (refine FinK.unobj 2 rfl ?_; simp only [List.set_cons_zero, List.set_cons_succ, List.map_cons, List.map_nil, untag1_lit, untag1_sl])
      exact FinK.finA r50 [0, 1, 2]
    · have hbf : bsF ep (t, acc) = .cells [uA ep, .any] := by simp [bsF, hc]
      rw [hbf]
      refine FinK.wao (ys := [uA ep, .any]) 2 rfl (WaL.cons (Wa.refl _) (WaL.cons (Wa.anyS _ _ _) WaL.nil)) ?_
      simp only [List.set_cons_zero, List.set_cons_succ]
      exact FinK.finA r50 [0, 1, 2]
theorem legacy_manyB (u : RS) (ep : Int) (N : Nat) (hu : ROk u) (hN : N ≤ 1000000) (hn : u.l.length ≤ 1000000) (r b c : Nat) (hnd : [r, b, c].Nodup) :
    Ct Tryz.prog 50 [.ref r 0, iA N, .fn 51 [] [.ref b 0, .ref c 0]] [(r, rdr u), (b, ptO r), (c, .cells [uA ep, .sl .full 1 []])] (fun _ => .any) [(r, rdr ((batF ep).many N u []).1), (b, ptO r), (c, bsF ep ((batF ep).many N u []))] (fun _ => []) :=
  Ct.u3 (legacy_manyB0 u ep N hu hN hn) r b c hnd cl cl cl cl cl cl (fun N => bsF_ren ep _ _) (by simp [rdr]) cl
def got2 (s : RS) (u : Sg2) : Sg2 × (Int × Int) := if s.code = 0 then (u, (0, 0)) else (sg20, (s.code, s.fat))
/-- Where there is a fault the segment is not looked at. -/
theorem legacy_got20 (s : RS) (u : Sg2) (x : AV) (hx : s.code = 0 → x = slB u.bt) (hr : ∀ ρ, x.ren ρ = x) (hp : x = .any ∨ ∃ l, x = slB l) : Does Tryz.prog 59 [.ref 0 0, .agg [uA u.ep, x]] [rdr s] (.tup [sg2A (got2 s u).1, fltA (got2 s u).2]) [rdr (s)] := by
  by_cases hc : s.code = 0
  · have q : (s.code == 0) = true := by simpa using hc
    have e : got2 s u = (u, (0, 0)) := by unfold got2; rw [if_pos hc]
    rw [e, hx hc]
    refine Does.runA Tryz.func59 b59 n59 Tryz.ntmps59 ?_; simp only [c59, go_sem, Nat.reduceAdd, Nat.reduceMul, Int.reduceToNat, Nat.reduceLeDiff, Int.reduceLE, Int.reduceLT, ↓reduceIte, Int.reduceBEq, Int.reduceBNe, Int.reduceAdd, Int.reduceSub, Int.reduceMul]; try refine okTr_and rfl ?_
    refine CallK.r1 (Reader_Fault s 0) rfl ?_; (simp only [go_sem, Nat.reduceAdd, Nat.reduceMul, Int.reduceToNat, Nat.reduceLeDiff, Int.reduceLE, Int.reduceLT, ↓reduceIte, Int.reduceBEq, Int.reduceBNe, Int.reduceAdd, Int.reduceSub, Int.reduceMul]; try refine okTr_and rfl ?_)
    refine CallK.p (fault_Good s.code s.fat) ?_; (simp only [go_sem, Nat.reduceAdd, Nat.reduceMul, Int.reduceToNat, Nat.reduceLeDiff, Int.reduceLE, Int.reduceLT, ↓reduceIte, Int.reduceBEq, Int.reduceBNe, Int.reduceAdd, Int.reduceSub, Int.reduceMul, q]; try refine okTr_and rfl ?_)
    exact FinK.finA r59 [0]
  · have q : (s.code == 0) = false := by simpa using hc
    have e : got2 s u = (sg20, (s.code, s.fat)) := by unfold got2; rw [if_neg hc]
    rw [e]
    refine Does.runA Tryz.func59 b59 n59 Tryz.ntmps59 ?_; simp only [c59, go_sem, Nat.reduceAdd, Nat.reduceMul, Int.reduceToNat, Nat.reduceLeDiff, Int.reduceLE, Int.reduceLT, ↓reduceIte, Int.reduceBEq, Int.reduceBNe, Int.reduceAdd, Int.reduceSub, Int.reduceMul]; try refine okTr_and rfl ?_
    refine CallK.r1 (Reader_Fault s 0) rfl ?_; (simp only [go_sem, Nat.reduceAdd, Nat.reduceMul, Int.reduceToNat, Nat.reduceLeDiff, Int.reduceLE, Int.reduceLT, ↓reduceIte, Int.reduceBEq, Int.reduceBNe, Int.reduceAdd, Int.reduceSub, Int.reduceMul]; try refine okTr_and rfl ?_)
    refine CallK.p (fault_Good s.code s.fat) ?_; (simp only [go_sem, Nat.reduceAdd, Nat.reduceMul, Int.reduceToNat, Nat.reduceLeDiff, Int.reduceLE, Int.reduceLT, ↓reduceIte, Int.reduceBEq, Int.reduceBNe, Int.reduceAdd, Int.reduceSub, Int.reduceMul, q]; try refine okTr_and rfl ?_)
    (refine FinK.wao (ys := [uA 0, slB []]) 2 rfl (by repeat (first | exact Wa.refl _ | exact WaL.nil | exact Wa.nil | exact Wa.none | refine WaL.cons ?_ ?_ | refine Wa.agg ?_ | refine Wa.slN ?_ | refine Wa.slS ?_ | exact WaL.refl _)) ?_; simp only [List.set_cons_zero, List.set_cons_succ])
    ((refine FinK.finB r59 [0] ?_ ?_); (· first | with_reducible rfl | (simp [sg20, bts_nil]; done) | rfl); (· simp [resAL, resA1, loadA, oneOr, sg20, bts_nil]))
set_option maxHeartbeats 1000000 in
set_option maxRecDepth 100000 in
theorem legacy_Decode20 (b : List Int) (hb : Bys b) (hn : b.length ≤ 1000000) : Does Tryz.prog 10 [slA .u8 b] [] (.tup [sg2A (dec2 b).1, fltA (dec2 b).2]) [] := by
  have hok : ROk (RS.new b) := ROk.new hb (by omega)
  have hbk := begin_keep hok 2
  have hir := int_range (s := (RS.new b).begin 2) (m := 32) hbk.1.bys
  have hik := hbk.1.int 32
  have hbl : (RS.new b).l = b := rfl
  have hck := counted_keep (batF_ok (RS.new b).header.2.ep) hbk.1 32
  have hdef : dec2 b = got2 (RS.new b).dec2.1 (RS.new b).dec2.2 := rfl
  have hd1 : (RS.new b).dec2 = ((((RS.new b).begin 2).bats (RS.new b).header.2.ep).1.rest9, ⟨(RS.new b).header.2.ep, (((RS.new b).begin 2).bats (RS.new b).header.2.ep).2⟩) := rfl
  rw [hdef, hd1]
  have hom : ((RS.new b).begin 2).bats (RS.new b).header.2.ep = (batF (RS.new b).header.2.ep).many (((RS.new b).begin 2).int 32).2.toNat (((RS.new b).begin 2).int 32).1 [] := rfl
  have hck1 : ROk (((RS.new b).begin 2).bats (RS.new b).header.2.ep).1 := hck.1
  have hbg := legacy_begin (RS.new b) 2 2 hok (by decide)
  obtain ⟨H, hH⟩ : ∃ H, (RS.new b).header.2 = H := ⟨_, rfl⟩
  rw [hH] at hck1 hom hbg ⊢
  obtain ⟨B, hB⟩ : ∃ B, (RS.new b).begin 2 = B := ⟨_, rfl⟩
  rw [hB] at hbk hir hik hck1 hom hbg ⊢
  have hin := varint_ReadInt B 32 2 (by decide) hbk.1.ok hbk.1.bys
  obtain ⟨C, hC⟩ : ∃ C, B.int 32 = C := ⟨_, rfl⟩
  rw [hC] at hir hik hom hin
  have hN : C.2 = (C.2.toNat : Int) := by omega
  have hmn := legacy_manyB C.1 H.ep C.2.toNat hik.1 (by omega) (by rw [hik.2, hbk.2, hbl]; exact hn) 2 3 5 (by decide)
  rw [← hom, ← hN] at hmn
  obtain ⟨O, hO⟩ : ∃ O, B.bats H.ep = O := ⟨_, rfl⟩
  rw [hO] at hck1 hmn ⊢
  obtain ⟨x, hx⟩ : ∃ x, (if O.1.code = 0 then slB O.2 else AV.any) = x := ⟨_, rfl⟩
  have hx1 : O.1.rest9.code = 0 → x = slB (⟨H.ep, O.2⟩ : Sg2).bt := fun h => by rw [← hx, if_pos (rest9_code h).1]
  have hx2 : ∀ ρ, x.ren ρ = x := fun ρ => by rw [← hx]; split <;> simp [ixs_z]
  have hx3 : x = .any ∨ ∃ l, x = slB l := by
    rw [← hx]; split
    · exact .inr ⟨_, rfl⟩
    · exact .inl rfl
  have hbf : bsF H.ep O = .cells [uA H.ep, x] := by rw [← hx]
  rw [hbf] at hmn
  have hgt := legacy_got20 O.1.rest9 ⟨H.ep, O.2⟩ x hx1 hx2 hx3
  have hgc : Ct Tryz.prog 59 [.ref 2 0, .agg [uA H.ep, x]] [(2, rdr O.1.rest9)] (fun _ => .tup [sg2A (got2 O.1.rest9 ⟨H.ep, O.2⟩).1, fltA (got2 O.1.rest9 ⟨H.ep, O.2⟩).2]) [] (fun _ => []) :=
    Ct.r1 hgt 2 (by intros; simp [ixs_z, ixs, hx2]) (fun ρ => rdr_ren ρ _) (rdr_dead _) cl
  have hut : untag1 x = x := by rcases hx3 with h | ⟨l, h⟩ <;> rw [h] <;> rfl
  refine Does.runA Tryz.func10 b10 n10 Tryz.ntmps10 ?_; simp only [c10, go_sem, Nat.reduceAdd, Nat.reduceMul, Int.reduceToNat, Nat.reduceLeDiff, Int.reduceLE, Int.reduceLT, ↓reduceIte, Int.reduceBEq, Int.reduceBNe, Int.reduceAdd, Int.reduceSub, Int.reduceMul]; try refine okTr_and rfl ?_
  refine CallK.n (cursor_New b) ?_; (simp only [go_sem, Nat.reduceAdd, Nat.reduceMul, Int.reduceToNat, Nat.reduceLeDiff, Int.reduceLE, Int.reduceLT, ↓reduceIte, Int.reduceBEq, Int.reduceBNe, Int.reduceAdd, Int.reduceSub, Int.reduceMul]; try refine okTr_and rfl ?_)
  refine CallK.u1 (hbg) rfl ?_; (simp only [go_sem, Nat.reduceAdd, Nat.reduceMul, Int.reduceToNat, Nat.reduceLeDiff, Int.reduceLE, Int.reduceLT, ↓reduceIte, Int.reduceBEq, Int.reduceBNe, Int.reduceAdd, Int.reduceSub, Int.reduceMul]; try refine okTr_and rfl ?_)
  refine CallK.u1 (hin) rfl ?_; (simp only [go_sem, Nat.reduceAdd, Nat.reduceMul, Int.reduceToNat, Nat.reduceLeDiff, Int.reduceLE, Int.reduceLT, ↓reduceIte, Int.reduceBEq, Int.reduceBNe, Int.reduceAdd, Int.reduceSub, Int.reduceMul]; try refine okTr_and rfl ?_)
  refine CallK.u3 hmn rfl rfl rfl ?_
  (simp only [go_sem, Nat.reduceAdd, Nat.reduceMul, Int.reduceToNat, Nat.reduceLeDiff, Int.reduceLE, Int.reduceLT, ↓reduceIte, Int.reduceBEq, Int.reduceBNe, Int.reduceAdd, Int.reduceSub, Int.reduceMul]; try refine okTr_and rfl ?_)
  refine CallK.u1 (Reader_End O.1 2 hck1) rfl ?_; (simp only [go_sem, Nat.reduceAdd, Nat.reduceMul, Int.reduceToNat, Nat.reduceLeDiff, Int.reduceLE, Int.reduceLT, ↓reduceIte, Int.reduceBEq, Int.reduceBNe, Int.reduceAdd, Int.reduceSub, Int.reduceMul]; try refine okTr_and rfl ?_)
  refine CallK.r1 (i := 2) (o := rdr O.1.rest9) (r := .tup [sg2A (got2 O.1.rest9 ⟨H.ep, O.2⟩).1, fltA (got2 O.1.rest9 ⟨H.ep, O.2⟩).2]) (show Ct _ _ [.ref 2 0, .agg [uA H.ep, untag1 x]] _ _ _ _ from by rw [hut]; exact hgc) rfl ?_
  (simp only [go_sem, Nat.reduceAdd, Nat.reduceMul, Int.reduceToNat, Nat.reduceLeDiff, Int.reduceLE, Int.reduceLT, ↓reduceIte, Int.reduceBEq, Int.reduceBNe, Int.reduceAdd, Int.reduceSub, Int.reduceMul]; try refine okTr_and rfl ?_)
  exact FinK.finA r10 []
theorem legacy_Decode2 (b : List Int) (hb : Bys b) (hn : b.length ≤ 1000000) : Ct Tryz.prog 10 [slA .u8 b] [] (fun _ => .tup [sg2A (dec2 b).1, fltA (dec2 b).2]) [] (fun _ => []) := (legacy_Decode20 b hb hn).toCt cl cl
end Go.Proofs.YtnfagphepkeedaaGreat
end
section
namespace Go.Proofs.YtnfagphepkeedaaGreat
open Go.RowKit

structure S2 where
  t : RS
  xs : List AV
  i : Nat
structure S2.ok (ep : Int) (u : RS) (N : Nat) (s : S2) : Prop where
  i : s.i ≤ N
  x : s.xs.length ≤ N
  st : (∃ acc, s.xs = bts acc ∧ acc.length = s.i ∧ (batF ep).On u N (s.t, acc)) ∨ (¬ s.t.code = 0 ∧ (batF ep).many N u [] = (s.t, []))
  k : 3 ≤ 3
  okx : ∀ ρ : Nat → Nat, s.xs.map (fun x => x.ren ρ) = s.xs
end Go.Proofs.YtnfagphepkeedaaGreat
end
section
namespace Go.Proofs.YtnfagphepkeedaaGreat
open Go.RowKit

theorem encE_take {base : Int} {l : List En} {k : Nat} (h : k < l.length) : encs (entF base).enc [] (l.take (k + 1)) = encs (entF base).enc [] (l.take k) ++ (linksB (base + k) (l.getD k en0).lk ++ blobB (l.getD k en0).data) := by
  have el : (l.take k).length = k := by rw [List.length_take]; omega
  rw [en_take l k h, encs_snoc, List.nil_append]
  simp only [entF]
  rw [el]
theorem encE_le {base : Int} {l : List En} : ∀ k, k ≤ l.length → (encs (entF base).enc [] (l.take k)).length ≤ (encs (entF base).enc [] l).length := by
  intro k hk
  have gen : ∀ n, k + n = l.length → (encs (entF base).enc [] (l.take k)).length ≤ (encs (entF base).enc [] l).length := by
    intro n
    induction n generalizing k with
    | zero => intro h; rw [List.take_of_length_le (by omega)]; exact Nat.le_refl _
    | succ n ih =>
      intro h
      have h1 := ih (k + 1) (by omega) (by omega)
      rw [encE_take (by omega), List.length_append] at h1
      omega
  exact gen (l.length - k) (by omega)
set_option maxHeartbeats 2000000 in
set_option maxRecDepth 100000 in
theorem legacy_plain0 (b : Bt) (hb : b.ok) (hs : SmallB b) (hr : rightB b = true) (hsg : singleB b = true) : Does Tryz.prog 87 [btA b] [] (slA .u8 (plB b)) [] := by
  obtain ⟨g1, ⟨⟨g2, g2'⟩, g3, g4⟩, hwf⟩ := (rightB_wf hb.en).1 ⟨hr, hsg⟩
  obtain ⟨r1, r2, r3, r4⟩ := rightB_iff.1 hr
  have hen := encs_ents hb.b0 hwf
  have hes := ent_sum hwf
  have b0 := hb.b0
  obtain ⟨Z, hZ⟩ : ∃ Z : Nat → Nat, Z = fun k => (encs (entF b.base).enc [] (b.en.take k)).length := ⟨_, rfl⟩
  have hZ0 : Z 0 = 0 := by rw [hZ]; simp [encs]
  have hZn : Z b.en.length = (encs (entF b.base).enc [] b.en).length := by rw [hZ]; simp
  have hZs : ∀ k, k < b.en.length → Z (k + 1) = Z k + ((linksB (b.base + k) (b.en.getD k en0).lk).length + ((vb ((b.en.getD k en0).data.length : Int)).length + (b.en.getD k en0).data.length)) := fun k hk => by
    rw [hZ]; simp only; rw [encE_take hk]; simp only [blobB, List.length_append]
  have hZl : ∀ k, k ≤ b.en.length → Z k ≤ 1070000 := fun k hk => by
    have := encE_le (base := b.base) (l := b.en) k hk
    rw [hZ]; simp only; omega
  refine Does.runA Tryz.func87 b87 n87 Tryz.ntmps87 ?_; simp only [c87, go_sem, Nat.reduceAdd, Nat.reduceMul, Int.reduceToNat, Nat.reduceLeDiff, Int.reduceLE, Int.reduceLT, ↓reduceIte, Int.reduceBEq, Int.reduceBNe, Int.reduceAdd, Int.reduceSub, Int.reduceMul, ens_length]; try refine okTr_and rfl ?_
  refine loop_of (α := Nat) (fun k => [.any, .ref 0 0, .any, iA (30 + (Z k : Int)), .any, .any, .any, .any, .any, .any, .any, .any, slE b.en, iA b.en.length, iA k, .any, .any, .any, .any, .any, .any, .any, .any, .any, .any, .any, .any, .any, .any, .any, .any, .any, .any, .any, .any, .any, .any, .any, .any, .any, .any, .any, .any, .any, .any, .any, .any, .any, .any, .any, .any, .any, .any, .any, .any, .any, .any, .any, .any, .any, .any, .any, .any, .any, .any, .any, .any, .any, .any, .any, .any, .any, .any, .any, .any, .any, .any]) (fun _ => [btO b]) (fun k => k ≤ b.en.length) (fun k => b.en.length - k) 0 (by simp) (Wk.to (by simp) (by simp [leT, hZ0])) ?_
  intro k hk
  (simp only [go_sem, Nat.reduceAdd, Nat.reduceMul, Int.reduceToNat, Nat.reduceLeDiff, Int.reduceLE, Int.reduceLT, ↓reduceIte, Int.reduceBEq, Int.reduceBNe, Int.reduceAdd, Int.reduceSub, Int.reduceMul]; try refine okTr_and rfl ?_)
  by_cases hlt : k < b.en.length
  · have q1 : decide ((k : Int) < (b.en.length : Int)) = true := decide_eq_true (by omega)
    have ek := i64_succ k (by omega)
    have g := ens_get b.en k hlt
    have hm := en_mem b.en k hlt
    have hz := hZs k hlt
    have hzl := hZl (k + 1) hlt
    have hrk := r4 k hlt
    have hok := hb.en _ hm
    have hsm := hs.e _ hm
    have wk : IntKind.u64.wrap (k : Int) = k := IntWalk.u64_in _ (by omega)
    have wp : IntKind.u64.wrap (b.base + (k : Int)) = b.base + k := IntWalk.u64_in _ (by omega)
    obtain ⟨e, he⟩ : ∃ e, b.en.getD k en0 = e := ⟨_, rfl⟩
    rw [he] at g hm hz hrk hok hsm
    have hsz : sizeE (b.base + k) e = ((linksB (b.base + k) e.lk).length : Int) + (vb (e.data.length : Int)).length := by
      unfold sizeE; rw [if_pos hrk]; unfold headE; rw [List.length_append]; omega
    have hhs := entry_HeadSize (b.base + k) e hok hsm (by omega) (by omega)
    obtain ⟨y, hy⟩ : ∃ y, sizeE (b.base + k) e = y := ⟨_, rfl⟩
    rw [hy] at hsz hhs
    have w1 : IntKind.i64.wrap (y + (e.data.length : Int)) = y + e.data.length := IntWalk.i64_in _ (by omega)
    have w2 : IntKind.i64.wrap (30 + (Z k : Int) + (y + (e.data.length : Int))) = 30 + (Z (k + 1) : Nat) := by rw [IntWalk.i64_in _ (by omega)]; omega
    (simp only [go_sem, Nat.reduceAdd, Nat.reduceMul, Int.reduceToNat, Nat.reduceLeDiff, Int.reduceLE, Int.reduceLT, ↓reduceIte, Int.reduceBEq, Int.reduceBNe, Int.reduceAdd, Int.reduceSub, Int.reduceMul, q1, g, ens_length, Int.toNat_natCast, wk, wp]; try refine okTr_and rfl ?_)
    (repeat ((with_reducible refine And.intro ?_ ?_); (· exact sd)))
    refine CallK.p (hhs) ?_; (simp only [go_sem, Nat.reduceAdd, Nat.reduceMul, Int.reduceToNat, Nat.reduceLeDiff, Int.reduceLE, Int.reduceLT, ↓reduceIte, Int.reduceBEq, Int.reduceBNe, Int.reduceAdd, Int.reduceSub, Int.reduceMul, ints_length, w1, w2, ek]; try refine okTr_and rfl ?_)
    (repeat ((with_reducible refine And.intro ?_ ?_); (· exact sd)))
    exact ⟨k + 1, hlt, by omega, Wk.sel [0] (by simp) rfl (by simp) rfl (by simp [ixs_z]) (by simp [selT, ixs_z])⟩
  · have q1 : decide ((k : Int) < (b.en.length : Int)) = false := decide_eq_false (by omega)
    have ek : k = b.en.length := by omega
    subst ek
    have hzl := hZl _ (Nat.le_refl b.en.length)
    obtain ⟨m, hm⟩ : ∃ m : Int, 30 + (Z b.en.length : Int) = m := ⟨_, rfl⟩
    have f0 : (WS.new m).fine := WS.fine.new (by omega)
    have w4 : IntKind.u64.wrap (b.en.length : Int) = b.en.length := IntWalk.u64_in _ (by omega)
    have v1 := (vb_len b.ep).2
    have v2 := (vb_len b.base).2
    have v3 := (vb_len (b.en.length : Int)).2
    have a1 : (WS.new m).epput b.ep (epRight b.ep) = ⟨m, vb b.ep, 0⟩ := by
      unfold WS.epput; rw [if_pos (epRight_iff.2 g1), WS.new_is (by omega), put_fit rfl (by simp; omega)]; simp
    have a2 : (⟨m, vb b.ep, 0⟩ : WS).epput b.base (epPos b.base) = ⟨m, vb b.ep ++ vb b.base, 0⟩ := by
      unfold WS.epput; rw [if_pos (epPos_iff.2 g3), put_fit rfl (by simp only; omega)]
    have a3 : (⟨m, vb b.ep ++ vb b.base, 0⟩ : WS).put (vb (b.en.length : Int)) = ⟨m, vb b.ep ++ vb b.base ++ vb (b.en.length : Int), 0⟩ := by
      rw [put_fit rfl (by simp only [List.length_append]; omega)]
    have f1 : (⟨m, vb b.ep, 0⟩ : WS).fine := ⟨by simp only; omega, by simp only; omega, by simp only; omega⟩
    have f2 : (⟨m, vb b.ep ++ vb b.base, 0⟩ : WS).fine := ⟨by simp only; omega, by simp only; omega, by simp only [List.length_append]; omega⟩
    obtain ⟨A, hA⟩ : ∃ A, vb b.ep ++ vb b.base ++ vb (b.en.length : Int) = A := ⟨_, rfl⟩
    have hAl : A.length ≤ 30 := by rw [← hA]; simp only [List.length_append]; omega
    rw [hA] at a3
    obtain ⟨W, hW⟩ : ∃ W : Nat → WS, W = fun k => ⟨m, A ++ encs (entF b.base).enc [] (b.en.take k), 0⟩ := ⟨_, rfl⟩
    have hlen : ∀ k, k ≤ b.en.length → (A ++ encs (entF b.base).enc [] (b.en.take k)).length ≤ m := fun k hk => by
      have := encE_le (base := b.base) (l := b.en) k hk
      rw [List.length_append]; omega
    have hfine : ∀ k, k ≤ b.en.length → (W k).fine := fun k hk => by
      have := hlen k hk
      rw [hW]; exact ⟨by simp only; omega, by simp only; omega, by simp only; omega⟩
    have hW0 : (⟨m, A, 0⟩ : WS) = W 0 := by rw [hW]; simp [encs]
    rw [hW0] at a3
    have hWn : ∀ k, k < b.en.length → ((((W k).links (b.base + k) (b.en.getD k en0).lk).put (vb ((b.en.getD k en0).data.length : Int))).put (b.en.getD k en0).data) = W (k + 1) := fun k hk => by
      have hl := hlen (k + 1) hk
      rw [encE_take hk] at hl
      unfold blobB at hl
      simp only [List.length_append] at hl
      obtain ⟨X, hX⟩ : ∃ X, A ++ encs (entF b.base).enc [] (b.en.take k) = X := ⟨_, rfl⟩
      have hXl := congrArg List.length hX
      rw [List.length_append] at hXl
      have p0 : W k = ⟨m, X, 0⟩ := by rw [hW, ← hX]
      have p1 := links_fit (s := ⟨m, X, 0⟩) (rightE_iff.1 (r4 k hk)).1 rfl (by simp only; omega)
      have p2 := put_fit (s := ⟨m, X ++ linksB (b.base + k) (b.en.getD k en0).lk, 0⟩) (m := vb ((b.en.getD k en0).data.length : Int)) rfl (by simp only [List.length_append]; omega)
      have p3 := put_fit (s := ⟨m, X ++ linksB (b.base + k) (b.en.getD k en0).lk ++ vb ((b.en.getD k en0).data.length : Int), 0⟩) (m := (b.en.getD k en0).data) rfl (by simp only [List.length_append]; omega)
      simp only at p1 p2 p3
      rw [p0, p1, p2, p3, hW]
      simp only
      rw [encE_take hk, ← hX]
      simp only [List.append_assoc, blobB]
    have hfin : (W b.en.length).bytes = plB b := by
      rw [hW]; unfold WS.bytes plB; simp only [if_true, List.take_length]; rw [← hA]; simp only [List.append_assoc]
    (simp only [go_sem, Nat.reduceAdd, Nat.reduceMul, Int.reduceToNat, Nat.reduceLeDiff, Int.reduceLE, Int.reduceLT, ↓reduceIte, Int.reduceBEq, Int.reduceBNe, Int.reduceAdd, Int.reduceSub, Int.reduceMul, q1, hm]; try refine okTr_and rfl ?_)
    refine CallK.n (pen_New m) ?_; (simp only [go_sem, Nat.reduceAdd, Nat.reduceMul, Int.reduceToNat, Nat.reduceLeDiff, Int.reduceLE, Int.reduceLT, ↓reduceIte, Int.reduceBEq, Int.reduceBNe, Int.reduceAdd, Int.reduceSub, Int.reduceMul]; try refine okTr_and rfl ?_)
    refine CallK.u2 (epoch_Put (WS.new m) b.ep 1 2 (by decide) hb.e0 hb.e1 f0) rfl rfl ?_; (simp only [go_sem, Nat.reduceAdd, Nat.reduceMul, Int.reduceToNat, Nat.reduceLeDiff, Int.reduceLE, Int.reduceLT, ↓reduceIte, Int.reduceBEq, Int.reduceBNe, Int.reduceAdd, Int.reduceSub, Int.reduceMul, a1]; try refine okTr_and rfl ?_)
    refine CallK.u2 (epoch_PutPos ⟨m, vb b.ep, 0⟩ b.base 1 2 (by decide) hb.b0 hb.b1 f1) rfl rfl ?_; (simp only [go_sem, Nat.reduceAdd, Nat.reduceMul, Int.reduceToNat, Nat.reduceLeDiff, Int.reduceLE, Int.reduceLT, ↓reduceIte, Int.reduceBEq, Int.reduceBNe, Int.reduceAdd, Int.reduceSub, Int.reduceMul, a2, ens_length, w4]; try refine okTr_and rfl ?_)
    refine CallK.u2 (varint_Put ⟨m, vb b.ep ++ vb b.base, 0⟩ b.en.length 1 2 (by decide) (by omega) (by omega) f2.ok (f2.room _)) rfl rfl ?_; (simp only [go_sem, Nat.reduceAdd, Nat.reduceMul, Int.reduceToNat, Nat.reduceLeDiff, Int.reduceLE, Int.reduceLT, ↓reduceIte, Int.reduceBEq, Int.reduceBNe, Int.reduceAdd, Int.reduceSub, Int.reduceMul, a3, ens_length]; try refine okTr_and rfl ?_)
    refine loop_of (α := Nat) (fun k => [.any, .ref 0 0, .any, .any, .any, .any, .ref 1 0, .any, .any, .any, .any, .any, .any, .any, .any, .any, .any, .any, .any, .any, .any, .any, .any, .any, .any, .any, .any, .any, .any, .any, .any, .any, .any, .any, .any, .any, .any, .any, .any, .any, .any, .any, .any, .any, .any, .any, .any, .any, .any, .any, slE b.en, iA b.en.length, iA k, .any, .any, .any, .any, .any, .any, .any, .any, .any, .any, .any, .any, .any, .any, .any, .any, .any, .any, .any, .any, .any, .any, .any, .any]) (fun k => [btO b, wob 2 (W k), wrow (W k)]) (fun k => k ≤ b.en.length) (fun k => b.en.length - k) 0 (by simp) (Wk.to (by rfl) (by simp [leT])) ?_
    intro k hk
    (simp only [go_sem, Nat.reduceAdd, Nat.reduceMul, Int.reduceToNat, Nat.reduceLeDiff, Int.reduceLE, Int.reduceLT, ↓reduceIte, Int.reduceBEq, Int.reduceBNe, Int.reduceAdd, Int.reduceSub, Int.reduceMul]; try refine okTr_and rfl ?_)
    by_cases hlt : k < b.en.length
    · have q1 : decide ((k : Int) < (b.en.length : Int)) = true := decide_eq_true (by omega)
      have ek := i64_succ k (by omega)
      have g := ens_get b.en k hlt
      have hm := en_mem b.en k hlt
      have hok := hb.en _ hm
      have hsm := hs.e _ hm
      have hwn := hWn k hlt
      have hf := hfine k (by omega)
      have wk : IntKind.u64.wrap (k : Int) = k := IntWalk.u64_in _ (by omega)
      have wp : IntKind.u64.wrap (b.base + (k : Int)) = b.base + k := IntWalk.u64_in _ (by omega)
      obtain ⟨e, he⟩ : ∃ e, b.en.getD k en0 = e := ⟨_, rfl⟩
      rw [he] at g hm hok hsm hwn
      (simp only [go_sem, Nat.reduceAdd, Nat.reduceMul, Int.reduceToNat, Nat.reduceLeDiff, Int.reduceLE, Int.reduceLT, ↓reduceIte, Int.reduceBEq, Int.reduceBNe, Int.reduceAdd, Int.reduceSub, Int.reduceMul, q1, g, ens_length, Int.toNat_natCast, wk, wp]; try refine okTr_and rfl ?_)
      (repeat ((with_reducible refine And.intro ?_ ?_); (· exact sd)))
      refine CallK.u2 (link_Put (W k) (b.base + k) e.lk 1 2 (by decide) hf hok.lk hsm.1 (by omega) (by omega)) rfl rfl ?_; (simp only [go_sem, Nat.reduceAdd, Nat.reduceMul, Int.reduceToNat, Nat.reduceLeDiff, Int.reduceLE, Int.reduceLT, ↓reduceIte, Int.reduceBEq, Int.reduceBNe, Int.reduceAdd, Int.reduceSub, Int.reduceMul]; try refine okTr_and rfl ?_)
      refine CallK.u2 (blob_Put ((W k).links (b.base + k) e.lk) e.data 1 2 (by decide) (hf.links _ _) (by have := hsm.2; omega)) rfl rfl ?_; (simp only [go_sem, Nat.reduceAdd, Nat.reduceMul, Int.reduceToNat, Nat.reduceLeDiff, Int.reduceLE, Int.reduceLT, ↓reduceIte, Int.reduceBEq, Int.reduceBNe, Int.reduceAdd, Int.reduceSub, Int.reduceMul, hwn, ek]; try refine okTr_and rfl ?_)
      exact ⟨k + 1, hlt, by omega, Wk.sel [0, 1, 2] (by simp) rfl (by simp) rfl (by simp [ixs_z, wob_ren, wrow_ren, ixs]) (by simp [selT, ixs_z, ixs])⟩
    · have q1 : decide ((k : Int) < (b.en.length : Int)) = false := decide_eq_false (by omega)
      have ek : k = b.en.length := by omega
      subst ek
      have hff := (hfine _ (Nat.le_refl _)).len
      (simp only [go_sem, Nat.reduceAdd, Nat.reduceMul, Int.reduceToNat, Nat.reduceLeDiff, Int.reduceLE, Int.reduceLT, ↓reduceIte, Int.reduceBEq, Int.reduceBNe, Int.reduceAdd, Int.reduceSub, Int.reduceMul, q1]; try refine okTr_and rfl ?_)
      refine CallK.r2 (Writer_Bytes (W b.en.length) 1 2 (by decide) hff) rfl rfl ?_; (simp only [go_sem, Nat.reduceAdd, Nat.reduceMul, Int.reduceToNat, Nat.reduceLeDiff, Int.reduceLE, Int.reduceLT, ↓reduceIte, Int.reduceBEq, Int.reduceBNe, Int.reduceAdd, Int.reduceSub, Int.reduceMul, hfin]; try refine okTr_and rfl ?_)
      exact FinK.finA r87 []
theorem legacy_plain (b : Bt) (hb : b.ok) (hs : SmallB b) (hr : rightB b = true) (hsg : singleB b = true) : Ct Tryz.prog 87 [btA b] [] (fun _ => slA .u8 (plB b)) [] (fun _ => []) := (legacy_plain0 b hb hs hr hsg).toCt cl cl
def bytes2 (u : Sg2) : List Int := if right2 u = true then seg2B u else []
def err2 (u : Sg2) : Int := if right2 u = true then 0 else 3
theorem encB_take {ep : Int} {l : List Bt} {k : Nat} (h : k < l.length) : encs (batF ep).enc [] (l.take (k + 1)) = encs (batF ep).enc [] (l.take k) ++ frameB (plB (l.getD k bt0)) := by
  rw [bt_take l k h, encs_snoc]; rfl
theorem encB_le {ep : Int} {l : List Bt} (h : Wf (batF ep).nx [] l) : ∀ k, k ≤ l.length → (encs (batF ep).enc [] (l.take k)).length ≤ 1080014 * k := fun k hk => by
  have h1 := encs_bats (wf_take k h)
  rw [List.length_take, Nat.min_eq_left hk] at h1
  exact h1
set_option maxHeartbeats 1000000 in
set_option maxRecDepth 100000 in
theorem legacy_Bytes20 (u : Sg2) (hs : Small2 u) : Does Tryz.prog 21 [sg2A u] [] (.tup [slA .u8 (bytes2 u), iA (err2 u)]) [] := by
  have hR := legacy_Right2 u hs
  refine Does.runA Tryz.func21 b21 n21 Tryz.ntmps21 ?_; simp only [c21, go_sem, Nat.reduceAdd, Nat.reduceMul, Int.reduceToNat, Nat.reduceLeDiff, Int.reduceLE, Int.reduceLT, ↓reduceIte, Int.reduceBEq, Int.reduceBNe, Int.reduceAdd, Int.reduceSub, Int.reduceMul]; try refine okTr_and rfl ?_
  refine CallK.p (hR) ?_
  by_cases hr : right2 u = true
  · have e1 : bytes2 u = seg2B u := by unfold bytes2; rw [if_pos hr]
    have e2 : err2 u = 0 := by unfold err2; rw [if_pos hr]
    obtain ⟨h1, h2, hwf⟩ := (right2_wf hs.ok).1 hr
    have hsl := seg2_len hs.ok hr
    have w4 : IntKind.u64.wrap (u.bt.length : Int) = u.bt.length := IntWalk.u64_in _ (by omega)
    have hho := header_BytesO ⟨2, u.ep, 0⟩ (rightH2 hr) (Int.le_refl 0)
    have hsg : seg2B u = headerB ⟨2, u.ep, 0⟩ ++ (vb u.bt.length ++ encs (batF u.ep).enc [] u.bt) := rfl
    have hhl := (plainB_len ⟨2, u.ep, 0⟩).2
    have hhl2 := headerB_len ⟨2, u.ep, 0⟩
    have hvl := (vb_len (u.bt.length : Int)).2
    obtain ⟨HB, hHB⟩ : ∃ HB, headerB ⟨2, u.ep, 0⟩ = HB := ⟨_, rfl⟩
    rw [hHB] at hho hsg hhl2
    obtain ⟨W, hW⟩ : ∃ W : Nat → List Int, W = fun k => HB ++ (vb (u.bt.length : Int) ++ encs (batF u.ep).enc [] (u.bt.take k)) := ⟨_, rfl⟩
    have hW0 : HB ++ vb (u.bt.length : Int) = W 0 := by rw [hW]; simp [encs]
    have hlen : ∀ k, k ≤ u.bt.length → (W k).length ≤ 40000000 := fun k hk => by
      have := encB_le hwf k hk
      rw [hW]; simp only [List.length_append]; omega
    have hWn : ∀ k, k < u.bt.length → W k ++ frameB (plB (u.bt.getD k bt0)) = W (k + 1) := fun k hk => by
      rw [hW]; simp only; rw [encB_take hk]; simp only [List.append_assoc]
    have hfin : W u.bt.length = seg2B u := by rw [hW, hsg]; simp
    rw [e1, e2]
    (simp only [go_sem, Nat.reduceAdd, Nat.reduceMul, Int.reduceToNat, Nat.reduceLeDiff, Int.reduceLE, Int.reduceLT, ↓reduceIte, Int.reduceBEq, Int.reduceBNe, Int.reduceAdd, Int.reduceSub, Int.reduceMul, hr]; try refine okTr_and rfl ?_)
    refine CallK.n (hho) ?_; (simp only [go_sem, Nat.reduceAdd, Nat.reduceMul, Int.reduceToNat, Nat.reduceLeDiff, Int.reduceLE, Int.reduceLT, ↓reduceIte, Int.reduceBEq, Int.reduceBNe, Int.reduceAdd, Int.reduceSub, Int.reduceMul, bts_length, w4]; try refine okTr_and rfl ?_)
    refine CallK.p (varint_Bytes (u.bt.length : Int) (by omega) (by omega)) ?_; (simp only [go_sem, Nat.reduceAdd, Nat.reduceMul, Int.reduceToNat, Nat.reduceLeDiff, Int.reduceLE, Int.reduceLT, ↓reduceIte, Int.reduceBEq, Int.reduceBNe, Int.reduceAdd, Int.reduceSub, Int.reduceMul, ints_append, ints_length, hW0, bts_length]; try refine okTr_and rfl ?_)
    (repeat ((with_reducible refine And.intro ?_ ?_); (· exact sd)))
    refine loop_of (α := Nat) (fun k => [.any, .ref 0 0, .any, .any, ownA 1 (W k), .any, .any, .any, .any, .any, .any, .any, .any, .any, .any, .any, .any, .any, .any, .any, .any, .any, .any, .any, .any, .any, .any, .any, slB u.bt, iA u.bt.length, iA k, .any, .any, .any, .any, .any, .any, .any, .any, .any, .any, .any, .any, .any, .any]) (fun k => [sg2O u, .row 1 (W k).length]) (fun k => k ≤ u.bt.length) (fun k => u.bt.length - k) 0 (by simp) (Wk.to (by rw [← hW0, List.length_append]) (by simp [leT])) ?_
    intro k hk
    have hlk := hlen k hk
    (simp only [go_sem, Nat.reduceAdd, Nat.reduceMul, Int.reduceToNat, Nat.reduceLeDiff, Int.reduceLE, Int.reduceLT, ↓reduceIte, Int.reduceBEq, Int.reduceBNe, Int.reduceAdd, Int.reduceSub, Int.reduceMul]; try refine okTr_and rfl ?_)
    by_cases hlt : k < u.bt.length
    · have q1 : decide ((k : Int) < (u.bt.length : Int)) = true := decide_eq_true (by omega)
      have ek := i64_succ k (by omega)
      have g := bts_get u.bt k hlt
      have hm := bt_mem u.bt k hlt
      have hwn := hWn k hlt
      have hlk1 := hlen (k + 1) hlt
      have hnx := wf_get k hlt hwf
      have e : u.bt[k] = u.bt.getD k bt0 := by simp [hlt]
      rw [e] at hnx
      obtain ⟨b, hb⟩ : ∃ b, u.bt.getD k bt0 = b := ⟨_, rfl⟩
      rw [hb] at g hm hwn hnx
      have hsb := hs.s _ hm
      have hpb := plB_bys hnx.ok hnx.rt hnx.sg
      have hpl := plB_len hnx.ok hnx.rt hnx.sg
      (simp only [go_sem, Nat.reduceAdd, Nat.reduceMul, Int.reduceToNat, Nat.reduceLeDiff, Int.reduceLE, Int.reduceLT, ↓reduceIte, Int.reduceBEq, Int.reduceBNe, Int.reduceAdd, Int.reduceSub, Int.reduceMul, q1, g, bts_length, Int.toNat_natCast]; try refine okTr_and rfl ?_)
      (repeat ((with_reducible refine And.intro ?_ ?_); (· exact sd)))
      refine CallK.p (legacy_plain b hnx.ok hsb hnx.rt hnx.sg) ?_; (simp only [go_sem, Nat.reduceAdd, Nat.reduceMul, Int.reduceToNat, Nat.reduceLeDiff, Int.reduceLE, Int.reduceLT, ↓reduceIte, Int.reduceBEq, Int.reduceBNe, Int.reduceAdd, Int.reduceSub, Int.reduceMul]; try refine okTr_and rfl ?_)
      have hll : (W k).length + (frameB (plB b)).length = (W (k + 1)).length := by rw [← hwn, List.length_append]
      refine CallK.p (frame_Bytes (plB b) hpb (by omega)) ?_; (simp only [go_sem, Nat.reduceAdd, Nat.reduceMul, Int.reduceToNat, Nat.reduceLeDiff, Int.reduceLE, Int.reduceLT, ↓reduceIte, Int.reduceBEq, Int.reduceBNe, Int.reduceAdd, Int.reduceSub, Int.reduceMul, ints_append, ints_length, hwn, ek, hll]; try refine okTr_and rfl ?_)
      (repeat ((with_reducible refine And.intro ?_ ?_); (· exact sd)))
      exact ⟨k + 1, hlt, by omega, Wk.sel [0, 1] (by simp) rfl (by simp) rfl (by simp [ixs_z, ixs]) (by simp [selT, ixs_z, ren_ints, ixs])⟩
    · have q1 : decide ((k : Int) < (u.bt.length : Int)) = false := decide_eq_false (by omega)
      have ek : k = u.bt.length := by omega
      subst ek
      rw [hfin]
      (simp only [go_sem, Nat.reduceAdd, Nat.reduceMul, Int.reduceToNat, Nat.reduceLeDiff, Int.reduceLE, Int.reduceLT, ↓reduceIte, Int.reduceBEq, Int.reduceBNe, Int.reduceAdd, Int.reduceSub, Int.reduceMul, q1]; try refine okTr_and rfl ?_)
      (refine FinK.untag 2 rfl ?_; simp only [untag1_sl, List.set_cons_zero, List.set_cons_succ])
      exact FinK.finA r21 []
  · have hr' : right2 u = false := by simpa using hr
    have e1 : bytes2 u = [] := by unfold bytes2; rw [if_neg hr]
    have e2 : err2 u = 3 := by unfold err2; rw [if_neg hr]
    rw [e1, e2]
    (simp only [go_sem, Nat.reduceAdd, Nat.reduceMul, Int.reduceToNat, Nat.reduceLeDiff, Int.reduceLE, Int.reduceLT, ↓reduceIte, Int.reduceBEq, Int.reduceBNe, Int.reduceAdd, Int.reduceSub, Int.reduceMul, hr']; try refine okTr_and rfl ?_)
    (refine FinK.untag 2 rfl ?_; simp only [untag1_sl, List.set_cons_zero, List.set_cons_succ])
    exact FinK.finA r21 []
theorem legacy_Bytes2 (u : Sg2) (hs : Small2 u) : Ct Tryz.prog 21 [sg2A u] [] (fun _ => .tup [slA .u8 (bytes2 u), iA (err2 u)]) [] (fun _ => []) := (legacy_Bytes20 u hs).toCt cl cl
end Go.Proofs.YtnfagphepkeedaaGreat
end
section
namespace Go.Proofs.YtnfagphepkeedaaGreat
open Go.RowKit

theorem dec1_cases {b : List Int} (hb : Bys b) (hn : b.length ≤ 1000000) : (dec1 b = (sg10, ((RS.new b).dec1.1.code, (RS.new b).dec1.1.fat)) ∧ ¬ (RS.new b).dec1.1.code = 0) ∨ (∃ u, dec1 b = (u, (0, 0)) ∧ O1s u.en ∧ 0 ≤ u.base ∧ right1 u = true ∧ seg1B u = b ∧ (RS.new b).header.1.code = 0 ∧ (RS.new b).header.2.ver = 1) := by
  unfold dec1
  by_cases hc : (RS.new b).dec1.1.code = 0
  · rw [if_pos hc]
    obtain ⟨h1, h2, h3, h4, h5, h6⟩ := seg1_is hb (by omega) hc
    exact .inr ⟨_, rfl, h4, h3, h5, h6, h1, h2⟩
  · rw [if_neg hc]; exact .inl ⟨rfl, hc⟩
theorem dec2_cases {b : List Int} (hb : Bys b) (hn : b.length ≤ 1000000) : (dec2 b = (sg20, ((RS.new b).dec2.1.code, (RS.new b).dec2.1.fat)) ∧ ¬ (RS.new b).dec2.1.code = 0) ∨ (∃ u, dec2 b = (u, (0, 0)) ∧ Bts u.bt ∧ right2 u = true ∧ seg2B u = b ∧ (RS.new b).header.1.code = 0 ∧ (RS.new b).header.2.ver = 2) := by
  unfold dec2
  by_cases hc : (RS.new b).dec2.1.code = 0
  · rw [if_pos hc]
    obtain ⟨h1, h2, h3, h4, h5⟩ := seg2_is hb (by omega) hc
    exact .inr ⟨_, rfl, h3, h4, h5, h1, h2⟩
  · rw [if_neg hc]; exact .inl ⟨rfl, hc⟩
theorem small1_of {u : Sg1} (b0 : 0 ≤ u.base) (hr : right1 u = true) : Small1 u := by
  obtain ⟨h1, h2, h3, h4, h5⟩ := right1_iff.1 hr
  exact ⟨b0, by omega, by omega, by omega⟩
theorem smallB_of {b : Bt} (hb : b.ok) (hr : rightB b = true) : SmallB b := by
  obtain ⟨r1, ⟨⟨r2, r2'⟩, r3⟩, r4, r5⟩ := rightB_iff.1 hr
  refine ⟨by omega, fun e he => ?_, by omega⟩
  obtain ⟨i, hi, rfl⟩ := List.getElem_of_mem he
  have h := r5 i hi
  have e : b.en.getD i en0 = b.en[i] := by simp [hi]
  rw [e] at h
  obtain ⟨h1, h2⟩ := rightE_iff.1 h
  obtain ⟨l1, l2, l3⟩ := rightL_iff.1 h1
  exact ⟨⟨by omega, fun x hx => by have := (goodL_iff.1 (l3 x hx)).1; omega⟩, by omega⟩
theorem small2_of {u : Sg2} (hb : Bts u.bt) (hr : right2 u = true) : Small2 u := by
  obtain ⟨h1, h2, h3⟩ := right2_iff.1 hr
  refine ⟨by omega, fun b hbm => ?_, hb⟩
  obtain ⟨i, hi, rfl⟩ := List.getElem_of_mem hbm
  have h := h3 i hi
  unfold mayAt at h
  simp only [Bool.and_eq_true] at h
  have e : u.bt.getD i bt0 = u.bt[i] := by simp [hi]
  rw [e] at h
  exact smallB_of (hb _ hbm) h.1.1
set_option maxHeartbeats 1000000 in
set_option maxRecDepth 100000 in
theorem law_LegacyOnce (b : List Int) (hb : Bys b) : Does Tryz.prog 5 [slA .u8 b] [] (bA true) [] := by
  refine Does.runA Tryz.func5 b5 n5 Tryz.ntmps5 ?_; simp only [c5, go_sem, Nat.reduceAdd, Nat.reduceMul, Int.reduceToNat, Nat.reduceLeDiff, Int.reduceLE, Int.reduceLT, ↓reduceIte, Int.reduceBEq, Int.reduceBNe, Int.reduceAdd, Int.reduceSub, Int.reduceMul, ints_length]; try refine okTr_and rfl ?_
  by_cases hl : 1500 < (b.length : Int)
  · have q1 : decide (1500 < (b.length : Int)) = true := decide_eq_true hl
    (simp only [go_sem, Nat.reduceAdd, Nat.reduceMul, Int.reduceToNat, Nat.reduceLeDiff, Int.reduceLE, Int.reduceLT, ↓reduceIte, Int.reduceBEq, Int.reduceBNe, Int.reduceAdd, Int.reduceSub, Int.reduceMul, q1]; try refine okTr_and rfl ?_)
    refine CallK.p (live35) ?_; (simp only [go_sem, Nat.reduceAdd, Nat.reduceMul, Int.reduceToNat, Nat.reduceLeDiff, Int.reduceLE, Int.reduceLT, ↓reduceIte, Int.reduceBEq, Int.reduceBNe, Int.reduceAdd, Int.reduceSub, Int.reduceMul]; try refine okTr_and rfl ?_)
    exact FinK.finA r5 []
  · have q1 : decide (1500 < (b.length : Int)) = false := decide_eq_false hl
    have hn : b.length ≤ 1000000 := by omega
    (simp only [go_sem, Nat.reduceAdd, Nat.reduceMul, Int.reduceToNat, Nat.reduceLeDiff, Int.reduceLE, Int.reduceLT, ↓reduceIte, Int.reduceBEq, Int.reduceBNe, Int.reduceAdd, Int.reduceSub, Int.reduceMul, q1]; try refine okTr_and rfl ?_)
    refine CallK.p (legacy_Decode1 b hb hn) ?_
    rcases dec1_cases hb hn with ⟨h, hc⟩ | ⟨u, h, h1, h2, h3, h4, h5, h6⟩
    · have z1 : ((RS.new b).dec1.1.code == 0) = false := by simpa using hc
      rw [h]
      (simp only [go_sem, Nat.reduceAdd, Nat.reduceMul, Int.reduceToNat, Nat.reduceLeDiff, Int.reduceLE, Int.reduceLT, ↓reduceIte, Int.reduceBEq, Int.reduceBNe, Int.reduceAdd, Int.reduceSub, Int.reduceMul, sg10, o1s_nil]; try refine okTr_and rfl ?_)
      refine CallK.p (legacy_Decode2 b hb hn) ?_
      rcases dec2_cases hb hn with ⟨g, gc⟩ | ⟨v, g, g1, g2, g3, g4, g5⟩
      · have z2 : ((RS.new b).dec2.1.code == 0) = false := by simpa using gc
        rw [g]
        have l1 : (o1s []).length = 0 := rfl
        have l2 : (bts []).length = 0 := rfl
        have l3 : (IntKind.i64.wrap 0 == 0) = true := rfl
        (simp only [go_sem, Nat.reduceAdd, Nat.reduceMul, Int.reduceToNat, Nat.reduceLeDiff, Int.reduceLE, Int.reduceLT, ↓reduceIte, Int.reduceBEq, Int.reduceBNe, Int.reduceAdd, Int.reduceSub, Int.reduceMul, z1, z2, sg20, l1, l2, l3]; try refine okTr_and rfl ?_)
        refine CallK.p (live35) ?_; (simp only [go_sem, Nat.reduceAdd, Nat.reduceMul, Int.reduceToNat, Nat.reduceLeDiff, Int.reduceLE, Int.reduceLT, ↓reduceIte, Int.reduceBEq, Int.reduceBNe, Int.reduceAdd, Int.reduceSub, Int.reduceMul]; try refine okTr_and rfl ?_)
        exact FinK.finA r5 []
      · rw [g]
        have hs := small2_of g1 g2
        have e1 : bytes2 v = b := by unfold bytes2; rw [if_pos g2]; exact g3
        have e2 : err2 v = 0 := by unfold err2; rw [if_pos g2]
        (simp only [go_sem, Nat.reduceAdd, Nat.reduceMul, Int.reduceToNat, Nat.reduceLeDiff, Int.reduceLE, Int.reduceLT, ↓reduceIte, Int.reduceBEq, Int.reduceBNe, Int.reduceAdd, Int.reduceSub, Int.reduceMul, z1]; try refine okTr_and rfl ?_)
        refine CallK.p (legacy_Bytes2 v hs) ?_; (simp only [go_sem, Nat.reduceAdd, Nat.reduceMul, Int.reduceToNat, Nat.reduceLeDiff, Int.reduceLE, Int.reduceLT, ↓reduceIte, Int.reduceBEq, Int.reduceBNe, Int.reduceAdd, Int.reduceSub, Int.reduceMul, e1, e2]; try refine okTr_and rfl ?_)
        refine CallK.p (ref35_Right2 v hs) ?_; (simp only [go_sem, Nat.reduceAdd, Nat.reduceMul, Int.reduceToNat, Nat.reduceLeDiff, Int.reduceLE, Int.reduceLT, ↓reduceIte, Int.reduceBEq, Int.reduceBNe, Int.reduceAdd, Int.reduceSub, Int.reduceMul, g2]; try refine okTr_and rfl ?_)
        refine CallK.p (ref02_Same b b hb hb) ?_; (simp only [go_sem, Nat.reduceAdd, Nat.reduceMul, Int.reduceToNat, Nat.reduceLeDiff, Int.reduceLE, Int.reduceLT, ↓reduceIte, Int.reduceBEq, Int.reduceBNe, Int.reduceAdd, Int.reduceSub, Int.reduceMul, same_self]; try refine okTr_and rfl ?_)
        refine CallK.p (live35) ?_; (simp only [go_sem, Nat.reduceAdd, Nat.reduceMul, Int.reduceToNat, Nat.reduceLeDiff, Int.reduceLE, Int.reduceLT, ↓reduceIte, Int.reduceBEq, Int.reduceBNe, Int.reduceAdd, Int.reduceSub, Int.reduceMul]; try refine okTr_and rfl ?_)
        exact FinK.finA r5 []
    · rw [h]
      have hs := small1_of h2 h3
      have e1 : bytes1 u = b := by unfold bytes1; rw [if_pos h3]; exact h4
      have e2 : err1 u = 0 := by unfold err1; rw [if_pos h3]
      have hd := dec2_other h5 (by rw [h6]; decide)
      have hd2 := legacy_Decode2 b hb hn
      rw [hd] at hd2
      (simp only [go_sem, Nat.reduceAdd, Nat.reduceMul, Int.reduceToNat, Nat.reduceLeDiff, Int.reduceLE, Int.reduceLT, ↓reduceIte, Int.reduceBEq, Int.reduceBNe, Int.reduceAdd, Int.reduceSub, Int.reduceMul]; try refine okTr_and rfl ?_)
      refine CallK.p (hd2) ?_; (simp only [go_sem, Nat.reduceAdd, Nat.reduceMul, Int.reduceToNat, Nat.reduceLeDiff, Int.reduceLE, Int.reduceLT, ↓reduceIte, Int.reduceBEq, Int.reduceBNe, Int.reduceAdd, Int.reduceSub, Int.reduceMul]; try refine okTr_and rfl ?_)
      refine CallK.p (legacy_Bytes1 u hs h1) ?_; (simp only [go_sem, Nat.reduceAdd, Nat.reduceMul, Int.reduceToNat, Nat.reduceLeDiff, Int.reduceLE, Int.reduceLT, ↓reduceIte, Int.reduceBEq, Int.reduceBNe, Int.reduceAdd, Int.reduceSub, Int.reduceMul, e1, e2]; try refine okTr_and rfl ?_)
      refine CallK.p (ref35_Right1 u hs) ?_; (simp only [go_sem, Nat.reduceAdd, Nat.reduceMul, Int.reduceToNat, Nat.reduceLeDiff, Int.reduceLE, Int.reduceLT, ↓reduceIte, Int.reduceBEq, Int.reduceBNe, Int.reduceAdd, Int.reduceSub, Int.reduceMul, h3]; try refine okTr_and rfl ?_)
      refine CallK.p (ref02_Same b b hb hb) ?_; (simp only [go_sem, Nat.reduceAdd, Nat.reduceMul, Int.reduceToNat, Nat.reduceLeDiff, Int.reduceLE, Int.reduceLT, ↓reduceIte, Int.reduceBEq, Int.reduceBNe, Int.reduceAdd, Int.reduceSub, Int.reduceMul, same_self]; try refine okTr_and rfl ?_)
      refine CallK.p (live35) ?_; (simp only [go_sem, Nat.reduceAdd, Nat.reduceMul, Int.reduceToNat, Nat.reduceLeDiff, Int.reduceLE, Int.reduceLT, ↓reduceIte, Int.reduceBEq, Int.reduceBNe, Int.reduceAdd, Int.reduceSub, Int.reduceMul]; try refine okTr_and rfl ?_)
      exact FinK.finA r5 []
end Go.Proofs.YtnfagphepkeedaaGreat
end
section
namespace Go.Proofs.YtnfagphepkeedaaGreat
open Go.RowKit

def leadsAt (P : Program) (g : Nat) : List Nat := (P.funcs[g]?).elim [] P.leadsTo
/-- What a function's own text says: where it leads; is it one of ours, or without a text; does it call what no name tells; which variables it names. -/
def tellOf (P : Program) (g : Func) : List Nat × Bool × Bool × List Nat :=
  (P.leadsTo g, (g.ours || g.body.isNone || g.name == "runtime.NumGoroutine"), (match g.body with | some c => c.unfollowed | none => entryCalls g), g.body.elim [] Code.globalsNamed)

section
variable {P : Program} {T : List (List Nat × Bool × Bool × List Nat)}
def T0 : List Nat × Bool × Bool × List Nat := ([], false, false, [])
theorem tell_at (hT : P.funcs.toList.map (tellOf P) = T) (g : Nat) {fn : Func} (h : P.funcs[g]? = some fn) : T[g]? = some (tellOf P fn) := by
  rw [← hT, List.getElem?_map]
  simp [h]
theorem leads_at (hT : P.funcs.toList.map (tellOf P) = T) (g : Nat) : leadsAt P g = ((T[g]?).getD T0).1 := by
  cases h : P.funcs[g]? with
  | none => rw [← hT, List.getElem?_map]; simp [leadsAt, h, T0]
  | some fn => rw [tell_at hT g h]; simp [leadsAt, h, tellOf]

theorem mem_seen (g : Nat) : ∀ n todo seen, g ∈ seen → g ∈ P.closureVia n todo seen := by
  intro n
  induction n with
  | zero => intro todo seen h; simpa [Program.closureVia] using h
  | succ n ih =>
    intro todo seen h
    cases todo with
    | nil => simpa [Program.closureVia] using h
    | cons f todo =>
      unfold Program.closureVia
      split
      · exact ih _ _ h
      · exact ih _ _ (List.mem_cons_of_mem _ h)
theorem closure_sub (C : Nat → Prop) (hC : ∀ g, C g → ∀ h ∈ leadsAt P g, C h) : ∀ n todo seen, (∀ x ∈ todo, C x) → (∀ x ∈ seen, C x) → ∀ x ∈ P.closureVia n todo seen, C x := by
  intro n
  induction n with
  | zero => intro todo seen _ hs x hx; exact hs x (by simpa [Program.closureVia] using hx)
  | succ n ih =>
    intro todo seen ht hs
    cases todo with
    | nil => intro x hx; exact hs x (by simpa [Program.closureVia] using hx)
    | cons f todo =>
      unfold Program.closureVia
      split
      · exact ih _ _ (fun x hx => ht x (List.mem_cons_of_mem _ hx)) hs
      · refine ih _ _ (fun x hx => ?_) (fun x hx => ?_)
        · rcases List.mem_append.1 hx with h | h
          · exact hC f (ht f (List.mem_cons_self ..)) x h
          · exact ht x (List.mem_cons_of_mem _ h)
        · rcases List.mem_cons.1 hx with h | h
          · rw [h]; exact ht f (List.mem_cons_self ..)
          · exact hs x h
theorem closure_in (C : Nat → Prop) (hC : ∀ g, C g → ∀ h ∈ leadsAt P g, C h) {f : Nat} (hf : C f) : ∀ x ∈ P.closure f, C x :=
  closure_sub C hC _ _ _ (fun x hx => by simp at hx; rw [hx]; exact hf) (fun x hx => by simp at hx)

/-- The walk of the closure on the table, k steps. -/
def closT (T : List (List Nat × Bool × Bool × List Nat)) : Nat → List Nat → List Nat → List Nat × List Nat
  | 0, todo, seen => (todo, seen)
  | _, [], seen => ([], seen)
  | n + 1, f :: todo, seen => if seen.contains f then closT T n todo seen else closT T n (((T[f]?).getD T0).1 ++ todo) (f :: seen)
theorem closT_mem (hT : P.funcs.toList.map (tellOf P) = T) (g : Nat) : ∀ k n todo seen, g ∈ (closT T k todo seen).2 → g ∈ P.closureVia (k + n) todo seen := by
  intro k
  induction k with
  | zero => intro n todo seen h; exact mem_seen g _ _ _ h
  | succ k ih =>
    intro n todo seen h
    cases todo with
    | nil => exact mem_seen g _ _ _ (by simpa [closT] using h)
    | cons f todo =>
      rw [show k + 1 + n = (k + n) + 1 from by omega]
      unfold closT at h
      unfold Program.closureVia
      split at h
      · rename_i hc; rw [if_pos hc]; exact ih _ _ _ h
      · rename_i hc; rw [if_neg hc]
        have e := leads_at hT f
        unfold leadsAt at e
        rw [e]; exact ih _ _ _ h
theorem closure_mem (hT : P.funcs.toList.map (tellOf P) = T) {f g : Nat} (k : Nat) (hk : k ≤ (T.map fun t => t.1.length + 1).sum) (h : (closT T k [f] []).2.contains g = true) : g ∈ P.closure f := by
  have e : (P.funcs.toList.map fun g => (P.leadsTo g).length + 1) = T.map fun t => t.1.length + 1 := by
    rw [← hT, List.map_map]; rfl
  unfold Program.closure
  rw [e]
  obtain ⟨m, hm⟩ := Nat.exists_eq_add_of_le (Nat.le_trans hk (Nat.le_add_left _ 1))
  rw [hm]
  exact closT_mem hT g k m _ _ (by simpa using h)

/-- All that a set of functions says of itself: it leads nowhere else, all its texts are there, none names a variable. -/
def quietSet (T : List (List Nat × Bool × Bool × List Nat)) (C : List Nat) : Bool :=
  C.all fun g => match T[g]? with | some t => t.1.all (C.contains ·) && !t.2.1 && t.2.2.2.isEmpty | none => false
theorem quiet_closed (hT : P.funcs.toList.map (tellOf P) = T) {C : List Nat} (hq : quietSet T C = true) : ∀ g, g ∈ C → ∀ h ∈ leadsAt P g, h ∈ C := by
  intro g hg h hh
  have q := List.all_eq_true.1 hq g hg
  rw [leads_at hT] at hh
  cases e : T[g]? with
  | none => rw [e] at q; simp at q
  | some t =>
    rw [e] at q hh
    simp only [Bool.and_eq_true, List.all_eq_true] at q
    simpa using q.1.1 h hh
theorem quiet_tell (hT : P.funcs.toList.map (tellOf P) = T) {C : List Nat} (hq : quietSet T C = true) {g : Nat} (hg : g ∈ C) : ∃ fn, P.funcs[g]? = some fn ∧ (fn.ours || fn.body.isNone || fn.name == "runtime.NumGoroutine") = false ∧ fn.body.elim [] Code.globalsNamed = [] := by
  have q := List.all_eq_true.1 hq g hg
  cases h : P.funcs[g]? with
  | none =>
    have : T[g]? = none := by rw [← hT, List.getElem?_map]; simp [h]
    rw [this] at q; simp at q
  | some fn =>
    rw [tell_at hT g h] at q
    simp only [tellOf, Bool.and_eq_true, List.isEmpty_iff, Bool.not_eq_true'] at q
    exact ⟨fn, rfl, q.1.2, q.2⟩
theorem inPlace_nil (hT : P.funcs.toList.map (tellOf P) = T) {C : List Nat} (hq : quietSet T C = true) {f : Nat} (hf : f ∈ C) : [] = P.inPlace f := by
  unfold Program.inPlace
  symm
  rw [List.filterMap_eq_nil_iff]
  intro g hg
  obtain ⟨fn, h, h1, h2⟩ := quiet_tell hT hq (closure_in (· ∈ C) (quiet_closed hT hq) hf g hg)
  simp only [h, Option.bind_some]
  rw [h1]; rfl
theorem varsNamed_nil (hT : P.funcs.toList.map (tellOf P) = T) {C : List Nat} (hq : quietSet T C = true) {f : Nat} (hf : f ∈ C) : [] = P.varsNamed f := by
  have hin := closure_in (P := P) (· ∈ C) (quiet_closed hT hq) hf
  have e1 : ((P.closure f).flatMap fun g => ((P.funcs[g]?).bind (·.body)).elim [] Code.globalsNamed) = [] := by
    rw [List.flatMap_eq_nil_iff]
    intro g hg
    obtain ⟨fn, h, h1, h2⟩ := quiet_tell hT hq (hin g hg)
    simpa [h] using h2
  have e2 : ((P.closure f).filterMap fun g => (P.funcs[g]?).bind fun fn => if fn.body.isNone then entryReads.lookup fn.name else none) = [] := by
    rw [List.filterMap_eq_nil_iff]
    intro g hg
    obtain ⟨fn, h, h1, h2⟩ := quiet_tell hT hq (hin g hg)
    have hb : fn.body.isNone = false := by
      simp only [Bool.or_eq_false_iff] at h1
      exact h1.1.2
    simp only [h, Option.bind_some, hb]; rfl
  unfold Program.varsNamed
  rw [e1, e2]
  rfl
theorem unfollowed_true (hT : P.funcs.toList.map (tellOf P) = T) {f g : Nat} (k : Nat) (hk : k ≤ (T.map fun t => t.1.length + 1).sum) (h : (closT T k [f] []).2.contains g = true)
    (hu : ((T[g]?).getD T0).2.2.1 = true) : true = P.unfollowed f := by
  unfold Program.unfollowed
  symm
  rw [List.any_eq_true]
  refine ⟨g, closure_mem hT k hk h, ?_⟩
  cases e : P.funcs[g]? with
  | none =>
    have : T[g]? = none := by rw [← hT, List.getElem?_map]; simp [e]
    rw [this] at hu; simp [T0] at hu
  | some fn =>
    rw [tell_at hT g e] at hu
    simp only [Option.getD_some, tellOf] at hu
    simp only [Option.any_some]
    revert hu
    cases fn.body <;> simp
theorem recurses_true_of_unfollowed {f : Nat} (h : true = P.unfollowed f) : true = P.recurses f := by
  unfold Program.recurses; rw [← h]; rfl
end

theorem strip_cut (rest : List (List Char)) : stripLifts liftWords ("cut".toList :: rest) = ([], "cut".toList :: rest) := by kernel_rfl
theorem cut_not : ("cut".toList == "gc".toList) = false ∧ ("cut".toList == "spec".toList) = false ∧ ("cut".toList == "carried".toList) = false ∧ ("cut".toList == "cut".toList) = true := ⟨by kernel_rfl, by kernel_rfl, by kernel_rfl, by kernel_rfl⟩
section
variable {P : Program} {rest : List (List Char)} (h : behindMainWord (wordsSigns P.initOrder.toList) = "cut".toList :: rest)
include h
theorem headLifts_of : P.headLifts = [] := by
  unfold Program.headLifts
  rw [h, strip_cut]
  simp
theorem mayEnter_of (hl : P.laysLater = false) (hb : P.bearsReflect = false) (hd : P.doorFits [] = true) : P.mayEnter = true := by
  obtain ⟨c1, c2, c3, c4⟩ := cut_not
  unfold Program.mayEnter
  rw [h]
  simp only [strip_cut, hl, hb, hd, c1, c2, c3, Bool.false_and, Bool.or_false, List.head?_cons, Bool.not_false, Bool.or_true, Bool.and_true, List.contains_nil, beq_self_eq_true]
theorem liftsFinal_of : false = P.liftsFinal := by
  obtain ⟨c1, c2, c3, c4⟩ := cut_not
  unfold Program.liftsFinal
  rw [headLifts_of h, h]
  simp only [List.head?_cons, List.contains_nil, Bool.or_false]
  have : ((some "cut".toList : Option (List Char)) == some "carried".toList) = false := c3
  rw [this]; rfl
theorem make_of : P.make = some .cut := by
  obtain ⟨c1, c2, c3, c4⟩ := cut_not
  unfold Program.make
  rw [h]
  simp only [c1, c2, c4, Bool.or_self, Bool.true_or, if_true]
  rfl
end

/-- A row's closed facts, without the four cells that walk all that the function reaches. -/
def lightFacts (P : Program) (fn : Func) (s : ChangeSpec) (c : OpenClaim) : Bool :=
  (c.wf (OpenSpec.ofChange s) && mapsRowed P && fn.params.all (P.readableRec ·) && namedTie P c.named s.vars &&
  (c.stops == []) && (P.stops == []) && (c.knobs == []) && (P.stopKnobs == [])) &&
  ((c.maps == (fn.params.toList ++ s.plain.varTypes P).any (P.mapsRec ·)) && (c.ifaces == (fn.params.toList ++ s.plain.varTypes P).any (P.ifacesRec ·)) && (c.mapsOut == P.mapsAmong fn.resultTypes.toList) &&
  (c.loops == (fn.params.toList ++ s.plain.varTypes P).any (P.loopsFrom ·)) && (c.wideKeys == (fn.params.toList ++ s.plain.varTypes P ++ fn.resultTypes.toList).any (P.wideKeysFrom ·)) &&
  s.vars.all (P.varReadable ·) && fn.resultTypes.all (fun t => P.readableRec t && decide (t < P.types.size)) && (c.ifacesOut == fn.resultTypes.toList.any (P.ifacesRec ·)) && (c.loopsOut == fn.resultTypes.toList.any (P.loopsFrom ·)) && (c.plainKeys == P.plainKeys) && c.shortTexts.isNone) &&
  (P.stopsHeard && (c.kinds == (if c.domain.isEmpty then [] else fn.params.toList.map fun t => match P.underlying t with | some (.int k) => some k | _ => none)) && (c.pinned == c.pinnedBy) &&
  (c.veiled == (fn.params.toList ++ s.plain.varTypes P ++ fn.resultTypes.toList).any (P.veiledRec ·)) && c.veiledFits P fn.params.toList (fn.params.toList ++ s.plain.varTypes P ++ fn.resultTypes.toList))
theorem joined_of {P : Program} {f : Nat} {fn : Func} {s : ChangeSpec} {c : OpenClaim} (hl : laidOutB P = true) (h : lightFacts P fn s c = true) (he : P.mayEnter = true) (hf : c.lifted = P.liftsFinal) (hm : P.make = some c.make)
    (h1 : c.inPlace = P.inPlace f) (h2 : c.unfollowed = P.unfollowed f) (h3 : c.recurses = P.recurses f) (h4 : c.named = P.varsNamed f) : joinedFacts P f fn s c = true := by
  simp only [lightFacts, Bool.and_eq_true, beq_iff_eq] at h
  obtain ⟨⟨⟨⟨⟨⟨⟨⟨⟨g0, g1⟩, g2⟩, g3⟩, g4⟩, g5⟩, g6⟩, g7⟩, ⟨⟨⟨⟨⟨⟨⟨⟨⟨⟨m0, m1⟩, m2⟩, m3⟩, m4⟩, m5⟩, m6⟩, m7⟩, m8⟩, m9⟩, m10⟩⟩, ⟨⟨⟨⟨q0, q1⟩, q2⟩, q3⟩, q4⟩⟩ := h
  simp only [joinedFacts, Bool.and_eq_true, beq_iff_eq]
  exact ⟨⟨⟨⟨⟨⟨⟨⟨⟨⟨⟨⟨⟨⟨⟨⟨⟨⟨⟨⟨⟨⟨⟨⟨⟨⟨⟨⟨⟨⟨⟨g0, hl⟩, g1⟩, g2⟩, g3⟩, g4⟩, g5⟩, g6⟩, g7⟩, h1⟩, h2⟩, h3⟩, h4⟩, m0⟩, m1⟩, m2⟩, m3⟩, m4⟩, m5⟩, m6⟩, m7⟩, m8⟩, m9⟩, m10⟩, q0⟩, he⟩, hf⟩, hm⟩, q1⟩, q2⟩, q3⟩, q4⟩
end Go.Proofs.YtnfagphepkeedaaGreat
end
section
namespace Go.Proofs.YtnfagphepkeedaaGreat
open Go.RowKit

def TELLS0 : List (List Nat × Bool × Bool × List Nat) := [([], true, false, []),
  ([], true, false, []),
  ([1], false, false, []),
  ([7, 8, 9, 10, 11, 12, 13, 7], false, false, []),
  ([14, 14, 7, 15, 16, 17, 18, 12, 17, 7, 8, 10, 20, 19, 12, 7], false, false, []),
  ([7, 8, 10, 15, 17, 19, 7, 21, 22, 19, 7, 7], false, false, []),
  ([23, 23, 7, 21, 24, 22, 25, 13, 22, 7, 10, 8, 26, 19, 13, 7], false, false, []),
  ([15, 27, 19], false, false, []),
  ([28, 29, 30, 31, 33, 32, 30, 35, 36, 37, 38, 39, 40], false, false, []),
  ([41, 42, 43, 43, 44, 45, 46, 47, 44, 48], false, false, []),
  ([28, 29, 49, 51, 50, 39, 59], false, false, []),
  ([41, 60, 61, 62, 44, 63, 44, 48, 64], false, false, []),
  ([19], false, false, []),
  ([65], false, false, []),
  ([], false, false, []),
  ([16, 27, 67, 66, 68, 68, 68, 69, 70, 37, 71], false, false, []),
  ([72, 73, 67, 75, 74], false, false, []),
  ([76, 77], false, false, []),
  ([78, 79], false, false, []),
  ([], false, false, []),
  ([81, 82, 82, 82, 83, 47, 84], false, false, []),
  ([24, 27, 85, 87, 86], false, false, []),
  ([76, 88, 63, 89], false, false, []),
  ([90, 90], false, false, []),
  ([72, 92, 91], false, false, []),
  ([97, 98], false, false, []),
  ([81, 100, 99], false, false, []),
  ([101, 66, 102, 70], false, false, []),
  ([], false, false, []),
  ([103, 38], false, false, []),
  ([], false, false, []),
  ([30, 49, 73, 38], false, false, []),
  ([53], false, true, []),
  ([34], false, false, []),
  ([104, 30, 104, 38, 53, 105], false, false, []),
  ([], false, false, []),
  ([106], false, false, []),
  ([109, 108, 107], false, false, []),
  ([53, 110], false, false, []),
  ([111, 38], false, false, [])]
set_option maxRecDepth 100000 in
theorem tells_eq0 : ((Tryz.prog.funcs.toList.drop 0).take 40).map (tellOf Tryz.prog) = TELLS0 := by kernel_rfl
def TELLS1 : List (List Nat × Bool × Bool × List Nat) := [([56, 57], false, false, []),
  ([112, 44], false, false, []),
  ([60, 77, 44], false, false, []),
  ([113, 64], false, false, []),
  ([64], false, false, []),
  ([60, 114], false, false, []),
  ([114], false, false, []),
  ([115], false, false, []),
  ([44], false, false, []),
  ([116, 30, 104, 38], false, false, []),
  ([53], false, true, []),
  ([30, 52, 53, 28, 54, 56, 30, 55, 57, 38, 58, 38], false, false, []),
  ([117, 105, 30, 36, 38, 118, 53], false, false, []),
  ([57], false, false, []),
  ([119, 120, 31, 122, 121, 39], false, false, []),
  ([110], false, false, []),
  ([110], false, false, []),
  ([], false, false, []),
  ([124], false, false, []),
  ([56, 57], false, false, []),
  ([125, 43, 44], false, false, []),
  ([45, 46, 47, 44], false, false, []),
  ([126, 126, 42, 127, 89, 44, 45, 48], false, false, []),
  ([], false, false, []),
  ([], false, false, []),
  ([128], false, false, []),
  ([], false, false, []),
  ([], false, false, []),
  ([85, 129], false, false, []),
  ([68, 129], false, false, []),
  ([130], false, false, []),
  ([], false, false, []),
  ([], false, false, []),
  ([131], false, false, []),
  ([], false, true, []),
  ([], false, false, []),
  ([], false, false, []),
  ([132], false, false, []),
  ([], false, true, []),
  ([80], false, false, [])]
set_option maxRecDepth 100000 in
theorem tells_eq1 : ((Tryz.prog.funcs.toList.drop 40).take 40).map (tellOf Tryz.prog) = TELLS1 := by kernel_rfl
def TELLS2 : List (List Nat × Bool × Bool × List Nat) := [([], false, false, []),
  ([82, 82, 47, 84], false, false, []),
  ([82], false, false, []),
  ([82], false, false, []),
  ([], false, false, []),
  ([], false, false, []),
  ([133, 66, 134, 70], false, false, []),
  ([135, 66, 136, 137, 68, 138, 69, 70], false, false, []),
  ([76, 139, 140, 141], false, false, []),
  ([], false, false, []),
  ([142], false, false, []),
  ([], false, true, []),
  ([93, 94, 96, 58], false, false, []),
  ([], false, true, []),
  ([95], false, false, []),
  ([143, 144], false, false, []),
  ([72, 145, 146, 147], false, false, []),
  ([], false, true, []),
  ([148], false, false, []),
  ([83, 47, 84], false, false, []),
  ([82, 82, 149, 83], false, false, []),
  ([150], false, false, []),
  ([151, 152, 153, 129, 37, 154], false, false, []),
  ([155, 119, 156, 120, 30, 36, 53, 153, 37, 38], false, false, []),
  ([30, 157, 53, 30, 38, 30, 30, 38], false, false, []),
  ([49, 106], false, false, []),
  ([158], false, false, []),
  ([], false, false, []),
  ([159], false, false, []),
  ([], false, false, []),
  ([], false, false, []),
  ([], false, false, []),
  ([160, 126, 126, 46, 47, 44], false, false, []),
  ([64, 64, 64], false, false, []),
  ([44, 44], false, false, []),
  ([161], false, false, []),
  ([30, 104, 38], false, false, []),
  ([], false, false, []),
  ([37], false, true, []),
  ([162, 72], false, false, [])]
set_option maxRecDepth 100000 in
theorem tells_eq2 : ((Tryz.prog.funcs.toList.drop 80).take 40).map (tellOf Tryz.prog) = TELLS2 := by kernel_rfl
def TELLS3 : List (List Nat × Bool × Bool × List Nat) := [([162, 131], false, false, []),
  ([53], false, true, []),
  ([30, 123, 95, 38, 105], false, false, []),
  ([49, 30, 104, 38, 163, 53], false, false, []),
  ([], false, false, []),
  ([43, 44], false, false, []),
  ([43, 76, 132, 44], false, false, []),
  ([60, 43, 44, 164], false, false, []),
  ([165], false, false, []),
  ([130, 166, 152], false, false, []),
  ([], false, false, []),
  ([], false, false, []),
  ([], false, false, []),
  ([167], false, false, []),
  ([152, 69, 37, 154], false, false, []),
  ([147, 168, 150], false, false, []),
  ([72, 169], false, false, []),
  ([131, 169], false, false, []),
  ([170, 152, 68, 171, 68, 172], false, false, []),
  ([132], false, false, []),
  ([], false, false, []),
  ([173], false, false, []),
  ([174], false, false, []),
  ([], false, true, []),
  ([], false, false, []),
  ([131], false, false, []),
  ([], false, false, []),
  ([170], false, false, []),
  ([175, 176], false, false, []),
  ([82, 177], false, false, []),
  ([], false, false, []),
  ([72, 131, 156], false, false, []),
  ([130], false, false, []),
  ([101, 66, 178, 129, 136, 156, 137, 70], false, false, []),
  ([71, 129], false, false, []),
  ([30, 106, 38, 157, 30, 38, 53], false, false, []),
  ([], false, false, []),
  ([158], false, false, []),
  ([53, 38, 111, 38], false, false, []),
  ([179], false, false, [])]
set_option maxRecDepth 100000 in
theorem tells_eq3 : ((Tryz.prog.funcs.toList.drop 120).take 40).map (tellOf Tryz.prog) = TELLS3 := by kernel_rfl
def TELLS4 : List (List Nat × Bool × Bool × List Nat) := [([114, 44, 114, 44], false, false, []),
  ([], false, false, []),
  ([30, 104, 38, 53], false, true, []),
  ([49, 30, 104, 38, 53], false, false, []),
  ([60, 43, 44], false, false, []),
  ([180], false, false, []),
  ([], false, false, []),
  ([150], false, false, []),
  ([170, 150, 171, 150, 181], false, false, []),
  ([152, 68], false, false, []),
  ([182, 183, 184, 186], false, false, []),
  ([], false, false, []),
  ([187, 152, 68, 68], false, false, []),
  ([188], false, false, []),
  ([189], false, false, []),
  ([], false, true, []),
  ([190, 80], false, false, []),
  ([82, 191, 82], false, false, []),
  ([129], false, false, []),
  ([], false, false, []),
  ([192, 19], false, false, []),
  ([187, 150, 150], false, false, []),
  ([], false, true, []),
  ([], false, false, []),
  ([185], false, false, []),
  ([187], false, false, []),
  ([], false, true, []),
  ([], false, false, []),
  ([], false, false, []),
  ([193], false, false, []),
  ([194, 195], false, false, []),
  ([], false, false, []),
  ([197], false, false, []),
  ([], false, false, []),
  ([], false, true, []),
  ([196], false, false, []),
  ([], false, false, []),
  ([198], false, false, []),
  ([], false, false, []),
  ([], true, false, [])]
set_option maxRecDepth 100000 in
theorem tells_eq4 : ((Tryz.prog.funcs.toList.drop 160).take 40).map (tellOf Tryz.prog) = TELLS4 := by kernel_rfl
def TELLS5 : List (List Nat × Bool × Bool × List Nat) := [([], true, false, []),
  ([], true, false, []),
  ([], true, false, []),
  ([], true, false, []),
  ([], true, false, []),
  ([], true, false, []),
  ([], true, false, []),
  ([], true, false, []),
  ([], true, false, []),
  ([], true, false, []),
  ([], true, false, []),
  ([], true, false, []),
  ([], true, false, []),
  ([], true, false, []),
  ([], true, false, []),
  ([], true, false, [])]
set_option maxRecDepth 100000 in
theorem tells_eq5 : ((Tryz.prog.funcs.toList.drop 200).take 16).map (tellOf Tryz.prog) = TELLS5 := by kernel_rfl
def TELLS : List (List Nat × Bool × Bool × List Nat) := TELLS0 ++ TELLS1 ++ TELLS2 ++ TELLS3 ++ TELLS4 ++ TELLS5
theorem tells_size : Tryz.prog.funcs.toList.length = 216 := by kernel_rfl
theorem split_at {α : Type} (l : List α) (i n : Nat) : (l.drop i) = (l.drop i).take n ++ l.drop (i + n) := by
  rw [← List.drop_drop]; exact (List.take_append_drop n _).symm
theorem tells_eq : Tryz.prog.funcs.toList.map (tellOf Tryz.prog) = TELLS := by
  have h0 : Tryz.prog.funcs.toList = Tryz.prog.funcs.toList.drop 0 := rfl
  rw [h0]
  rw [split_at Tryz.prog.funcs.toList 0 40, List.map_append, tells_eq0]
  rw [split_at Tryz.prog.funcs.toList 40 40, List.map_append, tells_eq1]
  rw [split_at Tryz.prog.funcs.toList 80 40, List.map_append, tells_eq2]
  rw [split_at Tryz.prog.funcs.toList 120 40, List.map_append, tells_eq3]
  rw [split_at Tryz.prog.funcs.toList 160 40, List.map_append, tells_eq4]
  rw [split_at Tryz.prog.funcs.toList 200 16, List.map_append, tells_eq5]
  rw [List.drop_eq_nil_of_le (by rw [tells_size]; omega)]
  simp [TELLS]
def initSigns : List Nat := [104, 97, 114, 110, 101, 115, 115, 32, 56, 52, 55, 54, 54, 50, 49, 100, 53, 51, 51, 54, 54, 57, 50, 57, 97, 98, 102, 98, 98, 102, 51, 98, 98, 100, 100, 99, 98, 56, 50, 100, 48, 51, 98, 49, 97, 51, 100, 102, 98, 97, 50, 56, 97, 100, 98, 97, 54, 100, 55, 49, 50, 48, 99, 55, 100, 99, 51, 53, 101, 50, 55, 50, 32, 99, 117, 116, 32, 97, 116, 32, 116, 104, 111, 108, 101, 112, 105, 110, 47, 116, 104, 111, 108, 101, 112, 105, 110, 108, 97, 119, 51, 53, 46, 76, 101, 103, 97, 99, 121, 82, 101, 97, 100, 115, 32, 116, 104, 111, 108, 101, 112, 105, 110, 47, 116, 104, 111, 108, 101, 112, 105, 110, 108, 97, 119, 51, 53, 46, 76, 101, 103, 97, 99, 121, 79, 110, 101, 115, 32, 116, 104, 111, 108, 101, 112, 105, 110, 47, 116, 104, 111, 108, 101, 112, 105, 110, 108, 97, 119, 51, 53, 46, 76, 101, 103, 97, 99, 121, 79, 110, 99, 101, 32, 116, 104, 111, 108, 101, 112, 105, 110, 47, 116, 104, 111, 108, 101, 112, 105, 110, 108, 97, 119, 51, 53, 46, 76, 101, 103, 97, 99, 121, 84, 119, 111, 115]
set_option maxRecDepth 100000 in
theorem init_is : Tryz.prog.initOrder = String.ofList (initSigns.map Char.ofNat) := by kernel_rfl
theorem init_list : Tryz.prog.initOrder.toList = initSigns.map Char.ofNat := by rw [init_is]; exact String.toList_ofList
theorem cut_word : ("cut").toList = [99, 117, 116].map Char.ofNat := by decide +kernel
theorem cut_head : (behindMainWord (wordsSigns (initSigns.map Char.ofNat))).head? = some ([99, 117, 116].map Char.ofNat) := by kernel_rfl
theorem behind_main : ∃ rest, behindMainWord (wordsSigns Tryz.prog.initOrder.toList) = "cut".toList :: rest := by
  have h := cut_head
  rw [init_list, cut_word]
  cases hb : behindMainWord (wordsSigns (initSigns.map Char.ofNat)) with
  | nil => rw [hb] at h; cases h
  | cons c r => rw [hb] at h; simp only [List.head?_cons, Option.some.injEq] at h; exact ⟨r, by rw [h]⟩
theorem lays_later : Tryz.prog.laysLater = false := by kernel_rfl
theorem bears_reflect : Tryz.prog.bearsReflect = false := by kernel_rfl
theorem door_fits : Tryz.prog.doorFits [] = true := by kernel_rfl
theorem may_enter : Tryz.prog.mayEnter = true := by
  obtain ⟨rest, h⟩ := behind_main
  exact mayEnter_of h lays_later bears_reflect door_fits
theorem lifts_final : false = Tryz.prog.liftsFinal := by
  obtain ⟨rest, h⟩ := behind_main
  exact liftsFinal_of h
theorem make_cut : Tryz.prog.make = some .cut := by
  obtain ⟨rest, h⟩ := behind_main
  exact make_of h
end Go.Proofs.YtnfagphepkeedaaGreat
end
section
namespace Go.Proofs.YtnfagphepkeedaaGreat
open Go.RowKit
namespace CellLegacyOnce
def C : List Nat := [5, 7, 8, 10, 15, 16, 17, 19, 21, 22, 24, 27, 28, 29, 30, 31, 32, 33, 34, 35, 36, 37, 38, 39, 40, 49, 50, 51, 52, 53, 54, 55, 56, 57, 58, 59, 63, 66, 67, 68, 69, 70, 71, 72, 73, 74, 75, 76, 77, 85, 86, 87, 88, 89, 91, 92, 93, 94, 95, 96, 101, 102, 103, 104, 105, 106, 107, 108, 109, 110, 111, 116, 117, 118, 119, 120, 121, 122, 123, 124, 129, 130, 131, 132, 133, 134, 135, 136, 137, 138, 139, 140, 141, 143, 144, 145, 146, 147, 150, 151, 152, 153, 154, 155, 156, 157, 158, 159, 162, 163, 166, 167, 168, 169, 170, 171, 172, 173, 178, 179, 181, 182, 183, 184, 185, 186, 187, 188]
theorem quiet : quietSet TELLS C = true := by decide +kernel
theorem mem : 5 ∈ C := by decide
theorem unf : true = Tryz.prog.unfollowed 5 := unfollowed_true (g := 74) tells_eq 10 (by decide +kernel) (by decide +kernel) (by decide +kernel)
theorem rec : true = Tryz.prog.recurses 5 := recurses_true_of_unfollowed unf
theorem light : lightFacts Tryz.pinned.checked.prog Tryz.f5 Rows.legacyOnceSpec Rows.legacyOnceRow = true := by kernel_rfl
theorem lifted : Rows.legacyOnceRow.lifted = Tryz.pinned.checked.prog.liftsFinal := lifts_final
theorem made : Tryz.pinned.checked.prog.make = some Rows.legacyOnceRow.make := make_cut
theorem closed : joinedFacts Tryz.pinned.checked.prog 5 Tryz.f5 Rows.legacyOnceSpec Rows.legacyOnceRow = true :=
  joined_of Tryz.laidOut light may_enter lifted made (inPlace_nil tells_eq quiet mem) unf rec (varsNamed_nil tells_eq quiet mem)
theorem named : Tryz.pinned.checked.prog.funcNamed Rows.legacyOnceRow.func = some 5 := by kernel_rfl
theorem inst : Tryz.f5.isInstance Tryz.pinned.checked.prog Rows.legacyOnceRow.origin Rows.legacyOnceRow.targs := of_decide_eq_true (by kernel_rfl)
theorem wrap : Tryz.f5.isWrapper Tryz.pinned.checked.prog Rows.legacyOnceRow.wrapper Rows.legacyOnceRow.mainSum := by unfold Func.isWrapper; first | (rw [if_pos (by decide +kernel)]; kernel_rfl) | (rw [if_neg (by decide +kernel)]; exact ⟨rfl, rfl⟩)
end CellLegacyOnce
end Go.Proofs.YtnfagphepkeedaaGreat
end
