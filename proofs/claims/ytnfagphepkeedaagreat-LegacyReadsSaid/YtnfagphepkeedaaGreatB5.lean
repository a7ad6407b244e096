/-
  Contracts of chapter 35: a batch as the version 2 writes it, read.
  Contracts of footer.Find.
  Contracts of chapter 35: a segment of the version 2 read.
  Contracts of chapter 35: a segment of the version 2 read by the reference.
  Contracts of chapter 35: a segment of the version 2 written; by the reference.
  Chapter 35: LegacyReads, LegacyOnce, LegacyOnes, LegacyTwos.
  What a function reaches, read off a table of where each function leads: the cells inPlace, unfollowed, recurses, named of a row, without walking the texts again for each row.
  Closed facts on the program of this seat: where each function leads, and what it names.
  The closed facts of the row of LegacyReads.
-/
import Derived.Test.YtnfagphepkeedaaGreatB4
import Derived.Test.YtnfagphepkeedaaGreatB2
import Derived.Test.YtnfagphepkeedaaGreatB3
import Derived.Test.YtnfagphepkeedaaGreatB1
set_option linter.all false
set_option linter.unusedSimpArgs false
set_option linter.unusedVariables false
set_option linter.unnecessarySimpa false
section
namespace Go.Proofs.YtnfagphepkeedaaGreat
open Go.RowKit

theorem links_len35 {s : RS} {pos : Int} (h : ROk s) (p0 : 0 ≤ pos) (p1 : pos < 18446744073709551616) : Smalls (s.links pos).2 := by
  by_cases hc : (s.links pos).1.code = 0
  · obtain ⟨i1, i2, i3, i4, i5⟩ := links_is h p0 p1 hc
    obtain ⟨r1, r2, r3⟩ := rightL_iff.1 i3
    exact ⟨by omega, fun x hx => by have := (goodL_iff.1 (r3 x hx)).1; omega⟩
  · rw [links_bad hc]; exact ⟨by simp, by simp⟩
theorem lsing_fail {s : RS} (pos : Int) : (singleL (s.links pos).2 = false → s.lsing pos = (s.links pos).1.fail 3 s.at_) ∧ (singleL (s.links pos).2 = true → s.lsing pos = (s.links pos).1) := by
  unfold RS.lsing
  refine ⟨fun h => ?_, fun h => by rw [if_neg (by rw [h]; rintro ⟨_, h⟩; cases h)]⟩
  by_cases hc : (s.links pos).1.code = 0
  · rw [if_pos ⟨hc, h⟩]
  · rw [links_bad hc] at h; cases h
abbrev bO (e base : Int) : AObj := .cells [uA e, uA base, .sl .full 1 []]
abbrev entV (t : RS) (pos left : Int) : En := ⟨(t.links pos).2, ((t.lsing pos).blob left).2⟩
set_option maxRecDepth 100000 in
theorem legacy_unplain10 (t : RS) (e base : Int) (k : Nat) (left pos : Int) (ht : ROk t) (hp : IntKind.u64.wrap (base + k) = pos) (hk : k ≤ 1000000) (p0 : 0 ≤ pos) (p1 : pos < 18446744073709551616) (l0 : 0 ≤ left) (l1 : left ≤ 1048576) (hn : t.l.length * 32 ≤ 100000000000000) :
    Does Tryz.prog 122 [iA k, .ref 1 0, .ref 2 0, .ref 3 0] [rdr t, ptO 0, bO e base, inO left] (enA (entV t pos left)) [rdr ((t.lsing pos).blob left).1, ptO 0, bO e base, inO (left - ((t.lsing pos).blob left).2.length)] := by
  have w0 : IntKind.u64.wrap (k : Int) = k := IntWalk.u64_in _ (by omega)
  have hsk := lsing_keep ht p0 p1
  have hlk := links_keep ht p0 p1
  have hsm := links_len35 ht p0 p1
  have hl := blob_len2 hsk.1 (m := left) l0
  obtain ⟨f1, f2⟩ := lsing_fail (s := t) pos
  have hlr := link_Read t pos 0 p0 p1 ht hn
  have hbr := blob_Read (t.lsing pos) left 0 (by omega) hsk.1
  obtain ⟨F, hF⟩ : ∃ F, t.links pos = F := ⟨_, rfl⟩
  have hV : entV t pos left = ⟨F.2, ((t.lsing pos).blob left).2⟩ := by rw [← hF]
  rw [hF] at hlk hsm f1 f2 hlr
  rw [hV]
  obtain ⟨D, hD⟩ : ∃ D, t.lsing pos = D := ⟨_, rfl⟩
  rw [hD] at f1 f2 hl hsk hbr
  rw [hD]
  obtain ⟨X, hX⟩ : ∃ X, D.blob left = X := ⟨_, rfl⟩
  rw [hX] at hl hbr
  rw [hX]
  have w1 : IntKind.i64.wrap (left - (X.2.length : Int)) = left - (X.2.length : Int) := IntWalk.i64_in _ (by omega)
  refine Does.runA Tryz.func122 b122 n122 Tryz.ntmps122 ?_; simp only [c122, go_sem, Nat.reduceAdd, Nat.reduceMul, Int.reduceToNat, Nat.reduceLeDiff, Int.reduceLE, Int.reduceLT, ↓reduceIte, Int.reduceBEq, Int.reduceBNe, Int.reduceAdd, Int.reduceSub, Int.reduceMul, w0, hp]; try refine okTr_and rfl ?_
  refine CallK.r1 (Reader_At t 0) rfl ?_; (simp only [go_sem, Nat.reduceAdd, Nat.reduceMul, Int.reduceToNat, Nat.reduceLeDiff, Int.reduceLE, Int.reduceLT, ↓reduceIte, Int.reduceBEq, Int.reduceBNe, Int.reduceAdd, Int.reduceSub, Int.reduceMul]; try refine okTr_and rfl ?_)
  (simp only [go_sem, Nat.reduceAdd, Nat.reduceMul, Int.reduceToNat, Nat.reduceLeDiff, Int.reduceLE, Int.reduceLT, ↓reduceIte, Int.reduceBEq, Int.reduceBNe, Int.reduceAdd, Int.reduceSub, Int.reduceMul, w0, hp]; try refine okTr_and rfl ?_)
  refine CallK.u1 (hlr) rfl ?_; (simp only [go_sem, Nat.reduceAdd, Nat.reduceMul, Int.reduceToNat, Nat.reduceLeDiff, Int.reduceLE, Int.reduceLT, ↓reduceIte, Int.reduceBEq, Int.reduceBNe, Int.reduceAdd, Int.reduceSub, Int.reduceMul]; try refine okTr_and rfl ?_)
  refine CallK.p (legacy_single F.2 hsm.1) ?_
  cases h : singleL F.2 with
  | true =>
    have ee := f2 h
    (simp only [go_sem, Nat.reduceAdd, Nat.reduceMul, Int.reduceToNat, Nat.reduceLeDiff, Int.reduceLE, Int.reduceLT, ↓reduceIte, Int.reduceBEq, Int.reduceBNe, Int.reduceAdd, Int.reduceSub, Int.reduceMul, ← ee]; try refine okTr_and rfl ?_)
    refine CallK.u1 (hbr) rfl ?_; (simp only [go_sem, Nat.reduceAdd, Nat.reduceMul, Int.reduceToNat, Nat.reduceLeDiff, Int.reduceLE, Int.reduceLT, ↓reduceIte, Int.reduceBEq, Int.reduceBNe, Int.reduceAdd, Int.reduceSub, Int.reduceMul, ints_length, w1]; try refine okTr_and rfl ?_)
    exact FinK.finA r122 [0, 1, 2, 3]
  | false =>
    have ee := f1 h
    (simp only [go_sem, Nat.reduceAdd, Nat.reduceMul, Int.reduceToNat, Nat.reduceLeDiff, Int.reduceLE, Int.reduceLT, ↓reduceIte, Int.reduceBEq, Int.reduceBNe, Int.reduceAdd, Int.reduceSub, Int.reduceMul]; try refine okTr_and rfl ?_)
    refine CallK.u1 (Reader_Fail F.1 3 t.at_ 0) rfl ?_; (simp only [go_sem, Nat.reduceAdd, Nat.reduceMul, Int.reduceToNat, Nat.reduceLeDiff, Int.reduceLE, Int.reduceLT, ↓reduceIte, Int.reduceBEq, Int.reduceBNe, Int.reduceAdd, Int.reduceSub, Int.reduceMul, ← ee]; try refine okTr_and rfl ?_)
    refine CallK.u1 (hbr) rfl ?_; (simp only [go_sem, Nat.reduceAdd, Nat.reduceMul, Int.reduceToNat, Nat.reduceLeDiff, Int.reduceLE, Int.reduceLT, ↓reduceIte, Int.reduceBEq, Int.reduceBNe, Int.reduceAdd, Int.reduceSub, Int.reduceMul, ints_length, w1]; try refine okTr_and rfl ?_)
    exact FinK.finA r122 [0, 1, 2, 3]
theorem legacy_unplain1 (t : RS) (e base : Int) (k : Nat) (left pos : Int) (r b c d : Nat) (hnd : [r, b, c, d].Nodup) (ht : ROk t) (hp : IntKind.u64.wrap (base + k) = pos) (hk : k ≤ 1000000) (p0 : 0 ≤ pos) (p1 : pos < 18446744073709551616) (l0 : 0 ≤ left) (l1 : left ≤ 1048576) (hn : t.l.length * 32 ≤ 100000000000000) :
    Ct Tryz.prog 122 [iA k, .ref b 0, .ref c 0, .ref d 0] [(r, rdr t), (b, ptO r), (c, bO e base), (d, inO left)] (fun _ => enA (entV t pos left)) [(r, rdr ((t.lsing pos).blob left).1), (b, ptO r), (c, bO e base), (d, inO (left - ((t.lsing pos).blob left).2.length))] (fun _ => []) :=
  Ct.u4 (legacy_unplain10 t e base k left pos ht hp hk p0 p1 l0 l1 hn) r b c d hnd cl cl cl cl cl cl cl cl cl (by simp [rdr]) cl
theorem fall_code35 {s : RS} {b m : Int} (hc : ¬ s.code = 0) : (s.fall b m).1 = s := by
  have hi : (s.int m).1 = s := int_stays hc
  unfold RS.fall Fmt.counted
  rw [hi]
  rw [many_code (fun s acc hc => ?_) hc]
  simp only [fallF]
  rw [vint_bad hc]; simp only
  rw [if_neg (fun h => hc h.1)]
theorem links_code {s : RS} {pos : Int} (hc : ¬ s.code = 0) : (s.links pos).1 = s := by
  have hi : (s.int 16).1 = s := int_stays hc
  unfold RS.links Fmt.counted
  rw [hi]
  rw [many_code (fun s acc hc => ?_) hc]
  have hh : s.lkHead acc = s := by
    unfold RS.lkHead
    rw [vint_bad hc]; simp only
    rw [if_neg (fun h => hc h.1)]
  simp only [linkF]
  rw [hh]
  exact fall_code35 hc
theorem lsing_code {s : RS} {pos : Int} (hc : ¬ s.code = 0) : s.lsing pos = s := by
  have h1 := links_code (pos := pos) hc
  unfold RS.lsing
  rw [h1, if_neg (fun h => hc h.1)]
theorem entF_code (base : Int) : ∀ s acc, ¬ s.code = 0 → ((entF base).f s acc).1 = s := by
  intro s acc hc
  simp only [entF]
  split
  · simp only; rw [lsing_code hc, blob_code hc]
  · exact fail_stays hc
set_option maxHeartbeats 1000000 in
set_option maxRecDepth 100000 in
theorem legacy_manyE0 (u : RS) (e base : Int) (N : Nat) (hu : ROk u) (b0 : 0 ≤ base) (b1 : base < 18446744073709551616) (hN : N ≤ 1000000) (hf : u.code = 0 → base + N ≤ 4611686018427387904) (hn : u.l.length * 48 ≤ 100000000000000) :
    Does Tryz.prog 121 [.ref 0 0, iA N, .fn 122 [] [.ref 1 0, .ref 2 0, .ref 3 0]] [rdr u, ptO 0, bO e base, inO 1048576] (slE ((entF base).many N u []).2) [rdr ((entF base).many N u []).1, ptO 0, bO e base, .cells [.any]] := by
  have hF := entF_ok b0
  refine Does.runA Tryz.func121 b121 n121 Tryz.ntmps121 ?_; simp only [c121, go_sem, Nat.reduceAdd, Nat.reduceMul, Int.reduceToNat, Nat.reduceLeDiff, Int.reduceLE, Int.reduceLT, ↓reduceIte, Int.reduceBEq, Int.reduceBNe, Int.reduceAdd, Int.reduceSub, Int.reduceMul]; try refine okTr_and rfl ?_
  refine loop_of (α := RS × List En) (fun a => [.ref 0 0, .any, .fn 122 [] [.ref 1 0, .ref 2 0, .ref 3 0], .any, .any, .any, .any, .sl (.row 4) 2 (ens a.2), .any, .any, iA N, iA a.2.length, .any, .any, .any, .any, .any, .any, .any, .any, .any, .any, .any, .any, .any, .any]) (fun a => [rdr a.1, ptO 0, bO e base, inO (1048576 - (joinE a.2).length), .row 2 a.2.length]) (fun a => (entF base).On u N a ∧ (a.1.code = 0 → u.code = 0)) (fun a => N - a.2.length) (u, []) ⟨Fmt.On.start hu N, fun h => h⟩ ((Wk.row 7 2 rfl (.inr rfl) (by decide)).trans (Wk.to (by simp [joinE]) (by simp [leT, ens]))) ?_
  rintro ⟨t, acc⟩ ⟨ho, hor⟩
  have hla := ho.len
  have h1 := ho.ok
  have h2 := ho.l
  have h6 := ho.res
  have hwf := ho.wf
  simp only at h1 h2 h6 hwf hor
  have hsum := ent_sum hwf
  (simp only [go_sem, Nat.reduceAdd, Nat.reduceMul, Int.reduceToNat, Nat.reduceLeDiff, Int.reduceLE, Int.reduceLT, ↓reduceIte, Int.reduceBEq, Int.reduceBNe, Int.reduceAdd, Int.reduceSub, Int.reduceMul]; try refine okTr_and rfl ?_)
  by_cases hlt : acc.length < N
  · have q0 : decide ((acc.length : Int) < (N : Int)) = true := decide_eq_true (by omega)
    have ei := i64_succ acc.length (by omega)
    obtain ⟨pos, hpos⟩ : ∃ pos, IntKind.u64.wrap (base + (acc.length : Int)) = pos := ⟨_, rfl⟩
    have hpr : 0 ≤ pos ∧ pos < 18446744073709551616 := by
      rw [← hpos, IntKind.wrap_u64]; omega
    have hcl := legacy_unplain1 t e base acc.length (1048576 - (joinE acc).length) pos 0 1 2 3 (by decide) h1 hpos (by omega) hpr.1 hpr.2 (by omega) (by omega) (by rw [h2]; omega)
    have hff : ((entF base).f t acc).1 = ((t.lsing pos).blob (1048576 - (joinE acc).length)).1 ∧ (((t.lsing pos).blob (1048576 - (joinE acc).length)).1.code = 0 → ((entF base).f t acc).2 = entV t pos (1048576 - (joinE acc).length)) := by
      by_cases hc0 : t.code = 0
      · have hg : base + (acc.length : Int) < 4611686018427387904 := by
          have := hf (hor hc0)
          omega
        have hpe : pos = base + (acc.length : Int) := by rw [← hpos]; exact IntWalk.u64_in _ (by omega)
        rw [entF_f hg, ← hpe]
        exact ⟨rfl, fun _ => rfl⟩
      · rw [entF_code base t acc hc0, lsing_code hc0, blob_code hc0]
        exact ⟨rfl, fun hh => absurd hh hc0⟩
    have hdt : (entV t pos (1048576 - (joinE acc).length)).data = ((t.lsing pos).blob (1048576 - (joinE acc).length)).2 := rfl
    obtain ⟨V, hV⟩ : ∃ V, entV t pos (1048576 - (joinE acc).length) = V := ⟨_, rfl⟩
    rw [hV] at hff hcl hdt
    obtain ⟨D, hD⟩ : ∃ D, (t.lsing pos).blob (1048576 - (joinE acc).length) = D := ⟨_, rfl⟩
    rw [hD] at hff hcl hdt
    obtain ⟨hf1, hf2⟩ := hff
    (simp only [go_sem, Nat.reduceAdd, Nat.reduceMul, Int.reduceToNat, Nat.reduceLeDiff, Int.reduceLE, Int.reduceLT, ↓reduceIte, Int.reduceBEq, Int.reduceBNe, Int.reduceAdd, Int.reduceSub, Int.reduceMul, q0]; try refine okTr_and rfl ?_)
    refine CallK.u4 hcl rfl rfl rfl rfl ?_
    (simp only [go_sem, Nat.reduceAdd, Nat.reduceMul, Int.reduceToNat, Nat.reduceLeDiff, Int.reduceLE, Int.reduceLT, ↓reduceIte, Int.reduceBEq, Int.reduceBNe, Int.reduceAdd, Int.reduceSub, Int.reduceMul]; try refine okTr_and rfl ?_)
    refine CallK.r1 (Reader_Good D.1 0) rfl ?_; (simp only [go_sem, Nat.reduceAdd, Nat.reduceMul, Int.reduceToNat, Nat.reduceLeDiff, Int.reduceLE, Int.reduceLT, ↓reduceIte, Int.reduceBEq, Int.reduceBNe, Int.reduceAdd, Int.reduceSub, Int.reduceMul]; try refine okTr_and rfl ?_)
    by_cases hc : D.1.code = 0
    · have hg : D.1.good = true := by unfold RS.good; simpa using hc
      have hnx := ho.next hF hlt (by rw [hf1]; exact hc)
      rw [hf1, hf2 hc] at hnx
      have hrd := (hF.read t acc h1 hwf (by rw [hf1]; exact hc)).1
      have hss : (joinE (acc ++ [V])).length = (joinE acc).length + V.data.length := by rw [joinE_snoc, List.length_append]
      have e1 : 1048576 - ((joinE acc).length : Int) - (D.2.length : Int) = 1048576 - ((joinE (acc ++ [V])).length : Int) := by rw [hss, hdt]; omega
      have hsn : ens acc ++ [enA V] = ens (acc ++ [V]) := by simp [ens]
      (simp only [go_sem, Nat.reduceAdd, Nat.reduceMul, Int.reduceToNat, Nat.reduceLeDiff, Int.reduceLE, Int.reduceLT, ↓reduceIte, Int.reduceBEq, Int.reduceBNe, Int.reduceAdd, Int.reduceSub, Int.reduceMul, hg, hsn, ens_length, ei, e1]; try refine okTr_and rfl ?_)
      (repeat ((with_reducible refine And.intro ?_ ?_); (· exact sd)))
      exact ⟨(D.1, acc ++ [V]), ⟨hnx, fun _ => hor hrd⟩, by simp; omega, Wk.sel [0, 1, 2, 3, 4] (by simp) rfl (by simp) rfl (by simp [ixs_z, rdr_ren]) (by simp [selT, ixs_z, ixs])⟩
    · have hg : D.1.good = false := by unfold RS.good; simpa using hc
      have hb := many_bad (F := entF base) (s := t) hlt (by rw [hf1]; exact hc)
      rw [h6, hf1] at hb
      rw [hb]
      have hnil : ens [] = [] := rfl
      (simp only [go_sem, Nat.reduceAdd, Nat.reduceMul, Int.reduceToNat, Nat.reduceLeDiff, Int.reduceLE, Int.reduceLT, ↓reduceIte, Int.reduceBEq, Int.reduceBNe, Int.reduceAdd, Int.reduceSub, Int.reduceMul, hg]; try refine okTr_and rfl ?_)
      (refine FinK.nilk 6 2 rfl ?_; simp only [List.set_cons_zero, List.set_cons_succ])
      refine FinK.wao (ys := [.any]) 3 rfl (WaL.cons (Wa.anyL _) WaL.nil) ?_
      simp only [List.set_cons_zero, List.set_cons_succ]
      ((refine FinK.finB r121 [0, 1, 2, 3] ?_ ?_); (· first | with_reducible rfl | (simp [hnil]; done) | rfl); (· simp [resAL, resA1, loadA, oneOr, hnil]))
  · have q0 : decide ((acc.length : Int) < (N : Int)) = false := decide_eq_false (by omega)
    have he := many_end (F := entF base) (s := t) (acc := acc) (N := N) (by omega)
    rw [h6] at he
    rw [he]
    (simp only [go_sem, Nat.reduceAdd, Nat.reduceMul, Int.reduceToNat, Nat.reduceLeDiff, Int.reduceLE, Int.reduceLT, ↓reduceIte, Int.reduceBEq, Int.reduceBNe, Int.reduceAdd, Int.reduceSub, Int.reduceMul, q0]; try refine okTr_and rfl ?_)
    (refine FinK.untag 6 rfl ?_; simp only [untag1_sl, List.set_cons_zero, List.set_cons_succ])
    refine FinK.wao (ys := [.any]) 3 rfl (WaL.cons (Wa.anyL _) WaL.nil) ?_
    simp only [List.set_cons_zero, List.set_cons_succ]
    exact FinK.finA r121 [0, 1, 2, 3]
theorem legacy_manyE (u : RS) (e base : Int) (N : Nat) (hu : ROk u) (b0 : 0 ≤ base) (b1 : base < 18446744073709551616) (hN : N ≤ 1000000) (hf : u.code = 0 → base + N ≤ 4611686018427387904) (hn : u.l.length * 48 ≤ 100000000000000) (r b c d : Nat) (hnd : [r, b, c, d].Nodup) :
    Ct Tryz.prog 121 [.ref r 0, iA N, .fn 122 [] [.ref b 0, .ref c 0, .ref d 0]] [(r, rdr u), (b, ptO r), (c, bO e base), (d, inO 1048576)] (fun _ => slE ((entF base).many N u []).2) [(r, rdr ((entF base).many N u []).1), (b, ptO r), (c, bO e base), (d, .cells [.any])] (fun _ => []) :=
  Ct.u4 (legacy_manyE0 u e base N hu b0 b1 hN hf hn) r b c d hnd cl cl cl cl cl cl cl cl cl (by simp [rdr]) cl
set_option maxHeartbeats 1000000 in
set_option maxRecDepth 100000 in
theorem legacy_unplain0 (s : RS) (hs : ROk s) (hn : s.l.length ≤ 1000000) : Does Tryz.prog 54 [.ref 0 0] [rdr s] (btA s.unpl.2) [rdr (s.unpl.1)] := by
  obtain ⟨a, b⟩ := epo_keep hs epRight
  obtain ⟨c, d⟩ := epo_keep a epPos
  have hrg := epo_range a epPos
  have hck := cnt_keep c ((s.epo epRight).1.epo epPos).2 1 16
  have hcr := int_range (s := ((s.epo epRight).1.epo epPos).1) (m := 16) c.bys
  have hcs := cnt_snd ((s.epo epRight).1.epo epPos).1 ((s.epo epRight).1.epo epPos).2 1 16
  have hci := fun hc => (cnt_is c (base := ((s.epo epRight).1.epo epPos).2) (least := 1) (most := 16) hc)
  have hek := ents_keep c hrg.1
  have hem : ((s.epo epRight).1.epo epPos).1.ents ((s.epo epRight).1.epo epPos).2 = (entF ((s.epo epRight).1.epo epPos).2).many (((s.epo epRight).1.epo epPos).1.cnt ((s.epo epRight).1.epo epPos).2 1 16).2.toNat (((s.epo epRight).1.epo epPos).1.cnt ((s.epo epRight).1.epo epPos).2 1 16).1 [] := rfl
  have hun : s.unpl = ((((s.epo epRight).1.epo epPos).1.ents ((s.epo epRight).1.epo epPos).2).1.rest9, ⟨(s.epo epRight).2, ((s.epo epRight).1.epo epPos).2, (((s.epo epRight).1.epo epPos).1.ents ((s.epo epRight).1.epo epPos).2).2⟩) := rfl
  rw [hun]
  have hE1 := epoch_Read s 0 hs
  obtain ⟨E, hE⟩ : ∃ E, s.epo epRight = E := ⟨_, rfl⟩
  rw [hE] at a b c d hrg hck hcr hcs hci hek hem hE1 ⊢
  have hE2 := epoch_ReadPos E.1 0 a
  obtain ⟨P, hP⟩ : ∃ P, E.1.epo epPos = P := ⟨_, rfl⟩
  rw [hP] at c d hrg hck hcr hcs hci hek hem hE2 ⊢
  have hcn := legacy_counted P.1 P.2 1 16 0 c hrg.1 hrg.2 (by decide)
  obtain ⟨C, hC⟩ : ∃ C, P.1.cnt P.2 1 16 = C := ⟨_, rfl⟩
  rw [hC] at hck hcs hci hem hcn
  have hN : C.2 = (C.2.toNat : Int) := by omega
  have hmn := legacy_manyE C.1 E.2 P.2 C.2.toNat hck.1 hrg.1 hrg.2 (by omega) (fun hc => by have := (hci hc).2.2.2.2.2.1; omega) (by rw [hck.2, d, b]; omega) 0 1 3 4 (by decide)
  rw [← hem, ← hN] at hmn
  obtain ⟨O, hO⟩ : ∃ O, P.1.ents P.2 = O := ⟨_, rfl⟩
  rw [hO] at hek hmn ⊢
  refine Does.runA Tryz.func54 b54 n54 Tryz.ntmps54 ?_; simp only [c54, go_sem, Nat.reduceAdd, Nat.reduceMul, Int.reduceToNat, Nat.reduceLeDiff, Int.reduceLE, Int.reduceLT, ↓reduceIte, Int.reduceBEq, Int.reduceBNe, Int.reduceAdd, Int.reduceSub, Int.reduceMul]; try refine okTr_and rfl ?_
  refine CallK.u1 (hE1) rfl ?_; (simp only [go_sem, Nat.reduceAdd, Nat.reduceMul, Int.reduceToNat, Nat.reduceLeDiff, Int.reduceLE, Int.reduceLT, ↓reduceIte, Int.reduceBEq, Int.reduceBNe, Int.reduceAdd, Int.reduceSub, Int.reduceMul]; try refine okTr_and rfl ?_)
  refine CallK.u1 (hE2) rfl ?_; (simp only [go_sem, Nat.reduceAdd, Nat.reduceMul, Int.reduceToNat, Nat.reduceLeDiff, Int.reduceLE, Int.reduceLT, ↓reduceIte, Int.reduceBEq, Int.reduceBNe, Int.reduceAdd, Int.reduceSub, Int.reduceMul]; try refine okTr_and rfl ?_)
  refine CallK.u1 (hcn) rfl ?_; (simp only [go_sem, Nat.reduceAdd, Nat.reduceMul, Int.reduceToNat, Nat.reduceLeDiff, Int.reduceLE, Int.reduceLT, ↓reduceIte, Int.reduceBEq, Int.reduceBNe, Int.reduceAdd, Int.reduceSub, Int.reduceMul]; try refine okTr_and rfl ?_)
  refine CallK.u4 hmn rfl rfl rfl rfl ?_
  (simp only [go_sem, Nat.reduceAdd, Nat.reduceMul, Int.reduceToNat, Nat.reduceLeDiff, Int.reduceLE, Int.reduceLT, ↓reduceIte, Int.reduceBEq, Int.reduceBNe, Int.reduceAdd, Int.reduceSub, Int.reduceMul]; try refine okTr_and rfl ?_)
  refine CallK.u1 (Reader_End O.1 0 hek.1) rfl ?_; (simp only [go_sem, Nat.reduceAdd, Nat.reduceMul, Int.reduceToNat, Nat.reduceLeDiff, Int.reduceLE, Int.reduceLT, ↓reduceIte, Int.reduceBEq, Int.reduceBNe, Int.reduceAdd, Int.reduceSub, Int.reduceMul]; try refine okTr_and rfl ?_)
  exact FinK.finA r54 [0]
theorem legacy_unplain (s : RS) (i : Nat) (hs : ROk s) (hn : s.l.length ≤ 1000000) : Ct Tryz.prog 54 [.ref i 0] [(i, rdr s)] (fun _ => btA s.unpl.2) [(i, rdr (s.unpl.1))] (fun _ => []) := Ct.u1 (legacy_unplain0 s hs hn) i cl (fun ρ => rdr_ren ρ _) (fun ρ => rdr_ren ρ _) (rdr_dead _) cl
end Go.Proofs.YtnfagphepkeedaaGreat
end
section
namespace Go.Proofs.YtnfagphepkeedaaGreat
open Go.RowKit

theorem fault_Shift0 (c a n x : Int) (hx : IntKind.i64.wrap (a + n) = x) : Does Tryz.prog 55 [fltA (c, a), iA n] [] (fltA (flt c x)) [] := by
  refine Does.runA Tryz.func55 b55 n55 Tryz.ntmps55 ?_; simp only [c55, go_sem, Nat.reduceAdd, Nat.reduceMul, Int.reduceToNat, Nat.reduceLeDiff, Int.reduceLE, Int.reduceLT, ↓reduceIte, Int.reduceBEq, Int.reduceBNe, Int.reduceAdd, Int.reduceSub, Int.reduceMul, hx]; try refine okTr_and rfl ?_
  refine CallK.p (fault_At c x) ?_; (simp only [go_sem, Nat.reduceAdd, Nat.reduceMul, Int.reduceToNat, Nat.reduceLeDiff, Int.reduceLE, Int.reduceLT, ↓reduceIte, Int.reduceBEq, Int.reduceBNe, Int.reduceAdd, Int.reduceSub, Int.reduceMul]; try refine okTr_and rfl ?_)
  exact FinK.finA r55 []
theorem fault_Shift (c a n x : Int) (hx : IntKind.i64.wrap (a + n) = x) : Ct Tryz.prog 55 [fltA (c, a), iA n] [] (fun _ => fltA (flt c x)) [] (fun _ => []) := (fault_Shift0 c a n x hx).toCt cl cl
end Go.Proofs.YtnfagphepkeedaaGreat
end
section
namespace Go.Proofs.YtnfagphepkeedaaGreat
open Go.RowKit

abbrev bsO (ep : Int) (acc : List Bt) (j : Nat) : AObj := .cells [uA ep, .sl (.row j) 3 (bts acc)]
def batAcc (t : RS) (ep : Int) (acc : List Bt) : List Bt := if (t.frame 2097152).1.code = 0 then acc ++ [(t.bat ep acc).2] else acc
theorem frame_blen {t : RS} (ht : ROk t) (m : Int) : (t.frame m).2.length ≤ t.l.length := by
  by_cases hc : (t.frame m).1.code = 0
  · obtain ⟨f1, f2, f3, f4, f5⟩ := frame_is ht hc
    have h := congrArg List.length f5
    have k := (frame_keep ht m).1.at1
    rw [(frame_keep ht m).2] at k
    rw [List.length_take, List.length_append, List.length_take, frameB_len] at h
    unfold blobB at h
    rw [List.length_append] at h
    omega
  · rw [frame_bad hc]; simp
theorem frame_bys {t : RS} (ht : ROk t) (m : Int) : Bys (t.frame m).2 := by
  by_cases hc : (t.frame m).1.code = 0
  · exact (frame_is ht hc).2.2.1
  · rw [frame_bad hc]; intro x hx; simp at hx
set_option maxHeartbeats 1000000 in
set_option maxRecDepth 100000 in
theorem legacy_Decode210 (t : RS) (ep : Int) (acc : List Bt) (k : Int) (ht : ROk t) (hn : t.l.length ≤ 1000000) (ha : acc.length ≤ 1000000) (he : Ends acc) :
    Does Tryz.prog 51 [iA k, .ref 1 0, .ref 2 0] [rdr t, ptO 0, bsO ep acc 3, .row 3 acc.length] (btA (t.bat ep acc).2) [rdr (t.bat ep acc).1, ptO 0, bsO ep (batAcc t ep acc) 3, .row 3 (batAcc t ep acc).length] := by
  have hfk := frame_keep ht 2097152
  have hfl := frame_blen ht 2097152
  have hfb := frame_bys ht 2097152
  have hfr := frame_Read t 2097152 0 ht (by decide)
  have hb : t.bat ep acc = if (t.frame 2097152).1.code = 0 then
    (if (RS.new (t.frame 2097152).2).unpl.1.code = 0 then
      (if mayB ep acc (RS.new (t.frame 2097152).2).unpl.2 = true then ((t.frame 2097152).1, (RS.new (t.frame 2097152).2).unpl.2) else ((t.frame 2097152).1.fail 13 t.at_, (RS.new (t.frame 2097152).2).unpl.2))
    else ((t.frame 2097152).1.fail (RS.new (t.frame 2097152).2).unpl.1.code ((t.frame 2097152).1.at_ - 4 - (t.frame 2097152).2.length + (RS.new (t.frame 2097152).2).unpl.1.fat), (RS.new (t.frame 2097152).2).unpl.2))
  else ((t.frame 2097152).1, bt0) := rfl
  have hacc : batAcc t ep acc = if (t.frame 2097152).1.code = 0 then acc ++ [(t.bat ep acc).2] else acc := rfl
  obtain ⟨D, hD⟩ : ∃ D, t.frame 2097152 = D := ⟨_, rfl⟩
  rw [hD] at hfk hfl hfb hfr hb hacc
  have hq0 : ROk (RS.new D.2) := ROk.new hfb (by omega)
  have hup := legacy_unplain (RS.new D.2) 5 hq0 (by show D.2.length ≤ 1000000; omega)
  have hfa := (Fa.new D.2).unpl hq0
  have huk := unpl_keep hq0
  obtain ⟨U, hU⟩ : ∃ U, (RS.new D.2).unpl = U := ⟨_, rfl⟩
  rw [hU] at hup hfa huk hb
  have hul : U.1.l = D.2 := huk.2
  obtain ⟨fa0, fa1⟩ := hfa
  rw [hul] at fa1
  have hat0 := hfk.1.at0
  have hat1 := hfk.1.at1
  rw [hfk.2] at hat1
  have w1 : IntKind.i64.wrap (D.1.at_ - 4) = D.1.at_ - 4 := IntWalk.i64_in _ (by omega)
  have w2 : IntKind.i64.wrap (D.1.at_ - 4 - (D.2.length : Int)) = D.1.at_ - 4 - D.2.length := IntWalk.i64_in _ (by omega)
  have w3 : IntKind.i64.wrap (U.1.fat + (D.1.at_ - 4 - (D.2.length : Int))) = D.1.at_ - 4 - D.2.length + U.1.fat := by rw [IntWalk.i64_in _ (by omega)]; omega
  refine Does.runA Tryz.func51 b51 n51 Tryz.ntmps51 ?_; simp only [c51, go_sem, Nat.reduceAdd, Nat.reduceMul, Int.reduceToNat, Nat.reduceLeDiff, Int.reduceLE, Int.reduceLT, ↓reduceIte, Int.reduceBEq, Int.reduceBNe, Int.reduceAdd, Int.reduceSub, Int.reduceMul]; try refine okTr_and rfl ?_
  refine CallK.r1 (Reader_At t 0) rfl ?_; (simp only [go_sem, Nat.reduceAdd, Nat.reduceMul, Int.reduceToNat, Nat.reduceLeDiff, Int.reduceLE, Int.reduceLT, ↓reduceIte, Int.reduceBEq, Int.reduceBNe, Int.reduceAdd, Int.reduceSub, Int.reduceMul]; try refine okTr_and rfl ?_)
  refine CallK.u1 (hfr) rfl ?_; (simp only [go_sem, Nat.reduceAdd, Nat.reduceMul, Int.reduceToNat, Nat.reduceLeDiff, Int.reduceLE, Int.reduceLT, ↓reduceIte, Int.reduceBEq, Int.reduceBNe, Int.reduceAdd, Int.reduceSub, Int.reduceMul]; try refine okTr_and rfl ?_)
  refine CallK.r1 (Reader_Good D.1 0) rfl ?_; (simp only [go_sem, Nat.reduceAdd, Nat.reduceMul, Int.reduceToNat, Nat.reduceLeDiff, Int.reduceLE, Int.reduceLT, ↓reduceIte, Int.reduceBEq, Int.reduceBNe, Int.reduceAdd, Int.reduceSub, Int.reduceMul]; try refine okTr_and rfl ?_)
  by_cases hc : D.1.code = 0
  · have hg : D.1.good = true := by unfold RS.good; simpa using hc
    rw [if_pos hc] at hb hacc
    (simp only [go_sem, Nat.reduceAdd, Nat.reduceMul, Int.reduceToNat, Nat.reduceLeDiff, Int.reduceLE, Int.reduceLT, ↓reduceIte, Int.reduceBEq, Int.reduceBNe, Int.reduceAdd, Int.reduceSub, Int.reduceMul, hg]; try refine okTr_and rfl ?_)
    refine CallK.n (cursor_New D.2) ?_; (simp only [go_sem, Nat.reduceAdd, Nat.reduceMul, Int.reduceToNat, Nat.reduceLeDiff, Int.reduceLE, Int.reduceLT, ↓reduceIte, Int.reduceBEq, Int.reduceBNe, Int.reduceAdd, Int.reduceSub, Int.reduceMul]; try refine okTr_and rfl ?_)
    refine CallK.u1 (hup) rfl ?_; (simp only [go_sem, Nat.reduceAdd, Nat.reduceMul, Int.reduceToNat, Nat.reduceLeDiff, Int.reduceLE, Int.reduceLT, ↓reduceIte, Int.reduceBEq, Int.reduceBNe, Int.reduceAdd, Int.reduceSub, Int.reduceMul]; try refine okTr_and rfl ?_)
    refine CallK.r1 (Reader_Fault U.1 5) rfl ?_; (simp only [go_sem, Nat.reduceAdd, Nat.reduceMul, Int.reduceToNat, Nat.reduceLeDiff, Int.reduceLE, Int.reduceLT, ↓reduceIte, Int.reduceBEq, Int.reduceBNe, Int.reduceAdd, Int.reduceSub, Int.reduceMul]; try refine okTr_and rfl ?_)
    refine CallK.r1 (Reader_At D.1 0) rfl ?_; (simp only [go_sem, Nat.reduceAdd, Nat.reduceMul, Int.reduceToNat, Nat.reduceLeDiff, Int.reduceLE, Int.reduceLT, ↓reduceIte, Int.reduceBEq, Int.reduceBNe, Int.reduceAdd, Int.reduceSub, Int.reduceMul, ints_length, w1, w2]; try refine okTr_and rfl ?_)
    have hsh := fault_Shift U.1.code U.1.fat (D.1.at_ - 4 - D.2.length) _ w3
    by_cases hz : U.1.code = 0
    · rw [if_pos hz] at hb
      have ef : flt U.1.code (D.1.at_ - 4 - D.2.length + U.1.fat) = (0, 0) := by unfold flt; rw [if_pos hz]
      rw [ef] at hsh
      refine CallK.p (hsh) ?_; (simp only [go_sem, Nat.reduceAdd, Nat.reduceMul, Int.reduceToNat, Nat.reduceLeDiff, Int.reduceLE, Int.reduceLT, ↓reduceIte, Int.reduceBEq, Int.reduceBNe, Int.reduceAdd, Int.reduceSub, Int.reduceMul]; try refine okTr_and rfl ?_)
      refine CallK.p (fault_Good 0 0) ?_; (simp only [go_sem, Nat.reduceAdd, Nat.reduceMul, Int.reduceToNat, Nat.reduceLeDiff, Int.reduceLE, Int.reduceLT, ↓reduceIte, Int.reduceBEq, Int.reduceBNe, Int.reduceAdd, Int.reduceSub, Int.reduceMul]; try refine okTr_and rfl ?_)
      refine CallK.p (legacy_follows ep acc U.2 ha he) ?_
      cases hm : mayB ep acc U.2 with
      | true =>
        rw [if_pos hm] at hb
        rw [hb] at hacc
        rw [hb, hacc]
        simp only
        (simp only [go_sem, Nat.reduceAdd, Nat.reduceMul, Int.reduceToNat, Nat.reduceLeDiff, Int.reduceLE, Int.reduceLT, ↓reduceIte, Int.reduceBEq, Int.reduceBNe, Int.reduceAdd, Int.reduceSub, Int.reduceMul, bts_snoc, bts_length, List.length_append]; try refine okTr_and rfl ?_)
        (repeat ((with_reducible refine And.intro ?_ ?_); (· exact sd)))
        exact FinK.finA r51 [0, 1, 2, 3]
      | false =>
        rw [if_neg (by rw [hm]; decide)] at hb
        rw [hb] at hacc
        rw [hb, hacc]
        simp only
        (simp only [go_sem, Nat.reduceAdd, Nat.reduceMul, Int.reduceToNat, Nat.reduceLeDiff, Int.reduceLE, Int.reduceLT, ↓reduceIte, Int.reduceBEq, Int.reduceBNe, Int.reduceAdd, Int.reduceSub, Int.reduceMul]; try refine okTr_and rfl ?_)
        refine CallK.u1 (Reader_Fail D.1 13 t.at_ 0) rfl ?_; (simp only [go_sem, Nat.reduceAdd, Nat.reduceMul, Int.reduceToNat, Nat.reduceLeDiff, Int.reduceLE, Int.reduceLT, ↓reduceIte, Int.reduceBEq, Int.reduceBNe, Int.reduceAdd, Int.reduceSub, Int.reduceMul, bts_snoc, bts_length, List.length_append]; try refine okTr_and rfl ?_)
        (repeat ((with_reducible refine And.intro ?_ ?_); (· exact sd)))
        exact FinK.finA r51 [0, 1, 2, 3]
    · rw [if_neg hz] at hb
      have ef : flt U.1.code (D.1.at_ - 4 - D.2.length + U.1.fat) = (U.1.code, D.1.at_ - 4 - D.2.length + U.1.fat) := by unfold flt; rw [if_neg hz]
      have q : (U.1.code == 0) = false := by simpa using hz
      rw [ef] at hsh
      rw [hb] at hacc
      rw [hb, hacc]
      simp only
      refine CallK.p (hsh) ?_; (simp only [go_sem, Nat.reduceAdd, Nat.reduceMul, Int.reduceToNat, Nat.reduceLeDiff, Int.reduceLE, Int.reduceLT, ↓reduceIte, Int.reduceBEq, Int.reduceBNe, Int.reduceAdd, Int.reduceSub, Int.reduceMul]; try refine okTr_and rfl ?_)
      refine CallK.p (fault_Good U.1.code (D.1.at_ - 4 - D.2.length + U.1.fat)) ?_; (simp only [go_sem, Nat.reduceAdd, Nat.reduceMul, Int.reduceToNat, Nat.reduceLeDiff, Int.reduceLE, Int.reduceLT, ↓reduceIte, Int.reduceBEq, Int.reduceBNe, Int.reduceAdd, Int.reduceSub, Int.reduceMul, q]; try refine okTr_and rfl ?_)
      refine CallK.u1 (Reader_Fail D.1 U.1.code (D.1.at_ - 4 - D.2.length + U.1.fat) 0) rfl ?_; (simp only [go_sem, Nat.reduceAdd, Nat.reduceMul, Int.reduceToNat, Nat.reduceLeDiff, Int.reduceLE, Int.reduceLT, ↓reduceIte, Int.reduceBEq, Int.reduceBNe, Int.reduceAdd, Int.reduceSub, Int.reduceMul, bts_snoc, bts_length, List.length_append]; try refine okTr_and rfl ?_)
      (repeat ((with_reducible refine And.intro ?_ ?_); (· exact sd)))
      exact FinK.finA r51 [0, 1, 2, 3]
  · have hg : D.1.good = false := by unfold RS.good; simpa using hc
    rw [if_neg hc] at hb hacc
    rw [hb, hacc]
    have hnil : ens [] = [] := rfl
    (simp only [go_sem, Nat.reduceAdd, Nat.reduceMul, Int.reduceToNat, Nat.reduceLeDiff, Int.reduceLE, Int.reduceLT, ↓reduceIte, Int.reduceBEq, Int.reduceBNe, Int.reduceAdd, Int.reduceSub, Int.reduceMul, hg]; try refine okTr_and rfl ?_)
    (refine FinK.wao (ys := [uA 0, uA 0, slE []]) 4 rfl (by repeat (first | exact Wa.refl _ | exact WaL.nil | exact Wa.nil | exact Wa.none | refine WaL.cons ?_ ?_ | refine Wa.agg ?_ | refine Wa.slN ?_ | refine Wa.slS ?_ | exact WaL.refl _)) ?_; simp only [List.set_cons_zero, List.set_cons_succ])
    ((refine FinK.finB r51 [0, 1, 2, 3] ?_ ?_); (· first | with_reducible rfl | (simp [bt0, hnil]; done) | rfl); (· simp [resAL, resA1, loadA, oneOr, bt0, hnil]))
theorem legacy_Decode21 (t : RS) (ep : Int) (acc : List Bt) (k : Int) (ht : ROk t) (hn : t.l.length ≤ 1000000) (ha : acc.length ≤ 1000000) (he : Ends acc) (r b c d : Nat) (hnd : [r, b, c, d].Nodup) :
    Ct Tryz.prog 51 [iA k, .ref b 0, .ref c 0] [(r, rdr t), (b, ptO r), (c, bsO ep acc d), (d, .row 3 acc.length)] (fun _ => btA (t.bat ep acc).2) [(r, rdr (t.bat ep acc).1), (b, ptO r), (c, bsO ep (batAcc t ep acc) d), (d, .row 3 (batAcc t ep acc).length)] (fun _ => []) :=
  Ct.u4 (legacy_Decode210 t ep acc k ht hn ha he) r b c d hnd cl cl cl cl cl cl cl cl cl (by simp [rdr]) cl
theorem ends_wf {ep : Int} {l : List Bt} (h : Wf (batF ep).nx [] l) : Ends l := by
  intro h0
  have hm : btLast l ∈ l := by
    unfold btLast
    have : l.length - 1 < l.length := by omega
    simp [this]
  obtain ⟨i, hi, e⟩ := List.getElem_of_mem hm
  have hn := wf_get i hi h
  rw [e] at hn
  obtain ⟨r1, ⟨r2, r3⟩, r4⟩ := rightB_iff.1 hn.rt
  exact ⟨by omega, hn.ok.b0, by omega⟩
abbrev bsF (ep : Int) (F : RS × List Bt) : AObj := .cells [uA ep, if F.1.code = 0 then slB F.2 else .any]
theorem bsF_ren (ep : Int) (F : RS × List Bt) (ρ : Nat → Nat) : (bsF ep F).ren ρ = bsF ep F := by
  by_cases h : F.1.code = 0 <;> simp [h, ixs_z]
set_option maxHeartbeats 1000000 in
set_option maxRecDepth 100000 in
theorem legacy_manyB0 (u : RS) (ep : Int) (N : Nat) (hu : ROk u) (hN : N ≤ 1000000) (hn : u.l.length ≤ 1000000) :
    Does Tryz.prog 50 [.ref 0 0, iA N, .fn 51 [] [.ref 1 0, .ref 2 0]] [rdr u, ptO 0, .cells [uA ep, .sl .full 1 []]] .any [rdr ((batF ep).many N u []).1, ptO 0, bsF ep ((batF ep).many N u [])] := by
  have hF := batF_ok ep
  refine Does.runA Tryz.func50 b50 n50 Tryz.ntmps50 ?_; simp only [c50, go_sem, Nat.reduceAdd, Nat.reduceMul, Int.reduceToNat, Nat.reduceLeDiff, Int.reduceLE, Int.reduceLT, ↓reduceIte, Int.reduceBEq, Int.reduceBNe, Int.reduceAdd, Int.reduceSub, Int.reduceMul]; try refine okTr_and rfl ?_
  refine loop_of (α := RS × List Bt) (fun a => [.ref 0 0, .any, .fn 51 [] [.ref 1 0, .ref 2 0], .any, .any, .any, .any, .sl (.row 4) 3 (bts a.2), .any, .any, iA N, iA a.2.length, .any, .any, .any, .any, .any, .any, .any, .any, .any, .any, .any, .any, .any, .any]) (fun a => [rdr a.1, ptO 0, bsO ep a.2 3, .row 3 a.2.length, .row 3 a.2.length]) (fun a => (batF ep).On u N a) (fun a => N - a.2.length) (u, []) (Fmt.On.start hu N) ((Wk.rowObj 2 1 3 rfl rfl (.inr rfl) (by decide)).trans ((Wk.row 7 3 rfl (.inr rfl) (by decide)).trans (Wk.to (by rfl) (by simp [leT, bts])))) ?_
  rintro ⟨t, acc⟩ ho
  have hla := ho.len
  have h1 := ho.ok
  have h2 := ho.l
  have h6 := ho.res
  have hwf := ho.wf
  simp only at h1 h2 h6 hwf
  have hends := ends_wf hwf
  (simp only [go_sem, Nat.reduceAdd, Nat.reduceMul, Int.reduceToNat, Nat.reduceLeDiff, Int.reduceLE, Int.reduceLT, ↓reduceIte, Int.reduceBEq, Int.reduceBNe, Int.reduceAdd, Int.reduceSub, Int.reduceMul]; try refine okTr_and rfl ?_)
  by_cases hlt : acc.length < N
  · have q0 : decide ((acc.length : Int) < (N : Int)) = true := decide_eq_true (by omega)
    have ei := i64_succ acc.length (by omega)
    have hcl := legacy_Decode21 t ep acc acc.length h1 (by rw [h2]; exact hn) (by omega) hends 0 1 2 3 (by decide)
    have hff : (batF ep).f t acc = t.bat ep acc := rfl
    have hfc := bat_is (s := t) (ep := ep) (acc := acc)
    have hac : batAcc t ep acc = if (t.frame 2097152).1.code = 0 then acc ++ [(t.bat ep acc).2] else acc := rfl
    obtain ⟨D, hD⟩ : ∃ D, t.bat ep acc = D := ⟨_, rfl⟩
    rw [hD] at hcl hff hfc hac
    obtain ⟨A, hA⟩ : ∃ A, batAcc t ep acc = A := ⟨_, rfl⟩
    rw [hA] at hcl hac
    (simp only [go_sem, Nat.reduceAdd, Nat.reduceMul, Int.reduceToNat, Nat.reduceLeDiff, Int.reduceLE, Int.reduceLT, ↓reduceIte, Int.reduceBEq, Int.reduceBNe, Int.reduceAdd, Int.reduceSub, Int.reduceMul, q0]; try refine okTr_and rfl ?_)
    refine CallK.u4 hcl rfl rfl rfl rfl ?_
    (simp only [go_sem, Nat.reduceAdd, Nat.reduceMul, Int.reduceToNat, Nat.reduceLeDiff, Int.reduceLE, Int.reduceLT, ↓reduceIte, Int.reduceBEq, Int.reduceBNe, Int.reduceAdd, Int.reduceSub, Int.reduceMul]; try refine okTr_and rfl ?_)
    refine CallK.r1 (Reader_Good D.1 0) rfl ?_; (simp only [go_sem, Nat.reduceAdd, Nat.reduceMul, Int.reduceToNat, Nat.reduceLeDiff, Int.reduceLE, Int.reduceLT, ↓reduceIte, Int.reduceBEq, Int.reduceBNe, Int.reduceAdd, Int.reduceSub, Int.reduceMul]; try refine okTr_and rfl ?_)
    by_cases hc : D.1.code = 0
    · have hg : D.1.good = true := by unfold RS.good; simpa using hc
      have hnx := ho.next hF hlt (by rw [hff]; exact hc)
      rw [hff] at hnx
      rw [if_pos (hfc hc).1] at hac
      have e1 : A.length = (acc ++ [D.2]).length := by rw [hac]
      rw [hac]
      (simp only [go_sem, Nat.reduceAdd, Nat.reduceMul, Int.reduceToNat, Nat.reduceLeDiff, Int.reduceLE, Int.reduceLT, ↓reduceIte, Int.reduceBEq, Int.reduceBNe, Int.reduceAdd, Int.reduceSub, Int.reduceMul, hg, bts_snoc, bts_length, ei]; try refine okTr_and rfl ?_)
      (repeat ((with_reducible refine And.intro ?_ ?_); (· exact sd)))
      exact ⟨(D.1, acc ++ [D.2]), hnx, by simp; omega, Wk.sel [0, 1, 2, 3, 4] (by simp) rfl (by simp) rfl (by simp [ixs_z, rdr_ren, ixs]) (by simp [selT, ixs_z, ixs])⟩
    · have hg : D.1.good = false := by unfold RS.good; simpa using hc
      have hb := many_bad (F := batF ep) (s := t) hlt (by rw [hff]; exact hc)
      rw [h6, hff] at hb
      rw [hb]
      have hbf : bsF ep (D.1, []) = .cells [uA ep, .any] := by simp [bsF, hc]
      rw [hbf]
      (simp only [go_sem, Nat.reduceAdd, Nat.reduceMul, Int.reduceToNat, Nat.reduceLeDiff, Int.reduceLE, Int.reduceLT, ↓reduceIte, Int.reduceBEq, Int.reduceBNe, Int.reduceAdd, Int.reduceSub, Int.reduceMul, hg]; try refine okTr_and rfl ?_)
      refine FinK.wa (y := .any) 6 rfl (Wa.anyS _ _ _) ?_
      simp only [List.set_cons_zero, List.set_cons_succ]
      refine FinK.wao (ys := [uA ep, .any]) 2 rfl (WaL.cons (Wa.refl _) (WaL.cons (Wa.anyS _ _ _) WaL.nil)) ?_
      simp only [List.set_cons_zero, List.set_cons_succ]
      exact FinK.finA r50 [0, 1, 2]
  · have q0 : decide ((acc.length : Int) < (N : Int)) = false := decide_eq_false (by omega)
    have he := many_end (F := batF ep) (s := t) (acc := acc) (N := N) (by omega)
    rw [h6] at he
    rw [he]
    (simp only [go_sem, Nat.reduceAdd, Nat.reduceMul, Int.reduceToNat, Nat.reduceLeDiff, Int.reduceLE, Int.reduceLT, ↓reduceIte, Int.reduceBEq, Int.reduceBNe, Int.reduceAdd, Int.reduceSub, Int.reduceMul, q0]; try refine okTr_and rfl ?_)
    refine FinK.wa (y := .any) 6 rfl (Wa.anyS _ _ _) ?_
    simp only [List.set_cons_zero, List.set_cons_succ]
    by_cases hc : t.code = 0
    · have hbf : bsF ep (t, acc) = .cells [uA ep, slB acc] := by simp [bsF, hc]
      rw [hbf]
      (refine FinK.unobj 2 rfl ?_; simp only [List.set_cons_zero, List.set_cons_succ, List.map_cons, List.map_nil, untag1_lit, untag1_sl])
      exact FinK.finA r50 [0, 1, 2]
    · have hbf : bsF ep (t, acc) = .cells [uA ep, .any] := by simp [bsF, hc]
      rw [hbf]
      refine FinK.wao (ys := [uA ep, .any]) 2 rfl (WaL.cons (Wa.refl _) (WaL.cons (Wa.anyS _ _ _) WaL.nil)) ?_
      simp only [List.set_cons_zero, List.set_cons_succ]
      exact FinK.finA r50 [0, 1, 2]
theorem legacy_manyB (u : RS) (ep : Int) (N : Nat) (hu : ROk u) (hN : N ≤ 1000000) (hn : u.l.length ≤ 1000000) (r b c : Nat) (hnd : [r, b, c].Nodup) :
    Ct Tryz.prog 50 [.ref r 0, iA N, .fn 51 [] [.ref b 0, .ref c 0]] [(r, rdr u), (b, ptO r), (c, .cells [uA ep, .sl .full 1 []])] (fun _ => .any) [(r, rdr ((batF ep).many N u []).1), (b, ptO r), (c, bsF ep ((batF ep).many N u []))] (fun _ => []) :=
  Ct.u3 (legacy_manyB0 u ep N hu hN hn) r b c hnd cl cl cl cl cl cl (fun N => bsF_ren ep _ _) (by simp [rdr]) cl
def got2 (s : RS) (u : Sg2) : Sg2 × (Int × Int) := if s.code = 0 then (u, (0, 0)) else (sg20, (s.code, s.fat))
/-- Where there is a fault the segment is not looked at. -/
theorem legacy_got20 (s : RS) (u : Sg2) (x : AV) (hx : s.code = 0 → x = slB u.bt) (hr : ∀ ρ, x.ren ρ = x) (hp : x = .any ∨ ∃ l, x = slB l) : Does Tryz.prog 59 [.ref 0 0, .agg [uA u.ep, x]] [rdr s] (.tup [sg2A (got2 s u).1, fltA (got2 s u).2]) [rdr (s)] := by
  by_cases hc : s.code = 0
  · have q : (s.code == 0) = true := by simpa using hc
    have e : got2 s u = (u, (0, 0)) := by unfold got2; rw [if_pos hc]
    rw [e, hx hc]
    refine Does.runA Tryz.func59 b59 n59 Tryz.ntmps59 ?_; simp only [c59, go_sem, Nat.reduceAdd, Nat.reduceMul, Int.reduceToNat, Nat.reduceLeDiff, Int.reduceLE, Int.reduceLT, ↓reduceIte, Int.reduceBEq, Int.reduceBNe, Int.reduceAdd, Int.reduceSub, Int.reduceMul]; try refine okTr_and rfl ?_
    refine CallK.r1 (Reader_Fault s 0) rfl ?_; (simp only [go_sem, Nat.reduceAdd, Nat.reduceMul, Int.reduceToNat, Nat.reduceLeDiff, Int.reduceLE, Int.reduceLT, ↓reduceIte, Int.reduceBEq, Int.reduceBNe, Int.reduceAdd, Int.reduceSub, Int.reduceMul]; try refine okTr_and rfl ?_)
    refine CallK.p (fault_Good s.code s.fat) ?_; (simp only [go_sem, Nat.reduceAdd, Nat.reduceMul, Int.reduceToNat, Nat.reduceLeDiff, Int.reduceLE, Int.reduceLT, ↓reduceIte, Int.reduceBEq, Int.reduceBNe, Int.reduceAdd, Int.reduceSub, Int.reduceMul, q]; try refine okTr_and rfl ?_)
    exact FinK.finA r59 [0]
  · have q : (s.code == 0) = false := by simpa using hc
    have e : got2 s u = (sg20, (s.code, s.fat)) := by unfold got2; rw [if_neg hc]
    rw [e]
    refine Does.runA Tryz.func59 b59 n59 Tryz.ntmps59 ?_; simp only [c59, go_sem, Nat.reduceAdd, Nat.reduceMul, Int.reduceToNat, Nat.reduceLeDiff, Int.reduceLE, Int.reduceLT, ↓reduceIte, Int.reduceBEq, Int.reduceBNe, Int.reduceAdd, Int.reduceSub, Int.reduceMul]; try refine okTr_and rfl ?_
    refine CallK.r1 (Reader_Fault s 0) rfl ?_; (simp only [go_sem, Nat.reduceAdd, Nat.reduceMul, Int.reduceToNat, Nat.reduceLeDiff, Int.reduceLE, Int.reduceLT, ↓reduceIte, Int.reduceBEq, Int.reduceBNe, Int.reduceAdd, Int.reduceSub, Int.reduceMul]; try refine okTr_and rfl ?_)
    refine CallK.p (fault_Good s.code s.fat) ?_; (simp only [go_sem, Nat.reduceAdd, Nat.reduceMul, Int.reduceToNat, Nat.reduceLeDiff, Int.reduceLE, Int.reduceLT, ↓reduceIte, Int.reduceBEq, Int.reduceBNe, Int.reduceAdd, Int.reduceSub, Int.reduceMul, q]; try refine okTr_and rfl ?_)
    (refine FinK.wao (ys := [uA 0, slB []]) 2 rfl (by repeat (first | exact Wa.refl _ | exact WaL.nil | exact Wa.nil | exact Wa.none | refine WaL.cons ?_ ?_ | refine Wa.agg ?_ | refine Wa.slN ?_ | refine Wa.slS ?_ | exact WaL.refl _)) ?_; simp only [List.set_cons_zero, List.set_cons_succ])
    ((refine FinK.finB r59 [0] ?_ ?_); (· first | with_reducible rfl | (simp [sg20, bts_nil]; done) | rfl); (· simp [resAL, resA1, loadA, oneOr, sg20, bts_nil]))
set_option maxHeartbeats 1000000 in
set_option maxRecDepth 100000 in
theorem legacy_Decode20 (b : List Int) (hb : Bys b) (hn : b.length ≤ 1000000) : Does Tryz.prog 10 [slA .u8 b] [] (.tup [sg2A (dec2 b).1, fltA (dec2 b).2]) [] := by
  have hok : ROk (RS.new b) := ROk.new hb (by omega)
  have hbk := begin_keep hok 2
  have hir := int_range (s := (RS.new b).begin 2) (m := 32) hbk.1.bys
  have hik := hbk.1.int 32
  have hbl : (RS.new b).l = b := rfl
  have hck := counted_keep (batF_ok (RS.new b).header.2.ep) hbk.1 32
  have hdef : dec2 b = got2 (RS.new b).dec2.1 (RS.new b).dec2.2 := rfl
  have hd1 : (RS.new b).dec2 = ((((RS.new b).begin 2).bats (RS.new b).header.2.ep).1.rest9, ⟨(RS.new b).header.2.ep, (((RS.new b).begin 2).bats (RS.new b).header.2.ep).2⟩) := rfl
  rw [hdef, hd1]
  have hom : ((RS.new b).begin 2).bats (RS.new b).header.2.ep = (batF (RS.new b).header.2.ep).many (((RS.new b).begin 2).int 32).2.toNat (((RS.new b).begin 2).int 32).1 [] := rfl
  have hck1 : ROk (((RS.new b).begin 2).bats (RS.new b).header.2.ep).1 := hck.1
  have hbg := legacy_begin (RS.new b) 2 2 hok (by decide)
  obtain ⟨H, hH⟩ : ∃ H, (RS.new b).header.2 = H := ⟨_, rfl⟩
  rw [hH] at hck1 hom hbg ⊢
  obtain ⟨B, hB⟩ : ∃ B, (RS.new b).begin 2 = B := ⟨_, rfl⟩
  rw [hB] at hbk hir hik hck1 hom hbg ⊢
  have hin := varint_ReadInt B 32 2 (by decide) hbk.1.ok hbk.1.bys
  obtain ⟨C, hC⟩ : ∃ C, B.int 32 = C := ⟨_, rfl⟩
  rw [hC] at hir hik hom hin
  have hN : C.2 = (C.2.toNat : Int) := by omega
  have hmn := legacy_manyB C.1 H.ep C.2.toNat hik.1 (by omega) (by rw [hik.2, hbk.2, hbl]; exact hn) 2 3 5 (by decide)
  rw [← hom, ← hN] at hmn
  obtain ⟨O, hO⟩ : ∃ O, B.bats H.ep = O := ⟨_, rfl⟩
  rw [hO] at hck1 hmn ⊢
  obtain ⟨x, hx⟩ : ∃ x, (if O.1.code = 0 then slB O.2 else AV.any) = x := ⟨_, rfl⟩
  have hx1 : O.1.rest9.code = 0 → x = slB (⟨H.ep, O.2⟩ : Sg2).bt := fun h => by rw [← hx, if_pos (rest9_code h).1]
  have hx2 : ∀ ρ, x.ren ρ = x := fun ρ => by rw [← hx]; split <;> simp [ixs_z]
  have hx3 : x = .any ∨ ∃ l, x = slB l := by
    rw [← hx]; split
    · exact .inr ⟨_, rfl⟩
    · exact .inl rfl
  have hbf : bsF H.ep O = .cells [uA H.ep, x] := by rw [← hx]
  rw [hbf] at hmn
  have hgt := legacy_got20 O.1.rest9 ⟨H.ep, O.2⟩ x hx1 hx2 hx3
  have hgc : Ct Tryz.prog 59 [.ref 2 0, .agg [uA H.ep, x]] [(2, rdr O.1.rest9)] (fun _ => .tup [sg2A (got2 O.1.rest9 ⟨H.ep, O.2⟩).1, fltA (got2 O.1.rest9 ⟨H.ep, O.2⟩).2]) [] (fun _ => []) :=
    Ct.r1 hgt 2 (by intros; simp [ixs_z, ixs, hx2]) (fun ρ => rdr_ren ρ _) (rdr_dead _) cl
  have hut : untag1 x = x := by rcases hx3 with h | ⟨l, h⟩ <;> rw [h] <;> rfl
  refine Does.runA Tryz.func10 b10 n10 Tryz.ntmps10 ?_; simp only [c10, go_sem, Nat.reduceAdd, Nat.reduceMul, Int.reduceToNat, Nat.reduceLeDiff, Int.reduceLE, Int.reduceLT, ↓reduceIte, Int.reduceBEq, Int.reduceBNe, Int.reduceAdd, Int.reduceSub, Int.reduceMul]; try refine okTr_and rfl ?_
  refine CallK.n (cursor_New b) ?_; (simp only [go_sem, Nat.reduceAdd, Nat.reduceMul, Int.reduceToNat, Nat.reduceLeDiff, Int.reduceLE, Int.reduceLT, ↓reduceIte, Int.reduceBEq, Int.reduceBNe, Int.reduceAdd, Int.reduceSub, Int.reduceMul]; try refine okTr_and rfl ?_)
  refine CallK.u1 (hbg) rfl ?_; (simp only [go_sem, Nat.reduceAdd, Nat.reduceMul, Int.reduceToNat, Nat.reduceLeDiff, Int.reduceLE, Int.reduceLT, ↓reduceIte, Int.reduceBEq, Int.reduceBNe, Int.reduceAdd, Int.reduceSub, Int.reduceMul]; try refine okTr_and rfl ?_)
  refine CallK.u1 (hin) rfl ?_; (simp only [go_sem, Nat.reduceAdd, Nat.reduceMul, Int.reduceToNat, Nat.reduceLeDiff, Int.reduceLE, Int.reduceLT, ↓reduceIte, Int.reduceBEq, Int.reduceBNe, Int.reduceAdd, Int.reduceSub, Int.reduceMul]; try refine okTr_and rfl ?_)
  refine CallK.u3 hmn rfl rfl rfl ?_
  (simp only [go_sem, Nat.reduceAdd, Nat.reduceMul, Int.reduceToNat, Nat.reduceLeDiff, Int.reduceLE, Int.reduceLT, ↓reduceIte, Int.reduceBEq, Int.reduceBNe, Int.reduceAdd, Int.reduceSub, Int.reduceMul]; try refine okTr_and rfl ?_)
  refine CallK.u1 (Reader_End O.1 2 hck1) rfl ?_; (simp only [go_sem, Nat.reduceAdd, Nat.reduceMul, Int.reduceToNat, Nat.reduceLeDiff, Int.reduceLE, Int.reduceLT, ↓reduceIte, Int.reduceBEq, Int.reduceBNe, Int.reduceAdd, Int.reduceSub, Int.reduceMul]; try refine okTr_and rfl ?_)
  refine CallK.r1 (i := 2) (o := rdr O.1.rest9) (r := .tup [sg2A (got2 O.1.rest9 ⟨H.ep, O.2⟩).1, fltA (got2 O.1.rest9 ⟨H.ep, O.2⟩).2]) (show Ct _ _ [.ref 2 0, .agg [uA H.ep, untag1 x]] _ _ _ _ from by rw [hut]; exact hgc) rfl ?_
  (simp only [go_sem, Nat.reduceAdd, Nat.reduceMul, Int.reduceToNat, Nat.reduceLeDiff, Int.reduceLE, Int.reduceLT, ↓reduceIte, Int.reduceBEq, Int.reduceBNe, Int.reduceAdd, Int.reduceSub, Int.reduceMul]; try refine okTr_and rfl ?_)
  exact FinK.finA r10 []
theorem legacy_Decode2 (b : List Int) (hb : Bys b) (hn : b.length ≤ 1000000) : Ct Tryz.prog 10 [slA .u8 b] [] (fun _ => .tup [sg2A (dec2 b).1, fltA (dec2 b).2]) [] (fun _ => []) := (legacy_Decode20 b hb hn).toCt cl cl
end Go.Proofs.YtnfagphepkeedaaGreat
end
section
namespace Go.Proofs.YtnfagphepkeedaaGreat
open Go.RowKit

def unpR (s : RS) : AV := if s.unpl.1.code = 0 then btA s.unpl.2 else .agg [uA s.unpl.2.ep, uA s.unpl.2.base, .any]
set_option maxHeartbeats 4000000 in
set_option maxRecDepth 100000 in
theorem ref35_unplain0 (p : List Int) (hp : Bys p) (hn : p.length ≤ 1000000) : Does Tryz.prog 62 [slA .u8 p] [] (.tup [unpR (RS.new p), fltA ((RS.new p).unpl.1.code, (RS.new p).unpl.1.fat)]) [] := by
  have hs : ROk (RS.new p) := ROk.new hp (by omega)
  have hcv : cv (RS.new p) = .agg [slA .u8 p, iA 0, iA 0, iA 0] := rfl
  have hlp : (RS.new p).l = p := rfl
  obtain ⟨a, b⟩ := epo_keep hs epRight
  obtain ⟨c, d⟩ := epo_keep a epPos
  have hrg := epo_range a epPos
  have hck := cnt_keep c (((RS.new p).epo epRight).1.epo epPos).2 1 16
  have hcr := int_range (s := (((RS.new p).epo epRight).1.epo epPos).1) (m := 16) c.bys
  have hcs := cnt_snd (((RS.new p).epo epRight).1.epo epPos).1 (((RS.new p).epo epRight).1.epo epPos).2 1 16
  have hci := fun hc => (cnt_is c (base := (((RS.new p).epo epRight).1.epo epPos).2) (least := 1) (most := 16) hc)
  have hek := ents_keep c hrg.1
  have hem : (((RS.new p).epo epRight).1.epo epPos).1.ents (((RS.new p).epo epRight).1.epo epPos).2 = (entF (((RS.new p).epo epRight).1.epo epPos).2).many ((((RS.new p).epo epRight).1.epo epPos).1.cnt (((RS.new p).epo epRight).1.epo epPos).2 1 16).2.toNat ((((RS.new p).epo epRight).1.epo epPos).1.cnt (((RS.new p).epo epRight).1.epo epPos).2 1 16).1 [] := rfl
  have hun : (RS.new p).unpl = (((((RS.new p).epo epRight).1.epo epPos).1.ents (((RS.new p).epo epRight).1.epo epPos).2).1.rest9, ⟨((RS.new p).epo epRight).2, (((RS.new p).epo epRight).1.epo epPos).2, ((((RS.new p).epo epRight).1.epo epPos).1.ents (((RS.new p).epo epRight).1.epo epPos).2).2⟩) := rfl
  have hE1 := ref17_Read (RS.new p) 1 (.inl rfl) hs
  have hk1 : epKind 1 = epRight := rfl
  have hk2 : epKind 2 = epPos := rfl
  rw [hk1, hcv] at hE1
  unfold unpR
  rw [hun]
  obtain ⟨E, hE⟩ : ∃ E, (RS.new p).epo epRight = E := ⟨_, rfl⟩
  rw [hE] at a b c d hrg hck hcr hcs hci hek hem hE1 ⊢
  have hE2 := ref17_Read E.1 2 (.inr (.inl rfl)) a
  rw [hk2] at hE2
  obtain ⟨P, hP⟩ : ∃ P, E.1.epo epPos = P := ⟨_, rfl⟩
  rw [hP] at c d hrg hck hcr hcs hci hek hem hE2 ⊢
  have hcn := ref35_count P.1 P.2 1 16 c hrg.1 hrg.2 (by decide)
  obtain ⟨C, hC⟩ : ∃ C, P.1.cnt P.2 1 16 = C := ⟨_, rfl⟩
  rw [hC] at hck hcs hci hem hcn
  obtain ⟨N, hN⟩ : ∃ N, C.2.toNat = N := ⟨_, rfl⟩
  have hCN : C.2 = (N : Int) := by omega
  have hN4 : N ≤ 16 := by omega
  rw [hN] at hem
  rw [hCN] at hci hcn
  have hgrd : C.1.code = 0 → P.2 + N ≤ 4611686018427387904 := fun hc => (hci hc).2.2.2.2.2.1
  have hF := entF_ok hrg.1
  have hCl : C.1.l = p := hck.2.trans (d.trans (b.trans hlp))
  obtain ⟨O, hO⟩ : ∃ O, P.1.ents P.2 = O := ⟨_, rfl⟩
  rw [hO] at hek hem ⊢
  simp only
  refine Does.runA Tryz.func62 b62 n62 Tryz.ntmps62 ?_; simp only [c62, go_sem, Nat.reduceAdd, Nat.reduceMul, Int.reduceToNat, Nat.reduceLeDiff, Int.reduceLE, Int.reduceLT, ↓reduceIte, Int.reduceBEq, Int.reduceBNe, Int.reduceAdd, Int.reduceSub, Int.reduceMul]; try refine okTr_and rfl ?_
  refine CallK.p (hE1) ?_; (simp only [go_sem, Nat.reduceAdd, Nat.reduceMul, Int.reduceToNat, Nat.reduceLeDiff, Int.reduceLE, Int.reduceLT, ↓reduceIte, Int.reduceBEq, Int.reduceBNe, Int.reduceAdd, Int.reduceSub, Int.reduceMul]; try refine okTr_and rfl ?_)
  refine CallK.p (hE2) ?_; (simp only [go_sem, Nat.reduceAdd, Nat.reduceMul, Int.reduceToNat, Nat.reduceLeDiff, Int.reduceLE, Int.reduceLT, ↓reduceIte, Int.reduceBEq, Int.reduceBNe, Int.reduceAdd, Int.reduceSub, Int.reduceMul]; try refine okTr_and rfl ?_)
  refine CallK.p (hcn) ?_; (simp only [go_sem, Nat.reduceAdd, Nat.reduceMul, Int.reduceToNat, Nat.reduceLeDiff, Int.reduceLE, Int.reduceLT, ↓reduceIte, Int.reduceBEq, Int.reduceBNe, Int.reduceAdd, Int.reduceSub, Int.reduceMul]; try refine okTr_and rfl ?_)
  refine loop_of (α := RS × List En) (fun a => [.any, .any, .ref 0 0, .ref 1 0, .ref 2 0, .any, uA P.2, iA N, .ref 3 0, iA (joinE a.2).length, iA a.2.length, .any, .any, .any, .any, .any, .any, .any, .any, .any, .any, .any, .any, .any, .any, .any, .any, .any, .any, .any, .any, .any, .any, .any, .any, .any, .any, .any, .any, .any, .any, .any, .any, .any, .any, .any, .any, .any, .any, .any, .any, .any, .any, .any, .any, .any, .any, .any, .any, .any, .any, .any, .any, .any, .any, .any, .any, .any, .any, .any, .any, .any, .any, .any, .any, .any, .any, .any, .any, .any, .any, .any, .any, .any, .any, .any, .any, .any, .any, .any, .any, .any, .any]) (fun a => [.cells [uA 0, uA 0, .sl .full 1 []], .cells [iA 0, iA 0], .cells [slA .u8 a.1.l, iA a.1.at_, iA a.1.code, iA a.1.fat], .cells [uA E.2, uA P.2, .sl (.row 4) 2 (ens a.2)], .row 2 a.2.length]) (fun a => (entF P.2).On2 C.1 N a ∧ (a.1.code = 0 → (entF P.2).On C.1 N a ∧ C.1.code = 0)) (fun a => N - a.2.length) (C.1, []) ⟨.inl (Fmt.On.start hck.1 N), fun h => ⟨Fmt.On.start hck.1 N, h⟩⟩ ((Wk.rowObj 3 2 2 rfl rfl (.inr rfl) (by decide)).trans (Wk.to (by rfl) (by simp [leT, joinE]))) ?_
  rintro ⟨t, acc⟩ ⟨ho2, hoc⟩
  simp only at ho2 hoc
  have hlen2 : acc.length ≤ p.length + 1 := by
    rcases ho2 with ho | ⟨_, _, _, _, _, hle2⟩
    · have := ho.len; rw [hCl] at this; omega
    · rw [hCl] at hle2; exact hle2
  by_cases hgo : acc.length < N ∧ t.code = 0
  · obtain ⟨hlt, hc0⟩ := hgo
    obtain ⟨ho, hC0⟩ := hoc hc0
    have h1 := ho.ok
    have h2 := ho.l
    have h6 := ho.res
    have hwf := ho.wf
    simp only at h1 h2 h6 hwf
    have hsu := ent_sum hwf
    have hg2 := hgrd hC0
    have q0 : decide ((acc.length : Int) < (N : Int)) = true := decide_eq_true (by omega)
    have qc : (t.code == 0) = true := by simpa using hc0
    have ei := i64_succ acc.length (by omega)
    have wk : IntKind.u64.wrap (acc.length : Int) = acc.length := IntWalk.u64_in _ (by omega)
    have wp : IntKind.u64.wrap (P.2 + (acc.length : Int)) = P.2 + acc.length := IntWalk.u64_in _ (by omega)
    have wl : IntKind.i64.wrap (1048576 - ((joinE acc).length : Int)) = 1048576 - (joinE acc).length := IntWalk.i64_in _ (by omega)
    obtain ⟨pos, hpos⟩ : ∃ pos, P.2 + (acc.length : Int) = pos := ⟨_, rfl⟩
    have hff := entF_f (base := P.2) (s := t) (acc := acc) (by omega)
    rw [hpos] at wp hff
    have htl : t.l.length * 32 ≤ 100000000000000 := by rw [h2, hCl]; omega
    have hlr := ref23_Read t pos (by omega) (by omega) h1 htl
    have hlk := links_keep h1 (pos := pos) (by omega) (by omega)
    have hsm := links_len35 h1 (pos := pos) (by omega) (by omega)
    have hsk := lsing_keep h1 (pos := pos) (by omega) (by omega)
    have hls : t.lsing pos = if (t.links pos).1.code = 0 ∧ singleL (t.links pos).2 = false then (t.links pos).1.fail 3 t.at_ else (t.links pos).1 := rfl
    have hbl2 := blob_len2 hsk.1 (m := 1048576 - (joinE acc).length) (by omega)
    have hbk2 := RS.ok.blob hsk.1 (1048576 - (joinE acc).length)
    have hrd := ref06_Read (t.lsing pos) (1048576 - (joinE acc).length) (by omega) hsk.1
    obtain ⟨F, hFe⟩ : ∃ F, t.links pos = F := ⟨_, rfl⟩
    rw [hFe] at hff hlr hlk hsm hls
    obtain ⟨G, hG⟩ : ∃ G, t.lsing pos = G := ⟨_, rfl⟩
    rw [hG] at hff hsk hls hbl2 hbk2 hrd
    obtain ⟨D, hD⟩ : ∃ D, G.blob (1048576 - (joinE acc).length) = D := ⟨_, rfl⟩
    rw [hD] at hff hbl2 hbk2 hrd
    have hss : (joinE (acc ++ [⟨F.2, D.2⟩])).length = (joinE acc).length + D.2.length := by rw [joinE_snoc, List.length_append]
    have ws : IntKind.i64.wrap (((joinE acc).length : Int) + (D.2.length : Int)) = ((joinE (acc ++ [⟨F.2, D.2⟩])).length : Nat) := by rw [hss, IntWalk.i64_in _ (by omega)]; omega
    have hy : ens acc ++ [AV.agg [slL F.2, slA .u8 D.2]] = ens (acc ++ [⟨F.2, D.2⟩]) := by simp [ens]
    have next : (entF P.2).On2 C.1 N (D.1, acc ++ [⟨F.2, D.2⟩]) ∧ (D.1.code = 0 → (entF P.2).On C.1 N (D.1, acc ++ [⟨F.2, D.2⟩]) ∧ C.1.code = 0) := by
      by_cases hc : D.1.code = 0
      · have := ho.next hF hlt (by rw [hff]; exact hc)
        rw [hff] at this
        exact ⟨.inl this, fun _ => ⟨this, hC0⟩⟩
      · have hb := many_bad (F := entF P.2) (s := t) hlt (by rw [hff]; exact hc)
        rw [h6, hff] at hb
        exact ⟨.inr ⟨hc, hb, hbk2.1, hbk2.2.trans (hsk.2.trans h2), by simp; omega, by simp; have := ho.len; omega⟩, fun h => absurd h hc⟩
    (simp only [go_sem, Nat.reduceAdd, Nat.reduceMul, Int.reduceToNat, Nat.reduceLeDiff, Int.reduceLE, Int.reduceLT, ↓reduceIte, Int.reduceBEq, Int.reduceBNe, Int.reduceAdd, Int.reduceSub, Int.reduceMul, q0, qc, wk, hpos, wp]; try refine okTr_and rfl ?_)
    refine CallK.p (hlr) ?_; (simp only [go_sem, Nat.reduceAdd, Nat.reduceMul, Int.reduceToNat, Nat.reduceLeDiff, Int.reduceLE, Int.reduceLT, ↓reduceIte, Int.reduceBEq, Int.reduceBNe, Int.reduceAdd, Int.reduceSub, Int.reduceMul]; try refine okTr_and rfl ?_)
    by_cases hc : F.1.code = 0
    · have p1 : (F.1.code == 0) = true := by simpa using hc
      (simp only [go_sem, Nat.reduceAdd, Nat.reduceMul, Int.reduceToNat, Nat.reduceLeDiff, Int.reduceLE, Int.reduceLT, ↓reduceIte, Int.reduceBEq, Int.reduceBNe, Int.reduceAdd, Int.reduceSub, Int.reduceMul, p1]; try refine okTr_and rfl ?_)
      refine CallK.p (ref35_single F.2 hsm.1) ?_
      cases hs1 : singleL F.2 with
      | false =>
        rw [if_pos ⟨hc, hs1⟩] at hls
        (simp only [go_sem, Nat.reduceAdd, Nat.reduceMul, Int.reduceToNat, Nat.reduceLeDiff, Int.reduceLE, Int.reduceLT, ↓reduceIte, Int.reduceBEq, Int.reduceBNe, Int.reduceAdd, Int.reduceSub, Int.reduceMul]; try refine okTr_and rfl ?_)
        refine CallK.p (ref02_Fail F.1 3 t.at_) ?_; (simp only [go_sem, Nat.reduceAdd, Nat.reduceMul, Int.reduceToNat, Nat.reduceLeDiff, Int.reduceLE, Int.reduceLT, ↓reduceIte, Int.reduceBEq, Int.reduceBNe, Int.reduceAdd, Int.reduceSub, Int.reduceMul, ← hls, wl]; try refine okTr_and rfl ?_)
        refine CallK.p (hrd) ?_; (simp only [go_sem, Nat.reduceAdd, Nat.reduceMul, Int.reduceToNat, Nat.reduceLeDiff, Int.reduceLE, Int.reduceLT, ↓reduceIte, Int.reduceBEq, Int.reduceBNe, Int.reduceAdd, Int.reduceSub, Int.reduceMul, ints_length, ws, hy, ens_length, ei]; try refine okTr_and rfl ?_)
        (repeat ((with_reducible refine And.intro ?_ ?_); (· exact sd)))
        exact ⟨(D.1, acc ++ [⟨F.2, D.2⟩]), next, by simp; omega, Wk.sel [0, 1, 2, 3, 4] (by simp) rfl (by simp) rfl (by simp [ixs_z, ixs]) (by simp [selT, ixs_z, ixs])⟩
      | true =>
        rw [if_neg (by rw [hs1]; rintro ⟨_, h⟩; cases h)] at hls
        rw [hls] at hrd
        (simp only [go_sem, Nat.reduceAdd, Nat.reduceMul, Int.reduceToNat, Nat.reduceLeDiff, Int.reduceLE, Int.reduceLT, ↓reduceIte, Int.reduceBEq, Int.reduceBNe, Int.reduceAdd, Int.reduceSub, Int.reduceMul, wl]; try refine okTr_and rfl ?_)
        refine CallK.p (hrd) ?_; (simp only [go_sem, Nat.reduceAdd, Nat.reduceMul, Int.reduceToNat, Nat.reduceLeDiff, Int.reduceLE, Int.reduceLT, ↓reduceIte, Int.reduceBEq, Int.reduceBNe, Int.reduceAdd, Int.reduceSub, Int.reduceMul, ints_length, ws, hy, ens_length, ei]; try refine okTr_and rfl ?_)
        (repeat ((with_reducible refine And.intro ?_ ?_); (· exact sd)))
        exact ⟨(D.1, acc ++ [⟨F.2, D.2⟩]), next, by simp; omega, Wk.sel [0, 1, 2, 3, 4] (by simp) rfl (by simp) rfl (by simp [ixs_z, ixs]) (by simp [selT, ixs_z, ixs])⟩
    · have p1 : (F.1.code == 0) = false := by simpa using hc
      rw [if_neg (fun h => hc h.1)] at hls
      rw [hls] at hrd
      (simp only [go_sem, Nat.reduceAdd, Nat.reduceMul, Int.reduceToNat, Nat.reduceLeDiff, Int.reduceLE, Int.reduceLT, ↓reduceIte, Int.reduceBEq, Int.reduceBNe, Int.reduceAdd, Int.reduceSub, Int.reduceMul, p1, wl]; try refine okTr_and rfl ?_)
      refine CallK.p (hrd) ?_; (simp only [go_sem, Nat.reduceAdd, Nat.reduceMul, Int.reduceToNat, Nat.reduceLeDiff, Int.reduceLE, Int.reduceLT, ↓reduceIte, Int.reduceBEq, Int.reduceBNe, Int.reduceAdd, Int.reduceSub, Int.reduceMul, ints_length, ws, hy, ens_length, ei]; try refine okTr_and rfl ?_)
      (repeat ((with_reducible refine And.intro ?_ ?_); (· exact sd)))
      exact ⟨(D.1, acc ++ [⟨F.2, D.2⟩]), next, by simp; omega, Wk.sel [0, 1, 2, 3, 4] (by simp) rfl (by simp) rfl (by simp [ixs_z, ixs]) (by simp [selT, ixs_z, ixs])⟩
  · have hOt : t = O.1 ∧ (t.code = 0 → acc = O.2) := by
      rcases ho2 with ho | ⟨hc, hm, _⟩
      · by_cases hc : t.code = 0
        · have h6 := ho.res
          have hle := ho.le
          simp only at h6 hle
          have he := many_end (F := entF P.2) (s := t) (acc := acc) (N := N) (by omega)
          rw [h6, ← hem] at he
          rw [he]; exact ⟨rfl, fun _ => rfl⟩
        · refine ⟨?_, fun h => absurd h hc⟩
          have h6 := ho.res
          have hle := ho.le
          simp only at h6 hle
          rcases Nat.lt_or_ge acc.length N with hl | hl
          · have hb := many_bad (F := entF P.2) (s := t) hl (by rw [entF_code P.2 t acc hc]; exact hc)
            rw [h6, ← hem, entF_code P.2 t acc hc] at hb
            rw [hb]
          · have he := many_end (F := entF P.2) (s := t) (acc := acc) (N := N) hl
            rw [h6, ← hem] at he
            rw [he]
      · rw [← hem] at hm
        rw [hm]; exact ⟨rfl, fun h => absurd h hc⟩
    obtain ⟨hOt1, hOt2⟩ := hOt
    subst hOt1
    have hgoF : decide ((acc.length : Int) < (N : Int)) = true → (O.1.code == 0) = false := fun h => by
      have := of_decide_eq_true h
      have hc0 : ¬ O.1.code = 0 := fun h => hgo ⟨by omega, h⟩
      simpa using hc0
    have hres : ∀ (R : AV → Prop), (O.1.rest9.code = 0 → R (btA ⟨E.2, P.2, O.2⟩)) → (¬ O.1.rest9.code = 0 → R (.agg [uA E.2, uA P.2, .any])) → R (if O.1.rest9.code = 0 then btA ⟨E.2, P.2, O.2⟩ else .agg [uA E.2, uA P.2, .any]) := fun R h1 h2 => by
      split
      · exact h1 (by assumption)
      · exact h2 (by assumption)
    cases q0 : decide ((acc.length : Int) < (N : Int)) with
    | true =>
      have qc := hgoF q0
      (simp only [go_sem, Nat.reduceAdd, Nat.reduceMul, Int.reduceToNat, Nat.reduceLeDiff, Int.reduceLE, Int.reduceLT, ↓reduceIte, Int.reduceBEq, Int.reduceBNe, Int.reduceAdd, Int.reduceSub, Int.reduceMul, q0, qc]; try refine okTr_and rfl ?_)
      refine CallK.p (ref02_End O.1) ?_; (simp only [go_sem, Nat.reduceAdd, Nat.reduceMul, Int.reduceToNat, Nat.reduceLeDiff, Int.reduceLE, Int.reduceLT, ↓reduceIte, Int.reduceBEq, Int.reduceBNe, Int.reduceAdd, Int.reduceSub, Int.reduceMul]; try refine okTr_and rfl ?_)
      by_cases hz : O.1.rest9.code = 0
      · have hac := hOt2 (rest9_code hz).1
        rw [if_pos hz, ← hac]
        (refine FinK.unobj 0 rfl ?_; simp only [List.set_cons_zero, List.set_cons_succ, List.map_cons, List.map_nil, untag1_lit, untag1_sl])
        exact FinK.finA r62 []
      · rw [if_neg hz]
        refine FinK.wao (ys := [uA E.2, uA P.2, .any]) 0 rfl (WaL.cons (Wa.refl _) (WaL.cons (Wa.refl _) (WaL.cons (Wa.anyS _ _ _) WaL.nil))) ?_
        simp only [List.set_cons_zero, List.set_cons_succ]
        exact FinK.finA r62 []
    | false =>
      (simp only [go_sem, Nat.reduceAdd, Nat.reduceMul, Int.reduceToNat, Nat.reduceLeDiff, Int.reduceLE, Int.reduceLT, ↓reduceIte, Int.reduceBEq, Int.reduceBNe, Int.reduceAdd, Int.reduceSub, Int.reduceMul, q0]; try refine okTr_and rfl ?_)
      refine CallK.p (ref02_End O.1) ?_; (simp only [go_sem, Nat.reduceAdd, Nat.reduceMul, Int.reduceToNat, Nat.reduceLeDiff, Int.reduceLE, Int.reduceLT, ↓reduceIte, Int.reduceBEq, Int.reduceBNe, Int.reduceAdd, Int.reduceSub, Int.reduceMul]; try refine okTr_and rfl ?_)
      by_cases hz : O.1.rest9.code = 0
      · have hac := hOt2 (rest9_code hz).1
        rw [if_pos hz, ← hac]
        (refine FinK.unobj 0 rfl ?_; simp only [List.set_cons_zero, List.set_cons_succ, List.map_cons, List.map_nil, untag1_lit, untag1_sl])
        exact FinK.finA r62 []
      · rw [if_neg hz]
        refine FinK.wao (ys := [uA E.2, uA P.2, .any]) 0 rfl (WaL.cons (Wa.refl _) (WaL.cons (Wa.refl _) (WaL.cons (Wa.anyS _ _ _) WaL.nil))) ?_
        simp only [List.set_cons_zero, List.set_cons_succ]
        exact FinK.finA r62 []
theorem unpR_ren (s : RS) (ρ : Nat → Nat) : (unpR s).ren ρ = unpR s := by
  unfold unpR; split <;> simp [ixs_z]
theorem ref35_unplain (p : List Int) (hp : Bys p) (hn : p.length ≤ 1000000) : Ct Tryz.prog 62 [slA .u8 p] [] (fun _ => .tup [unpR (RS.new p), fltA ((RS.new p).unpl.1.code, (RS.new p).unpl.1.fat)]) [] (fun _ => []) :=
  (ref35_unplain0 p hp hn).toCt cl (by intros; simp [ixs_z, unpR_ren])
structure S2 where
  t : RS
  xs : List AV
  i : Nat
structure S2.ok (ep : Int) (u : RS) (N : Nat) (s : S2) : Prop where
  i : s.i ≤ N
  x : s.xs.length ≤ N
  st : (∃ acc, s.xs = bts acc ∧ acc.length = s.i ∧ (batF ep).On u N (s.t, acc)) ∨ (¬ s.t.code = 0 ∧ (batF ep).many N u [] = (s.t, []))
  k : 3 ≤ 3
  okx : ∀ ρ : Nat → Nat, s.xs.map (fun x => x.ren ρ) = s.xs
set_option maxHeartbeats 4000000 in
set_option maxRecDepth 100000 in
theorem ref35_Decode20 (b : List Int) (hb : Bys b) (hn : b.length ≤ 1000000) : Does Tryz.prog 11 [slA .u8 b] [] (.tup [sg2A (dec2 b).1, fltA (dec2 b).2]) [] := by
  have hok : ROk (RS.new b) := ROk.new hb (by omega)
  have hbk := begin_keep hok 2
  have hir := int_range (s := (RS.new b).begin 2) (m := 32) hbk.1.bys
  have hik := hbk.1.int 32
  have hbl : (RS.new b).l = b := rfl
  have hck := counted_keep (batF_ok (RS.new b).header.2.ep) hbk.1 32
  have hdef : dec2 b = got2 (RS.new b).dec2.1 (RS.new b).dec2.2 := rfl
  have hd1 : (RS.new b).dec2 = ((((RS.new b).begin 2).bats (RS.new b).header.2.ep).1.rest9, ⟨(RS.new b).header.2.ep, (((RS.new b).begin 2).bats (RS.new b).header.2.ep).2⟩) := rfl
  rw [hdef, hd1]
  have hom : ((RS.new b).begin 2).bats (RS.new b).header.2.ep = (batF (RS.new b).header.2.ep).many (((RS.new b).begin 2).int 32).2.toNat (((RS.new b).begin 2).int 32).1 [] := rfl
  have hck1 : ROk (((RS.new b).begin 2).bats (RS.new b).header.2.ep).1 := hck.1
  have hbg := ref35_begin b 2 hb hn
  obtain ⟨H, hH⟩ : ∃ H, (RS.new b).header.2 = H := ⟨_, rfl⟩
  rw [hH] at hck1 hom hbg ⊢
  obtain ⟨B, hB⟩ : ∃ B, (RS.new b).begin 2 = B := ⟨_, rfl⟩
  rw [hB] at hbk hir hik hck1 hom hbg ⊢
  have hin := ref04_Int B 32 (by decide) hbk.1
  obtain ⟨C, hC⟩ : ∃ C, B.int 32 = C := ⟨_, rfl⟩
  rw [hC] at hir hik hom hin
  obtain ⟨N, hN⟩ : ∃ N, C.2.toNat = N := ⟨_, rfl⟩
  have hCN : C.2 = (N : Int) := by omega
  have hN4 : N ≤ 32 := by omega
  rw [hN] at hom
  rw [hCN] at hin
  have hCl : C.1.l = b := hik.2.trans (hbk.2.trans hbl)
  have hF := batF_ok H.ep
  obtain ⟨O, hO⟩ : ∃ O, B.bats H.ep = O := ⟨_, rfl⟩
  rw [hO] at hck1 hom ⊢
  refine Does.runA Tryz.func11 b11 n11 Tryz.ntmps11 ?_; simp only [c11, go_sem, Nat.reduceAdd, Nat.reduceMul, Int.reduceToNat, Nat.reduceLeDiff, Int.reduceLE, Int.reduceLT, ↓reduceIte, Int.reduceBEq, Int.reduceBNe, Int.reduceAdd, Int.reduceSub, Int.reduceMul]; try refine okTr_and rfl ?_
  refine CallK.p (hbg) ?_; (simp only [go_sem, Nat.reduceAdd, Nat.reduceMul, Int.reduceToNat, Nat.reduceLeDiff, Int.reduceLE, Int.reduceLT, ↓reduceIte, Int.reduceBEq, Int.reduceBNe, Int.reduceAdd, Int.reduceSub, Int.reduceMul]; try refine okTr_and rfl ?_)
  refine CallK.p (hin) ?_; (simp only [go_sem, Nat.reduceAdd, Nat.reduceMul, Int.reduceToNat, Nat.reduceLeDiff, Int.reduceLE, Int.reduceLT, ↓reduceIte, Int.reduceBEq, Int.reduceBNe, Int.reduceAdd, Int.reduceSub, Int.reduceMul]; try refine okTr_and rfl ?_)
  refine loop_of (α := S2) (fun a => [.any, .any, .ref 0 0, .ref 1 0, .ref 2 0, .ref 3 0, iA N, .ref 4 0, iA a.i, .any, .any, .any, .any, .any, .any, .any, .any, .any, .any, .any, .any, .any, .any, .any, .any, .any, .any, .any, .any, .any, .any, .any, .any, .any, .any, .any, .any, .any, .any, .any, .any, .any, .any, .any, .any, .any, .any, .any, .any, .any, .any, .any, .any, .any, .any, .any, .any, .any, .any, .any, .any, .any, .any, .any, .any, .any, .any, .any, .any, .any, .any, .any, .any, .any, .any, .any, .any, .any, .any, .any, .any, .any, .any, .any, .any, .any, .any, .any, .any, .any, .any, .any, .any, .any, .any, .any, .any, .any, .any, .any, .any, .any, .any]) (fun a => [.cells [uA 0, .sl .full 1 []], .cells [iA 0, iA 0], .cells [slA .u8 a.t.l, iA a.t.at_, iA a.t.code, iA a.t.fat], hdO H, .cells [uA H.ep, .sl (.row 5) 3 a.xs], .row 3 a.xs.length]) (S2.ok H.ep C.1 N) (fun a => N - a.i) ⟨C.1, [], 0⟩ ⟨by simp, by simp, .inl ⟨[], rfl, rfl, Fmt.On.start hik.1 N⟩, by simp, by simp⟩ ((Wk.rowObj 4 1 3 rfl rfl (.inr rfl) (by decide)).trans (Wk.to (by rfl) (by simp [leT]))) ?_
  rintro ⟨t, xs, i⟩ ⟨hi, hxl, hst, _, hren⟩
  simp only at hi hxl hst hren
  by_cases hgo : i < N ∧ t.code = 0
  · obtain ⟨hlt, hc0⟩ := hgo
    obtain ⟨acc, hxs, hai, ho⟩ : ∃ acc, xs = bts acc ∧ acc.length = i ∧ (batF H.ep).On C.1 N (t, acc) := by
      rcases hst with h | ⟨h, _⟩
      · exact h
      · exact absurd hc0 h
    subst hxs hai
    have h1 := ho.ok
    have h2 := ho.l
    have h6 := ho.res
    have hwf := ho.wf
    simp only at h1 h2 h6 hwf
    have hends := ends_wf hwf
    have hlt' : acc.length < N := hlt
    have q0 : decide ((acc.length : Int) < (N : Int)) = true := decide_eq_true (by omega)
    have qc : (t.code == 0) = true := by simpa using hc0
    have ei := i64_succ acc.length (by omega)
    have htb : t.l = b := h2.trans hCl
    have hff : (batF H.ep).f t acc = t.bat H.ep acc := rfl
    have hfk := frame_keep h1 2097152
    have hfl := frame_blen h1 2097152
    have hfb := frame_bys h1 2097152
    have hfr := ref08_Read t 2097152 h1 (by decide)
    have hb2 : t.bat H.ep acc = if (t.frame 2097152).1.code = 0 then
      (if (RS.new (t.frame 2097152).2).unpl.1.code = 0 then
        (if mayB H.ep acc (RS.new (t.frame 2097152).2).unpl.2 = true then ((t.frame 2097152).1, (RS.new (t.frame 2097152).2).unpl.2) else ((t.frame 2097152).1.fail 13 t.at_, (RS.new (t.frame 2097152).2).unpl.2))
      else ((t.frame 2097152).1.fail (RS.new (t.frame 2097152).2).unpl.1.code ((t.frame 2097152).1.at_ - 4 - (t.frame 2097152).2.length + (RS.new (t.frame 2097152).2).unpl.1.fat), (RS.new (t.frame 2097152).2).unpl.2))
    else ((t.frame 2097152).1, bt0) := rfl
    obtain ⟨D, hD⟩ : ∃ D, t.frame 2097152 = D := ⟨_, rfl⟩
    rw [hD] at hfk hfl hfb hfr hb2
    have hq0 : ROk (RS.new D.2) := ROk.new hfb (by rw [htb] at hfl; omega)
    have hup := ref35_unplain D.2 hfb (by rw [htb] at hfl; omega)
    have hfa := (Fa.new D.2).unpl hq0
    have huk := unpl_keep hq0
    have hR : unpR (RS.new D.2) = if (RS.new D.2).unpl.1.code = 0 then btA (RS.new D.2).unpl.2 else .agg [uA (RS.new D.2).unpl.2.ep, uA (RS.new D.2).unpl.2.base, .any] := rfl
    obtain ⟨U, hU⟩ : ∃ U, (RS.new D.2).unpl = U := ⟨_, rfl⟩
    rw [hU] at hup hfa huk hb2 hR
    have hul : U.1.l = D.2 := huk.2
    obtain ⟨fa0, fa1⟩ := hfa
    rw [hul] at fa1
    have hat0 := hfk.1.at0
    have hat1 := hfk.1.at1
    rw [hfk.2, htb] at hat1
    rw [htb] at hfl
    have w1 : IntKind.i64.wrap (D.1.at_ - 4) = D.1.at_ - 4 := IntWalk.i64_in _ (by omega)
    have w2 : IntKind.i64.wrap (D.1.at_ - 4 - (D.2.length : Int)) = D.1.at_ - 4 - D.2.length := IntWalk.i64_in _ (by omega)
    have w3 : IntKind.i64.wrap (D.1.at_ - 4 - (D.2.length : Int) + U.1.fat) = D.1.at_ - 4 - D.2.length + U.1.fat := IntWalk.i64_in _ (by omega)
    have hmany : ¬ (t.bat H.ep acc).1.code = 0 → (batF H.ep).many N C.1 [] = ((t.bat H.ep acc).1, []) := fun hc => by
      have := many_bad (F := batF H.ep) (s := t) hlt' (by rw [hff]; exact hc)
      rw [h6, hff] at this; exact this
    by_cases hc : D.1.code = 0
    · have p1 : (D.1.code == 0) = true := by simpa using hc
      rw [if_pos hc] at hb2
      by_cases hz : U.1.code = 0
      · have p2 : (U.1.code != 0) = false := by simpa using hz
        rw [if_pos hz] at hb2 hR
        have hmy := ref34_May H.ep acc acc.length U.2 (Nat.le_refl _) (by omega) (by rw [List.take_length]; exact hends)
        rw [List.take_length] at hmy
        rw [hR] at hup
        (simp only [go_sem, Nat.reduceAdd, Nat.reduceMul, Int.reduceToNat, Nat.reduceLeDiff, Int.reduceLE, Int.reduceLT, ↓reduceIte, Int.reduceBEq, Int.reduceBNe, Int.reduceAdd, Int.reduceSub, Int.reduceMul, q0, qc]; try refine okTr_and rfl ?_)
        refine CallK.p (hfr) ?_; (simp only [go_sem, Nat.reduceAdd, Nat.reduceMul, Int.reduceToNat, Nat.reduceLeDiff, Int.reduceLE, Int.reduceLT, ↓reduceIte, Int.reduceBEq, Int.reduceBNe, Int.reduceAdd, Int.reduceSub, Int.reduceMul, p1]; try refine okTr_and rfl ?_)
        refine CallK.p (hup) ?_; (simp only [go_sem, Nat.reduceAdd, Nat.reduceMul, Int.reduceToNat, Nat.reduceLeDiff, Int.reduceLE, Int.reduceLT, ↓reduceIte, Int.reduceBEq, Int.reduceBNe, Int.reduceAdd, Int.reduceSub, Int.reduceMul, p2]; try refine okTr_and rfl ?_)
        refine CallK.p (hmy) ?_
        cases hm : mayB H.ep acc U.2 with
        | true =>
          rw [if_pos hm] at hb2
          have hnx := ho.next hF hlt' (by rw [hff, hb2]; exact hc)
          rw [hff, hb2] at hnx
          (simp only [go_sem, Nat.reduceAdd, Nat.reduceMul, Int.reduceToNat, Nat.reduceLeDiff, Int.reduceLE, Int.reduceLT, ↓reduceIte, Int.reduceBEq, Int.reduceBNe, Int.reduceAdd, Int.reduceSub, Int.reduceMul, bts_snoc, bts_length, ei]; try refine okTr_and rfl ?_)
          (repeat ((with_reducible refine And.intro ?_ ?_); (· exact sd)))
          exact ⟨⟨D.1, bts (acc ++ [U.2]), acc.length + 1⟩, ⟨by simp only; omega, by simp only [bts_length, List.length_append]; simp; omega, .inl ⟨acc ++ [U.2], rfl, by simp, hnx⟩, by simp, fun ρ => ren_bts ρ _⟩, by simp only; omega, Wk.sel [0, 1, 2, 3, 4, 5] (by simp) rfl (by simp) rfl (by simp [ixs_z, ixs, bts_length]) (by simp [selT, ixs_z, ixs])⟩
        | false =>
          rw [if_neg (by rw [hm]; decide)] at hb2
          have hmb := hmany (by rw [hb2]; exact fail_badc _ (by decide))
          rw [hb2] at hmb
          (simp only [go_sem, Nat.reduceAdd, Nat.reduceMul, Int.reduceToNat, Nat.reduceLeDiff, Int.reduceLE, Int.reduceLT, ↓reduceIte, Int.reduceBEq, Int.reduceBNe, Int.reduceAdd, Int.reduceSub, Int.reduceMul]; try refine okTr_and rfl ?_)
          refine CallK.p (ref02_Fail D.1 13 t.at_) ?_; (simp only [go_sem, Nat.reduceAdd, Nat.reduceMul, Int.reduceToNat, Nat.reduceLeDiff, Int.reduceLE, Int.reduceLT, ↓reduceIte, Int.reduceBEq, Int.reduceBNe, Int.reduceAdd, Int.reduceSub, Int.reduceMul, bts_snoc, bts_length, ei]; try refine okTr_and rfl ?_)
          (repeat ((with_reducible refine And.intro ?_ ?_); (· exact sd)))
          exact ⟨⟨D.1.fail 13 t.at_, bts (acc ++ [U.2]), acc.length + 1⟩, ⟨by simp only; omega, by simp only [bts_length, List.length_append]; simp; omega, .inr ⟨fail_badc _ (by decide), hmb⟩, by simp, fun ρ => ren_bts ρ _⟩, by simp only; omega, Wk.sel [0, 1, 2, 3, 4, 5] (by simp) rfl (by simp) rfl (by simp [ixs_z, ixs, bts_length]) (by simp [selT, ixs_z, ixs])⟩
      · have p2 : (U.1.code != 0) = true := by simpa using hz
        rw [if_neg hz] at hb2 hR
        rw [hR] at hup
        have hmb := hmany (by rw [hb2]; exact fail_badc _ hz)
        rw [hb2] at hmb
        (simp only [go_sem, Nat.reduceAdd, Nat.reduceMul, Int.reduceToNat, Nat.reduceLeDiff, Int.reduceLE, Int.reduceLT, ↓reduceIte, Int.reduceBEq, Int.reduceBNe, Int.reduceAdd, Int.reduceSub, Int.reduceMul, q0, qc]; try refine okTr_and rfl ?_)
        refine CallK.p (hfr) ?_; (simp only [go_sem, Nat.reduceAdd, Nat.reduceMul, Int.reduceToNat, Nat.reduceLeDiff, Int.reduceLE, Int.reduceLT, ↓reduceIte, Int.reduceBEq, Int.reduceBNe, Int.reduceAdd, Int.reduceSub, Int.reduceMul, p1]; try refine okTr_and rfl ?_)
        refine CallK.p (hup) ?_; (simp only [go_sem, Nat.reduceAdd, Nat.reduceMul, Int.reduceToNat, Nat.reduceLeDiff, Int.reduceLE, Int.reduceLT, ↓reduceIte, Int.reduceBEq, Int.reduceBNe, Int.reduceAdd, Int.reduceSub, Int.reduceMul, p2, ints_length, w1, w2, w3]; try refine okTr_and rfl ?_)
        refine CallK.p (ref02_Fail D.1 U.1.code (D.1.at_ - 4 - D.2.length + U.1.fat)) ?_; (simp only [go_sem, Nat.reduceAdd, Nat.reduceMul, Int.reduceToNat, Nat.reduceLeDiff, Int.reduceLE, Int.reduceLT, ↓reduceIte, Int.reduceBEq, Int.reduceBNe, Int.reduceAdd, Int.reduceSub, Int.reduceMul, bts_length, ei]; try refine okTr_and rfl ?_)
        (repeat ((with_reducible refine And.intro ?_ ?_); (· exact sd)))
        exact ⟨⟨D.1.fail U.1.code (D.1.at_ - 4 - D.2.length + U.1.fat), bts acc ++ [.agg [uA U.2.ep, uA U.2.base, .any]], acc.length + 1⟩, ⟨by simp only; omega, by simp only [List.length_append, bts_length]; simp; omega, .inr ⟨fail_badc _ hz, hmb⟩, by simp, fun ρ => by rw [List.map_append, ren_bts]; simp [ixs_z]⟩, by simp only; omega, Wk.sel [0, 1, 2, 3, 4, 5] (by simp) rfl (by simp) rfl (by simp [ixs_z, ixs, bts_length]) (by simp [selT, ixs_z, ixs])⟩
    · have p1 : (D.1.code == 0) = false := by simpa using hc
      rw [if_neg hc] at hb2
      have hmb := hmany (by rw [hb2]; exact hc)
      rw [hb2] at hmb
      (simp only [go_sem, Nat.reduceAdd, Nat.reduceMul, Int.reduceToNat, Nat.reduceLeDiff, Int.reduceLE, Int.reduceLT, ↓reduceIte, Int.reduceBEq, Int.reduceBNe, Int.reduceAdd, Int.reduceSub, Int.reduceMul, q0, qc]; try refine okTr_and rfl ?_)
      refine CallK.p (hfr) ?_; (simp only [go_sem, Nat.reduceAdd, Nat.reduceMul, Int.reduceToNat, Nat.reduceLeDiff, Int.reduceLE, Int.reduceLT, ↓reduceIte, Int.reduceBEq, Int.reduceBNe, Int.reduceAdd, Int.reduceSub, Int.reduceMul, p1, ei]; try refine okTr_and rfl ?_)
      exact ⟨⟨D.1, bts acc, acc.length + 1⟩, ⟨by simp only; omega, by simp only [bts_length]; omega, .inr ⟨hc, hmb⟩, by simp, fun ρ => ren_bts ρ _⟩, by simp only; omega, Wk.sel [0, 1, 2, 3, 4, 5] (by simp) rfl (by simp) rfl (by simp [ixs_z, ixs, bts_length]) (by simp [selT, ixs_z, ixs])⟩
  · have hOt : t = O.1 ∧ (t.code = 0 → xs = bts O.2) := by
      rcases hst with ⟨acc, hxs, hai, ho⟩ | ⟨hc, hm⟩
      · have h6 := ho.res
        have hle := ho.le
        simp only at h6 hle
        by_cases hc : t.code = 0
        · have he := many_end (F := batF H.ep) (s := t) (acc := acc) (N := N) (by omega)
          rw [h6, ← hom] at he
          rw [he]; exact ⟨rfl, fun _ => hxs⟩
        · refine ⟨?_, fun h => absurd h hc⟩
          rcases Nat.lt_or_ge acc.length N with hl | hl
          · have hb := many_bad (F := batF H.ep) (s := t) hl (by rw [bat_code H.ep t acc hc]; exact hc)
            rw [h6, ← hom, bat_code H.ep t acc hc] at hb
            rw [hb]
          · have he := many_end (F := batF H.ep) (s := t) (acc := acc) (N := N) hl
            rw [h6, ← hom] at he
            rw [he]
      · rw [← hom] at hm
        rw [hm]; exact ⟨rfl, fun h => absurd h hc⟩
    obtain ⟨hOt1, hOt2⟩ := hOt
    subst hOt1
    cases q0 : decide ((i : Int) < (N : Int)) with
    | true =>
      have hc0 : ¬ O.1.code = 0 := fun h => hgo ⟨by have := of_decide_eq_true q0; omega, h⟩
      have qc : (O.1.code == 0) = false := by simpa using hc0
      (simp only [go_sem, Nat.reduceAdd, Nat.reduceMul, Int.reduceToNat, Nat.reduceLeDiff, Int.reduceLE, Int.reduceLT, ↓reduceIte, Int.reduceBEq, Int.reduceBNe, Int.reduceAdd, Int.reduceSub, Int.reduceMul, q0, qc]; try refine okTr_and rfl ?_)
      refine CallK.p (ref02_End O.1) ?_; (simp only [go_sem, Nat.reduceAdd, Nat.reduceMul, Int.reduceToNat, Nat.reduceLeDiff, Int.reduceLE, Int.reduceLT, ↓reduceIte, Int.reduceBEq, Int.reduceBNe, Int.reduceAdd, Int.reduceSub, Int.reduceMul]; try refine okTr_and rfl ?_)
      by_cases hz : O.1.rest9.code = 0
      · have z1 : (O.1.rest9.code != 0) = false := by simpa using hz
        have eg : got2 O.1.rest9 ⟨H.ep, O.2⟩ = (⟨H.ep, O.2⟩, (0, 0)) := by unfold got2; rw [if_pos hz]
        have hac := hOt2 (rest9_code hz).1
        rw [eg]
        (simp only [go_sem, Nat.reduceAdd, Nat.reduceMul, Int.reduceToNat, Nat.reduceLeDiff, Int.reduceLE, Int.reduceLT, ↓reduceIte, Int.reduceBEq, Int.reduceBNe, Int.reduceAdd, Int.reduceSub, Int.reduceMul, z1]; try refine okTr_and rfl ?_)
        (refine FinK.unobj 0 rfl ?_; simp only [List.set_cons_zero, List.set_cons_succ, List.map_cons, List.map_nil, untag1_lit, untag1_sl])
        ((refine FinK.finB r11 [] ?_ ?_); (· first | with_reducible rfl | (simp [hac]; done) | rfl); (· simp [resAL, resA1, loadA, oneOr, hac]))
      · have z1 : (O.1.rest9.code != 0) = true := by simpa using hz
        have eg : got2 O.1.rest9 ⟨H.ep, O.2⟩ = (sg20, (O.1.rest9.code, O.1.rest9.fat)) := by unfold got2; rw [if_neg hz]
        have ef : flt O.1.rest9.code O.1.rest9.fat = (O.1.rest9.code, O.1.rest9.fat) := by unfold flt; rw [if_neg hz]
        have hat := ref01_At O.1.rest9.code O.1.rest9.fat
        rw [ef] at hat
        rw [eg]
        (simp only [go_sem, Nat.reduceAdd, Nat.reduceMul, Int.reduceToNat, Nat.reduceLeDiff, Int.reduceLE, Int.reduceLT, ↓reduceIte, Int.reduceBEq, Int.reduceBNe, Int.reduceAdd, Int.reduceSub, Int.reduceMul, z1]; try refine okTr_and rfl ?_)
        refine CallK.p (hat) ?_; (simp only [go_sem, Nat.reduceAdd, Nat.reduceMul, Int.reduceToNat, Nat.reduceLeDiff, Int.reduceLE, Int.reduceLT, ↓reduceIte, Int.reduceBEq, Int.reduceBNe, Int.reduceAdd, Int.reduceSub, Int.reduceMul]; try refine okTr_and rfl ?_)
        (refine FinK.wao (ys := [uA 0, slB []]) 0 rfl (by repeat (first | exact Wa.refl _ | exact WaL.nil | exact Wa.nil | exact Wa.none | refine WaL.cons ?_ ?_ | refine Wa.agg ?_ | refine Wa.slN ?_ | refine Wa.slS ?_ | exact WaL.refl _)) ?_; simp only [List.set_cons_zero, List.set_cons_succ])
        ((refine FinK.finB r11 [] ?_ ?_); (· first | with_reducible rfl | (simp [sg20, bts_nil]; done) | rfl); (· simp [resAL, resA1, loadA, oneOr, sg20, bts_nil]))
    | false =>
      (simp only [go_sem, Nat.reduceAdd, Nat.reduceMul, Int.reduceToNat, Nat.reduceLeDiff, Int.reduceLE, Int.reduceLT, ↓reduceIte, Int.reduceBEq, Int.reduceBNe, Int.reduceAdd, Int.reduceSub, Int.reduceMul, q0]; try refine okTr_and rfl ?_)
      refine CallK.p (ref02_End O.1) ?_; (simp only [go_sem, Nat.reduceAdd, Nat.reduceMul, Int.reduceToNat, Nat.reduceLeDiff, Int.reduceLE, Int.reduceLT, ↓reduceIte, Int.reduceBEq, Int.reduceBNe, Int.reduceAdd, Int.reduceSub, Int.reduceMul]; try refine okTr_and rfl ?_)
      by_cases hz : O.1.rest9.code = 0
      · have z1 : (O.1.rest9.code != 0) = false := by simpa using hz
        have eg : got2 O.1.rest9 ⟨H.ep, O.2⟩ = (⟨H.ep, O.2⟩, (0, 0)) := by unfold got2; rw [if_pos hz]
        have hac := hOt2 (rest9_code hz).1
        rw [eg]
        (simp only [go_sem, Nat.reduceAdd, Nat.reduceMul, Int.reduceToNat, Nat.reduceLeDiff, Int.reduceLE, Int.reduceLT, ↓reduceIte, Int.reduceBEq, Int.reduceBNe, Int.reduceAdd, Int.reduceSub, Int.reduceMul, z1]; try refine okTr_and rfl ?_)
        (refine FinK.unobj 0 rfl ?_; simp only [List.set_cons_zero, List.set_cons_succ, List.map_cons, List.map_nil, untag1_lit, untag1_sl])
        ((refine FinK.finB r11 [] ?_ ?_); (· first | with_reducible rfl | (simp [hac]; done) | rfl); (· simp [resAL, resA1, loadA, oneOr, hac]))
      · have z1 : (O.1.rest9.code != 0) = true := by simpa using hz
        have eg : got2 O.1.rest9 ⟨H.ep, O.2⟩ = (sg20, (O.1.rest9.code, O.1.rest9.fat)) := by unfold got2; rw [if_neg hz]
        have ef : flt O.1.rest9.code O.1.rest9.fat = (O.1.rest9.code, O.1.rest9.fat) := by unfold flt; rw [if_neg hz]
        have hat := ref01_At O.1.rest9.code O.1.rest9.fat
        rw [ef] at hat
        rw [eg]
        (simp only [go_sem, Nat.reduceAdd, Nat.reduceMul, Int.reduceToNat, Nat.reduceLeDiff, Int.reduceLE, Int.reduceLT, ↓reduceIte, Int.reduceBEq, Int.reduceBNe, Int.reduceAdd, Int.reduceSub, Int.reduceMul, z1]; try refine okTr_and rfl ?_)
        refine CallK.p (hat) ?_; (simp only [go_sem, Nat.reduceAdd, Nat.reduceMul, Int.reduceToNat, Nat.reduceLeDiff, Int.reduceLE, Int.reduceLT, ↓reduceIte, Int.reduceBEq, Int.reduceBNe, Int.reduceAdd, Int.reduceSub, Int.reduceMul]; try refine okTr_and rfl ?_)
        (refine FinK.wao (ys := [uA 0, slB []]) 0 rfl (by repeat (first | exact Wa.refl _ | exact WaL.nil | exact Wa.nil | exact Wa.none | refine WaL.cons ?_ ?_ | refine Wa.agg ?_ | refine Wa.slN ?_ | refine Wa.slS ?_ | exact WaL.refl _)) ?_; simp only [List.set_cons_zero, List.set_cons_succ])
        ((refine FinK.finB r11 [] ?_ ?_); (· first | with_reducible rfl | (simp [sg20, bts_nil]; done) | rfl); (· simp [resAL, resA1, loadA, oneOr, sg20, bts_nil]))
theorem ref35_Decode2 (b : List Int) (hb : Bys b) (hn : b.length ≤ 1000000) : Ct Tryz.prog 11 [slA .u8 b] [] (fun _ => .tup [sg2A (dec2 b).1, fltA (dec2 b).2]) [] (fun _ => []) := (ref35_Decode20 b hb hn).toCt cl cl
end Go.Proofs.YtnfagphepkeedaaGreat
end
section
namespace Go.Proofs.YtnfagphepkeedaaGreat
open Go.RowKit

end Go.Proofs.YtnfagphepkeedaaGreat
end
section
namespace Go.Proofs.YtnfagphepkeedaaGreat
open Go.RowKit

theorem dec1_cases {b : List Int} (hb : Bys b) (hn : b.length ≤ 1000000) : (dec1 b = (sg10, ((RS.new b).dec1.1.code, (RS.new b).dec1.1.fat)) ∧ ¬ (RS.new b).dec1.1.code = 0) ∨ (∃ u, dec1 b = (u, (0, 0)) ∧ O1s u.en ∧ 0 ≤ u.base ∧ right1 u = true ∧ seg1B u = b ∧ (RS.new b).header.1.code = 0 ∧ (RS.new b).header.2.ver = 1) := by
  unfold dec1
  by_cases hc : (RS.new b).dec1.1.code = 0
  · rw [if_pos hc]
    obtain ⟨h1, h2, h3, h4, h5, h6⟩ := seg1_is hb (by omega) hc
    exact .inr ⟨_, rfl, h4, h3, h5, h6, h1, h2⟩
  · rw [if_neg hc]; exact .inl ⟨rfl, hc⟩
theorem dec2_cases {b : List Int} (hb : Bys b) (hn : b.length ≤ 1000000) : (dec2 b = (sg20, ((RS.new b).dec2.1.code, (RS.new b).dec2.1.fat)) ∧ ¬ (RS.new b).dec2.1.code = 0) ∨ (∃ u, dec2 b = (u, (0, 0)) ∧ Bts u.bt ∧ right2 u = true ∧ seg2B u = b ∧ (RS.new b).header.1.code = 0 ∧ (RS.new b).header.2.ver = 2) := by
  unfold dec2
  by_cases hc : (RS.new b).dec2.1.code = 0
  · rw [if_pos hc]
    obtain ⟨h1, h2, h3, h4, h5⟩ := seg2_is hb (by omega) hc
    exact .inr ⟨_, rfl, h3, h4, h5, h1, h2⟩
  · rw [if_neg hc]; exact .inl ⟨rfl, hc⟩
theorem small1_of {u : Sg1} (b0 : 0 ≤ u.base) (hr : right1 u = true) : Small1 u := by
  obtain ⟨h1, h2, h3, h4, h5⟩ := right1_iff.1 hr
  exact ⟨b0, by omega, by omega, by omega⟩
theorem smallB_of {b : Bt} (hb : b.ok) (hr : rightB b = true) : SmallB b := by
  obtain ⟨r1, ⟨⟨r2, r2'⟩, r3⟩, r4, r5⟩ := rightB_iff.1 hr
  refine ⟨by omega, fun e he => ?_, by omega⟩
  obtain ⟨i, hi, rfl⟩ := List.getElem_of_mem he
  have h := r5 i hi
  have e : b.en.getD i en0 = b.en[i] := by simp [hi]
  rw [e] at h
  obtain ⟨h1, h2⟩ := rightE_iff.1 h
  obtain ⟨l1, l2, l3⟩ := rightL_iff.1 h1
  exact ⟨⟨by omega, fun x hx => by have := (goodL_iff.1 (l3 x hx)).1; omega⟩, by omega⟩
theorem small2_of {u : Sg2} (hb : Bts u.bt) (hr : right2 u = true) : Small2 u := by
  obtain ⟨h1, h2, h3⟩ := right2_iff.1 hr
  refine ⟨by omega, fun b hbm => ?_, hb⟩
  obtain ⟨i, hi, rfl⟩ := List.getElem_of_mem hbm
  have h := h3 i hi
  unfold mayAt at h
  simp only [Bool.and_eq_true] at h
  have e : u.bt.getD i bt0 = u.bt[i] := by simp [hi]
  rw [e] at h
  exact smallB_of (hb _ hbm) h.1.1
theorem dec1_small {b : List Int} (hb : Bys b) (hn : b.length ≤ 1000000) : O1s (dec1 b).1.en ∧ (dec1 b).1.en.length ≤ 1000000 := by
  rcases dec1_cases hb hn with ⟨h, _⟩ | ⟨u, h, h1, h2, h3, _⟩
  · rw [h]; exact ⟨fun x hx => by simp [sg10] at hx, by simp [sg10]⟩
  · rw [h]; exact ⟨h1, (small1_of h2 h3).n⟩
theorem dec2_small {b : List Int} (hb : Bys b) (hn : b.length ≤ 1000000) : Small2 (dec2 b).1 := by
  rcases dec2_cases hb hn with ⟨h, _⟩ | ⟨u, h, h1, h2, _⟩
  · rw [h]; exact ⟨by simp [sg20], fun x hx => by simp [sg20] at hx, fun x hx => by simp [sg20] at hx⟩
  · rw [h]; exact small2_of h1 h2
set_option maxHeartbeats 1000000 in
set_option maxRecDepth 100000 in
theorem law_LegacyReads (b : List Int) (hb : Bys b) : Does Tryz.prog 3 [slA .u8 b] [] (bA true) [] := by
  refine Does.runA Tryz.func3 b3 n3 Tryz.ntmps3 ?_; simp only [c3, go_sem, Nat.reduceAdd, Nat.reduceMul, Int.reduceToNat, Nat.reduceLeDiff, Int.reduceLE, Int.reduceLT, ↓reduceIte, Int.reduceBEq, Int.reduceBNe, Int.reduceAdd, Int.reduceSub, Int.reduceMul, ints_length]; try refine okTr_and rfl ?_
  by_cases hl : 1500 < (b.length : Int)
  · have q1 : decide (1500 < (b.length : Int)) = true := decide_eq_true hl
    (simp only [go_sem, Nat.reduceAdd, Nat.reduceMul, Int.reduceToNat, Nat.reduceLeDiff, Int.reduceLE, Int.reduceLT, ↓reduceIte, Int.reduceBEq, Int.reduceBNe, Int.reduceAdd, Int.reduceSub, Int.reduceMul, q1]; try refine okTr_and rfl ?_)
    refine CallK.p (live35) ?_; (simp only [go_sem, Nat.reduceAdd, Nat.reduceMul, Int.reduceToNat, Nat.reduceLeDiff, Int.reduceLE, Int.reduceLT, ↓reduceIte, Int.reduceBEq, Int.reduceBNe, Int.reduceAdd, Int.reduceSub, Int.reduceMul]; try refine okTr_and rfl ?_)
    exact FinK.finA r3 []
  · have q1 : decide (1500 < (b.length : Int)) = false := decide_eq_false hl
    have hn : b.length ≤ 1000000 := by omega
    obtain ⟨s1, s2⟩ := dec1_small hb hn
    have s3 := dec2_small hb hn
    have d1 := legacy_Decode1 b hb hn
    have d2 := ref35_Decode1 b hb hn
    have d3 := legacy_Decode2 b hb hn
    have d4 := ref35_Decode2 b hb hn
    obtain ⟨X, hX⟩ : ∃ X, dec1 b = X := ⟨_, rfl⟩
    obtain ⟨Y, hY⟩ : ∃ Y, dec2 b = Y := ⟨_, rfl⟩
    rw [hX] at s1 s2 d1 d2
    rw [hY] at s3 d3 d4
    have e1 := same1_self X.1
    have e2 := same2_self Y.1
    (simp only [go_sem, Nat.reduceAdd, Nat.reduceMul, Int.reduceToNat, Nat.reduceLeDiff, Int.reduceLE, Int.reduceLT, ↓reduceIte, Int.reduceBEq, Int.reduceBNe, Int.reduceAdd, Int.reduceSub, Int.reduceMul, q1]; try refine okTr_and rfl ?_)
    refine CallK.p (d1) ?_; (simp only [go_sem, Nat.reduceAdd, Nat.reduceMul, Int.reduceToNat, Nat.reduceLeDiff, Int.reduceLE, Int.reduceLT, ↓reduceIte, Int.reduceBEq, Int.reduceBNe, Int.reduceAdd, Int.reduceSub, Int.reduceMul]; try refine okTr_and rfl ?_)
    refine CallK.p (d2) ?_; (simp only [go_sem, Nat.reduceAdd, Nat.reduceMul, Int.reduceToNat, Nat.reduceLeDiff, Int.reduceLE, Int.reduceLT, ↓reduceIte, Int.reduceBEq, Int.reduceBNe, Int.reduceAdd, Int.reduceSub, Int.reduceMul]; try refine okTr_and rfl ?_)
    refine CallK.p (d3) ?_; (simp only [go_sem, Nat.reduceAdd, Nat.reduceMul, Int.reduceToNat, Nat.reduceLeDiff, Int.reduceLE, Int.reduceLT, ↓reduceIte, Int.reduceBEq, Int.reduceBNe, Int.reduceAdd, Int.reduceSub, Int.reduceMul]; try refine okTr_and rfl ?_)
    refine CallK.p (d4) ?_; (simp only [go_sem, Nat.reduceAdd, Nat.reduceMul, Int.reduceToNat, Nat.reduceLeDiff, Int.reduceLE, Int.reduceLT, ↓reduceIte, Int.reduceBEq, Int.reduceBNe, Int.reduceAdd, Int.reduceSub, Int.reduceMul]; try refine okTr_and rfl ?_)
    refine CallK.p (ref35_Same1 X.1 X.1 (fun x hx => (s1 x hx).data) (fun x hx => (s1 x hx).data) s2) ?_; (simp only [go_sem, Nat.reduceAdd, Nat.reduceMul, Int.reduceToNat, Nat.reduceLeDiff, Int.reduceLE, Int.reduceLT, ↓reduceIte, Int.reduceBEq, Int.reduceBNe, Int.reduceAdd, Int.reduceSub, Int.reduceMul, e1]; try refine okTr_and rfl ?_)
    (repeat ((with_reducible refine And.intro ?_ ?_); (· exact sd)))
    refine CallK.p (ref35_Same2 Y.1 Y.1 s3.n s3.s s3.ok s3.ok) ?_; (simp only [go_sem, Nat.reduceAdd, Nat.reduceMul, Int.reduceToNat, Nat.reduceLeDiff, Int.reduceLE, Int.reduceLT, ↓reduceIte, Int.reduceBEq, Int.reduceBNe, Int.reduceAdd, Int.reduceSub, Int.reduceMul, e2]; try refine okTr_and rfl ?_)
    (repeat ((with_reducible refine And.intro ?_ ?_); (· exact sd)))
    refine CallK.p (live35) ?_; (simp only [go_sem, Nat.reduceAdd, Nat.reduceMul, Int.reduceToNat, Nat.reduceLeDiff, Int.reduceLE, Int.reduceLT, ↓reduceIte, Int.reduceBEq, Int.reduceBNe, Int.reduceAdd, Int.reduceSub, Int.reduceMul]; try refine okTr_and rfl ?_)
    exact FinK.finA r3 []
end Go.Proofs.YtnfagphepkeedaaGreat
end
section
namespace Go.Proofs.YtnfagphepkeedaaGreat
open Go.RowKit

def leadsAt (P : Program) (g : Nat) : List Nat := (P.funcs[g]?).elim [] P.leadsTo
/-- What a function's own text says: where it leads; is it one of ours, or without a text; does it call what no name tells; which variables it names. -/
def tellOf (P : Program) (g : Func) : List Nat × Bool × Bool × List Nat :=
  (P.leadsTo g, (g.ours || g.body.isNone || g.name == "runtime.NumGoroutine"), (match g.body with | some c => c.unfollowed | none => entryCalls g), g.body.elim [] Code.globalsNamed)

section
variable {P : Program} {T : List (List Nat × Bool × Bool × List Nat)}
def T0 : List Nat × Bool × Bool × List Nat := ([], false, false, [])
theorem tell_at (hT : P.funcs.toList.map (tellOf P) = T) (g : Nat) {fn : Func} (h : P.funcs[g]? = some fn) : T[g]? = some (tellOf P fn) := by
  rw [← hT, List.getElem?_map]
  simp [h]
theorem leads_at (hT : P.funcs.toList.map (tellOf P) = T) (g : Nat) : leadsAt P g = ((T[g]?).getD T0).1 := by
  cases h : P.funcs[g]? with
  | none => rw [← hT, List.getElem?_map]; simp [leadsAt, h, T0]
  | some fn => rw [tell_at hT g h]; simp [leadsAt, h, tellOf]

theorem mem_seen (g : Nat) : ∀ n todo seen, g ∈ seen → g ∈ P.closureVia n todo seen := by
  intro n
  induction n with
  | zero => intro todo seen h; simpa [Program.closureVia] using h
  | succ n ih =>
    intro todo seen h
    cases todo with
    | nil => simpa [Program.closureVia] using h
    | cons f todo =>
      unfold Program.closureVia
      split
      · exact ih _ _ h
      · exact ih _ _ (List.mem_cons_of_mem _ h)
theorem closure_sub (C : Nat → Prop) (hC : ∀ g, C g → ∀ h ∈ leadsAt P g, C h) : ∀ n todo seen, (∀ x ∈ todo, C x) → (∀ x ∈ seen, C x) → ∀ x ∈ P.closureVia n todo seen, C x := by
  intro n
  induction n with
  | zero => intro todo seen _ hs x hx; exact hs x (by simpa [Program.closureVia] using hx)
  | succ n ih =>
    intro todo seen ht hs
    cases todo with
    | nil => intro x hx; exact hs x (by simpa [Program.closureVia] using hx)
    | cons f todo =>
      unfold Program.closureVia
      split
      · exact ih _ _ (fun x hx => ht x (List.mem_cons_of_mem _ hx)) hs
      · refine ih _ _ (fun x hx => ?_) (fun x hx => ?_)
        · rcases List.mem_append.1 hx with h | h
          · exact hC f (ht f (List.mem_cons_self ..)) x h
          · exact ht x (List.mem_cons_of_mem _ h)
        · rcases List.mem_cons.1 hx with h | h
          · rw [h]; exact ht f (List.mem_cons_self ..)
          · exact hs x h
theorem closure_in (C : Nat → Prop) (hC : ∀ g, C g → ∀ h ∈ leadsAt P g, C h) {f : Nat} (hf : C f) : ∀ x ∈ P.closure f, C x :=
  closure_sub C hC _ _ _ (fun x hx => by simp at hx; rw [hx]; exact hf) (fun x hx => by simp at hx)

/-- The walk of the closure on the table, k steps. -/
def closT (T : List (List Nat × Bool × Bool × List Nat)) : Nat → List Nat → List Nat → List Nat × List Nat
  | 0, todo, seen => (todo, seen)
  | _, [], seen => ([], seen)
  | n + 1, f :: todo, seen => if seen.contains f then closT T n todo seen else closT T n (((T[f]?).getD T0).1 ++ todo) (f :: seen)
theorem closT_mem (hT : P.funcs.toList.map (tellOf P) = T) (g : Nat) : ∀ k n todo seen, g ∈ (closT T k todo seen).2 → g ∈ P.closureVia (k + n) todo seen := by
  intro k
  induction k with
  | zero => intro n todo seen h; exact mem_seen g _ _ _ h
  | succ k ih =>
    intro n todo seen h
    cases todo with
    | nil => exact mem_seen g _ _ _ (by simpa [closT] using h)
    | cons f todo =>
      rw [show k + 1 + n = (k + n) + 1 from by omega]
      unfold closT at h
      unfold Program.closureVia
      split at h
      · rename_i hc; rw [if_pos hc]; exact ih _ _ _ h
      · rename_i hc; rw [if_neg hc]
        have e := leads_at hT f
        unfold leadsAt at e
        rw [e]; exact ih _ _ _ h
theorem closure_mem (hT : P.funcs.toList.map (tellOf P) = T) {f g : Nat} (k : Nat) (hk : k ≤ (T.map fun t => t.1.length + 1).sum) (h : (closT T k [f] []).2.contains g = true) : g ∈ P.closure f := by
  have e : (P.funcs.toList.map fun g => (P.leadsTo g).length + 1) = T.map fun t => t.1.length + 1 := by
    rw [← hT, List.map_map]; rfl
  unfold Program.closure
  rw [e]
  obtain ⟨m, hm⟩ := Nat.exists_eq_add_of_le (Nat.le_trans hk (Nat.le_add_left _ 1))
  rw [hm]
  exact closT_mem hT g k m _ _ (by simpa using h)

/-- All that a set of functions says of itself: it leads nowhere else, all its texts are there, none names a variable. -/
def quietSet (T : List (List Nat × Bool × Bool × List Nat)) (C : List Nat) : Bool :=
  C.all fun g => match T[g]? with | some t => t.1.all (C.contains ·) && !t.2.1 && t.2.2.2.isEmpty | none => false
theorem quiet_closed (hT : P.funcs.toList.map (tellOf P) = T) {C : List Nat} (hq : quietSet T C = true) : ∀ g, g ∈ C → ∀ h ∈ leadsAt P g, h ∈ C := by
  intro g hg h hh
  have q := List.all_eq_true.1 hq g hg
  rw [leads_at hT] at hh
  cases e : T[g]? with
  | none => rw [e] at q; simp at q
  | some t =>
    rw [e] at q hh
    simp only [Bool.and_eq_true, List.all_eq_true] at q
    simpa using q.1.1 h hh
theorem quiet_tell (hT : P.funcs.toList.map (tellOf P) = T) {C : List Nat} (hq : quietSet T C = true) {g : Nat} (hg : g ∈ C) : ∃ fn, P.funcs[g]? = some fn ∧ (fn.ours || fn.body.isNone || fn.name == "runtime.NumGoroutine") = false ∧ fn.body.elim [] Code.globalsNamed = [] := by
  have q := List.all_eq_true.1 hq g hg
  cases h : P.funcs[g]? with
  | none =>
    have : T[g]? = none := by rw [← hT, List.getElem?_map]; simp [h]
    rw [this] at q; simp at q
  | some fn =>
    rw [tell_at hT g h] at q
    simp only [tellOf, Bool.and_eq_true, List.isEmpty_iff, Bool.not_eq_true'] at q
    exact ⟨fn, rfl, q.1.2, q.2⟩
theorem inPlace_nil (hT : P.funcs.toList.map (tellOf P) = T) {C : List Nat} (hq : quietSet T C = true) {f : Nat} (hf : f ∈ C) : [] = P.inPlace f := by
  unfold Program.inPlace
  symm
  rw [List.filterMap_eq_nil_iff]
  intro g hg
  obtain ⟨fn, h, h1, h2⟩ := quiet_tell hT hq (closure_in (· ∈ C) (quiet_closed hT hq) hf g hg)
  simp only [h, Option.bind_some]
  rw [h1]; rfl
theorem varsNamed_nil (hT : P.funcs.toList.map (tellOf P) = T) {C : List Nat} (hq : quietSet T C = true) {f : Nat} (hf : f ∈ C) : [] = P.varsNamed f := by
  have hin := closure_in (P := P) (· ∈ C) (quiet_closed hT hq) hf
  have e1 : ((P.closure f).flatMap fun g => ((P.funcs[g]?).bind (·.body)).elim [] Code.globalsNamed) = [] := by
    rw [List.flatMap_eq_nil_iff]
    intro g hg
    obtain ⟨fn, h, h1, h2⟩ := quiet_tell hT hq (hin g hg)
    simpa [h] using h2
  have e2 : ((P.closure f).filterMap fun g => (P.funcs[g]?).bind fun fn => if fn.body.isNone then entryReads.lookup fn.name else none) = [] := by
    rw [List.filterMap_eq_nil_iff]
    intro g hg
    obtain ⟨fn, h, h1, h2⟩ := quiet_tell hT hq (hin g hg)
    have hb : fn.body.isNone = false := by
      simp only [Bool.or_eq_false_iff] at h1
      exact h1.1.2
    simp only [h, Option.bind_some, hb]; rfl
  unfold Program.varsNamed
  rw [e1, e2]
  rfl
theorem unfollowed_true (hT : P.funcs.toList.map (tellOf P) = T) {f g : Nat} (k : Nat) (hk : k ≤ (T.map fun t => t.1.length + 1).sum) (h : (closT T k [f] []).2.contains g = true)
    (hu : ((T[g]?).getD T0).2.2.1 = true) : true = P.unfollowed f := by
  unfold Program.unfollowed
  symm
  rw [List.any_eq_true]
  refine ⟨g, closure_mem hT k hk h, ?_⟩
  cases e : P.funcs[g]? with
  | none =>
    have : T[g]? = none := by rw [← hT, List.getElem?_map]; simp [e]
    rw [this] at hu; simp [T0] at hu
  | some fn =>
    rw [tell_at hT g e] at hu
    simp only [Option.getD_some, tellOf] at hu
    simp only [Option.any_some]
    revert hu
    cases fn.body <;> simp
theorem recurses_true_of_unfollowed {f : Nat} (h : true = P.unfollowed f) : true = P.recurses f := by
  unfold Program.recurses; rw [← h]; rfl
end

theorem strip_cut (rest : List (List Char)) : stripLifts liftWords ("cut".toList :: rest) = ([], "cut".toList :: rest) := by kernel_rfl
theorem cut_not : ("cut".toList == "gc".toList) = false ∧ ("cut".toList == "spec".toList) = false ∧ ("cut".toList == "carried".toList) = false ∧ ("cut".toList == "cut".toList) = true := ⟨by kernel_rfl, by kernel_rfl, by kernel_rfl, by kernel_rfl⟩
section
variable {P : Program} {rest : List (List Char)} (h : behindMainWord (wordsSigns P.initOrder.toList) = "cut".toList :: rest)
include h
theorem headLifts_of : P.headLifts = [] := by
  unfold Program.headLifts
  rw [h, strip_cut]
  simp
theorem mayEnter_of (hl : P.laysLater = false) (hb : P.bearsReflect = false) (hd : P.doorFits [] = true) : P.mayEnter = true := by
  obtain ⟨c1, c2, c3, c4⟩ := cut_not
  unfold Program.mayEnter
  rw [h]
  simp only [strip_cut, hl, hb, hd, c1, c2, c3, Bool.false_and, Bool.or_false, List.head?_cons, Bool.not_false, Bool.or_true, Bool.and_true, List.contains_nil, beq_self_eq_true]
theorem liftsFinal_of : false = P.liftsFinal := by
  obtain ⟨c1, c2, c3, c4⟩ := cut_not
  unfold Program.liftsFinal
  rw [headLifts_of h, h]
  simp only [List.head?_cons, List.contains_nil, Bool.or_false]
  have : ((some "cut".toList : Option (List Char)) == some "carried".toList) = false := c3
  rw [this]; rfl
theorem make_of : P.make = some .cut := by
  obtain ⟨c1, c2, c3, c4⟩ := cut_not
  unfold Program.make
  rw [h]
  simp only [c1, c2, c4, Bool.or_self, Bool.true_or, if_true]
  rfl
end

/-- A row's closed facts, without the four cells that walk all that the function reaches. -/
def lightFacts (P : Program) (fn : Func) (s : ChangeSpec) (c : OpenClaim) : Bool :=
  (c.wf (OpenSpec.ofChange s) && mapsRowed P && fn.params.all (P.readableRec ·) && namedTie P c.named s.vars &&
  (c.stops == []) && (P.stops == []) && (c.knobs == []) && (P.stopKnobs == [])) &&
  ((c.maps == (fn.params.toList ++ s.plain.varTypes P).any (P.mapsRec ·)) && (c.ifaces == (fn.params.toList ++ s.plain.varTypes P).any (P.ifacesRec ·)) && (c.mapsOut == P.mapsAmong fn.resultTypes.toList) &&
  (c.loops == (fn.params.toList ++ s.plain.varTypes P).any (P.loopsFrom ·)) && (c.wideKeys == (fn.params.toList ++ s.plain.varTypes P ++ fn.resultTypes.toList).any (P.wideKeysFrom ·)) &&
  s.vars.all (P.varReadable ·) && fn.resultTypes.all (fun t => P.readableRec t && decide (t < P.types.size)) && (c.ifacesOut == fn.resultTypes.toList.any (P.ifacesRec ·)) && (c.loopsOut == fn.resultTypes.toList.any (P.loopsFrom ·)) && (c.plainKeys == P.plainKeys) && c.shortTexts.isNone) &&
  (P.stopsHeard && (c.kinds == (if c.domain.isEmpty then [] else fn.params.toList.map fun t => match P.underlying t with | some (.int k) => some k | _ => none)) && (c.pinned == c.pinnedBy) &&
  (c.veiled == (fn.params.toList ++ s.plain.varTypes P ++ fn.resultTypes.toList).any (P.veiledRec ·)) && c.veiledFits P fn.params.toList (fn.params.toList ++ s.plain.varTypes P ++ fn.resultTypes.toList))
theorem joined_of {P : Program} {f : Nat} {fn : Func} {s : ChangeSpec} {c : OpenClaim} (hl : laidOutB P = true) (h : lightFacts P fn s c = true) (he : P.mayEnter = true) (hf : c.lifted = P.liftsFinal) (hm : P.make = some c.make)
    (h1 : c.inPlace = P.inPlace f) (h2 : c.unfollowed = P.unfollowed f) (h3 : c.recurses = P.recurses f) (h4 : c.named = P.varsNamed f) : joinedFacts P f fn s c = true := by
  simp only [lightFacts, Bool.and_eq_true, beq_iff_eq] at h
  obtain ⟨⟨⟨⟨⟨⟨⟨⟨⟨g0, g1⟩, g2⟩, g3⟩, g4⟩, g5⟩, g6⟩, g7⟩, ⟨⟨⟨⟨⟨⟨⟨⟨⟨⟨m0, m1⟩, m2⟩, m3⟩, m4⟩, m5⟩, m6⟩, m7⟩, m8⟩, m9⟩, m10⟩⟩, ⟨⟨⟨⟨q0, q1⟩, q2⟩, q3⟩, q4⟩⟩ := h
  simp only [joinedFacts, Bool.and_eq_true, beq_iff_eq]
  exact ⟨⟨⟨⟨⟨⟨⟨⟨⟨⟨⟨⟨⟨⟨⟨⟨⟨⟨⟨⟨⟨⟨⟨⟨⟨⟨⟨⟨⟨⟨⟨g0, hl⟩, g1⟩, g2⟩, g3⟩, g4⟩, g5⟩, g6⟩, g7⟩, h1⟩, h2⟩, h3⟩, h4⟩, m0⟩, m1⟩, m2⟩, m3⟩, m4⟩, m5⟩, m6⟩, m7⟩, m8⟩, m9⟩, m10⟩, q0⟩, he⟩, hf⟩, hm⟩, q1⟩, q2⟩, q3⟩, q4⟩
end Go.Proofs.YtnfagphepkeedaaGreat
end
section
namespace Go.Proofs.YtnfagphepkeedaaGreat
open Go.RowKit

def TELLS0 : List (List Nat × Bool × Bool × List Nat) := [([], true, false, []),
  ([], true, false, []),
  ([1], false, false, []),
  ([7, 8, 9, 10, 11, 12, 13, 7], false, false, []),
  ([14, 14, 7, 15, 16, 17, 18, 12, 17, 7, 8, 10, 20, 19, 12, 7], false, false, []),
  ([7, 8, 10, 15, 17, 19, 7, 21, 22, 19, 7, 7], false, false, []),
  ([23, 23, 7, 21, 24, 22, 25, 13, 22, 7, 10, 8, 26, 19, 13, 7], false, false, []),
  ([15, 27, 19], false, false, []),
  ([28, 29, 30, 31, 33, 32, 30, 35, 36, 37, 38, 39, 40], false, false, []),
  ([41, 42, 43, 43, 44, 45, 46, 47, 44, 48], false, false, []),
  ([28, 29, 49, 51, 50, 39, 59], false, false, []),
  ([41, 60, 61, 62, 44, 63, 44, 48, 64], false, false, []),
  ([19], false, false, []),
  ([65], false, false, []),
  ([], false, false, []),
  ([16, 27, 67, 66, 68, 68, 68, 69, 70, 37, 71], false, false, []),
  ([72, 73, 67, 75, 74], false, false, []),
  ([76, 77], false, false, []),
  ([78, 79], false, false, []),
  ([], false, false, []),
  ([81, 82, 82, 82, 83, 47, 84], false, false, []),
  ([24, 27, 85, 87, 86], false, false, []),
  ([76, 88, 63, 89], false, false, []),
  ([90, 90], false, false, []),
  ([72, 92, 91], false, false, []),
  ([97, 98], false, false, []),
  ([81, 100, 99], false, false, []),
  ([101, 66, 102, 70], false, false, []),
  ([], false, false, []),
  ([103, 38], false, false, []),
  ([], false, false, []),
  ([30, 49, 73, 38], false, false, []),
  ([53], false, true, []),
  ([34], false, false, []),
  ([104, 30, 104, 38, 53, 105], false, false, []),
  ([], false, false, []),
  ([106], false, false, []),
  ([109, 108, 107], false, false, []),
  ([53, 110], false, false, []),
  ([111, 38], false, false, [])]
set_option maxRecDepth 100000 in
theorem tells_eq0 : ((Tryz.prog.funcs.toList.drop 0).take 40).map (tellOf Tryz.prog) = TELLS0 := by kernel_rfl
def TELLS1 : List (List Nat × Bool × Bool × List Nat) := [([56, 57], false, false, []),
  ([112, 44], false, false, []),
  ([60, 77, 44], false, false, []),
  ([113, 64], false, false, []),
  ([64], false, false, []),
  ([60, 114], false, false, []),
  ([114], false, false, []),
  ([115], false, false, []),
  ([44], false, false, []),
  ([116, 30, 104, 38], false, false, []),
  ([53], false, true, []),
  ([30, 52, 53, 28, 54, 56, 30, 55, 57, 38, 58, 38], false, false, []),
  ([117, 105, 30, 36, 38, 118, 53], false, false, []),
  ([57], false, false, []),
  ([119, 120, 31, 122, 121, 39], false, false, []),
  ([110], false, false, []),
  ([110], false, false, []),
  ([], false, false, []),
  ([124], false, false, []),
  ([56, 57], false, false, []),
  ([125, 43, 44], false, false, []),
  ([45, 46, 47, 44], false, false, []),
  ([126, 126, 42, 127, 89, 44, 45, 48], false, false, []),
  ([], false, false, []),
  ([], false, false, []),
  ([128], false, false, []),
  ([], false, false, []),
  ([], false, false, []),
  ([85, 129], false, false, []),
  ([68, 129], false, false, []),
  ([130], false, false, []),
  ([], false, false, []),
  ([], false, false, []),
  ([131], false, false, []),
  ([], false, true, []),
  ([], false, false, []),
  ([], false, false, []),
  ([132], false, false, []),
  ([], false, true, []),
  ([80], false, false, [])]
set_option maxRecDepth 100000 in
theorem tells_eq1 : ((Tryz.prog.funcs.toList.drop 40).take 40).map (tellOf Tryz.prog) = TELLS1 := by kernel_rfl
def TELLS2 : List (List Nat × Bool × Bool × List Nat) := [([], false, false, []),
  ([82, 82, 47, 84], false, false, []),
  ([82], false, false, []),
  ([82], false, false, []),
  ([], false, false, []),
  ([], false, false, []),
  ([133, 66, 134, 70], false, false, []),
  ([135, 66, 136, 137, 68, 138, 69, 70], false, false, []),
  ([76, 139, 140, 141], false, false, []),
  ([], false, false, []),
  ([142], false, false, []),
  ([], false, true, []),
  ([93, 94, 96, 58], false, false, []),
  ([], false, true, []),
  ([95], false, false, []),
  ([143, 144], false, false, []),
  ([72, 145, 146, 147], false, false, []),
  ([], false, true, []),
  ([148], false, false, []),
  ([83, 47, 84], false, false, []),
  ([82, 82, 149, 83], false, false, []),
  ([150], false, false, []),
  ([151, 152, 153, 129, 37, 154], false, false, []),
  ([155, 119, 156, 120, 30, 36, 53, 153, 37, 38], false, false, []),
  ([30, 157, 53, 30, 38, 30, 30, 38], false, false, []),
  ([49, 106], false, false, []),
  ([158], false, false, []),
  ([], false, false, []),
  ([159], false, false, []),
  ([], false, false, []),
  ([], false, false, []),
  ([], false, false, []),
  ([160, 126, 126, 46, 47, 44], false, false, []),
  ([64, 64, 64], false, false, []),
  ([44, 44], false, false, []),
  ([161], false, false, []),
  ([30, 104, 38], false, false, []),
  ([], false, false, []),
  ([37], false, true, []),
  ([162, 72], false, false, [])]
set_option maxRecDepth 100000 in
theorem tells_eq2 : ((Tryz.prog.funcs.toList.drop 80).take 40).map (tellOf Tryz.prog) = TELLS2 := by kernel_rfl
def TELLS3 : List (List Nat × Bool × Bool × List Nat) := [([162, 131], false, false, []),
  ([53], false, true, []),
  ([30, 123, 95, 38, 105], false, false, []),
  ([49, 30, 104, 38, 163, 53], false, false, []),
  ([], false, false, []),
  ([43, 44], false, false, []),
  ([43, 76, 132, 44], false, false, []),
  ([60, 43, 44, 164], false, false, []),
  ([165], false, false, []),
  ([130, 166, 152], false, false, []),
  ([], false, false, []),
  ([], false, false, []),
  ([], false, false, []),
  ([167], false, false, []),
  ([152, 69, 37, 154], false, false, []),
  ([147, 168, 150], false, false, []),
  ([72, 169], false, false, []),
  ([131, 169], false, false, []),
  ([170, 152, 68, 171, 68, 172], false, false, []),
  ([132], false, false, []),
  ([], false, false, []),
  ([173], false, false, []),
  ([174], false, false, []),
  ([], false, true, []),
  ([], false, false, []),
  ([131], false, false, []),
  ([], false, false, []),
  ([170], false, false, []),
  ([175, 176], false, false, []),
  ([82, 177], false, false, []),
  ([], false, false, []),
  ([72, 131, 156], false, false, []),
  ([130], false, false, []),
  ([101, 66, 178, 129, 136, 156, 137, 70], false, false, []),
  ([71, 129], false, false, []),
  ([30, 106, 38, 157, 30, 38, 53], false, false, []),
  ([], false, false, []),
  ([158], false, false, []),
  ([53, 38, 111, 38], false, false, []),
  ([179], false, false, [])]
set_option maxRecDepth 100000 in
theorem tells_eq3 : ((Tryz.prog.funcs.toList.drop 120).take 40).map (tellOf Tryz.prog) = TELLS3 := by kernel_rfl
def TELLS4 : List (List Nat × Bool × Bool × List Nat) := [([114, 44, 114, 44], false, false, []),
  ([], false, false, []),
  ([30, 104, 38, 53], false, true, []),
  ([49, 30, 104, 38, 53], false, false, []),
  ([60, 43, 44], false, false, []),
  ([180], false, false, []),
  ([], false, false, []),
  ([150], false, false, []),
  ([170, 150, 171, 150, 181], false, false, []),
  ([152, 68], false, false, []),
  ([182, 183, 184, 186], false, false, []),
  ([], false, false, []),
  ([187, 152, 68, 68], false, false, []),
  ([188], false, false, []),
  ([189], false, false, []),
  ([], false, true, []),
  ([190, 80], false, false, []),
  ([82, 191, 82], false, false, []),
  ([129], false, false, []),
  ([], false, false, []),
  ([192, 19], false, false, []),
  ([187, 150, 150], false, false, []),
  ([], false, true, []),
  ([], false, false, []),
  ([185], false, false, []),
  ([187], false, false, []),
  ([], false, true, []),
  ([], false, false, []),
  ([], false, false, []),
  ([193], false, false, []),
  ([194, 195], false, false, []),
  ([], false, false, []),
  ([197], false, false, []),
  ([], false, false, []),
  ([], false, true, []),
  ([196], false, false, []),
  ([], false, false, []),
  ([198], false, false, []),
  ([], false, false, []),
  ([], true, false, [])]
set_option maxRecDepth 100000 in
theorem tells_eq4 : ((Tryz.prog.funcs.toList.drop 160).take 40).map (tellOf Tryz.prog) = TELLS4 := by kernel_rfl
def TELLS5 : List (List Nat × Bool × Bool × List Nat) := [([], true, false, []),
  ([], true, false, []),
  ([], true, false, []),
  ([], true, false, []),
  ([], true, false, []),
  ([], true, false, []),
  ([], true, false, []),
  ([], true, false, []),
  ([], true, false, []),
  ([], true, false, []),
  ([], true, false, []),
  ([], true, false, []),
  ([], true, false, []),
  ([], true, false, []),
  ([], true, false, []),
  ([], true, false, [])]
set_option maxRecDepth 100000 in
theorem tells_eq5 : ((Tryz.prog.funcs.toList.drop 200).take 16).map (tellOf Tryz.prog) = TELLS5 := by kernel_rfl
def TELLS : List (List Nat × Bool × Bool × List Nat) := TELLS0 ++ TELLS1 ++ TELLS2 ++ TELLS3 ++ TELLS4 ++ TELLS5
theorem tells_size : Tryz.prog.funcs.toList.length = 216 := by kernel_rfl
theorem split_at {α : Type} (l : List α) (i n : Nat) : (l.drop i) = (l.drop i).take n ++ l.drop (i + n) := by
  rw [← List.drop_drop]; exact (List.take_append_drop n _).symm
theorem tells_eq : Tryz.prog.funcs.toList.map (tellOf Tryz.prog) = TELLS := by
  have h0 : Tryz.prog.funcs.toList = Tryz.prog.funcs.toList.drop 0 := rfl
  rw [h0]
  rw [split_at Tryz.prog.funcs.toList 0 40, List.map_append, tells_eq0]
  rw [split_at Tryz.prog.funcs.toList 40 40, List.map_append, tells_eq1]
  rw [split_at Tryz.prog.funcs.toList 80 40, List.map_append, tells_eq2]
  rw [split_at Tryz.prog.funcs.toList 120 40, List.map_append, tells_eq3]
  rw [split_at Tryz.prog.funcs.toList 160 40, List.map_append, tells_eq4]
  rw [split_at Tryz.prog.funcs.toList 200 16, List.map_append, tells_eq5]
  rw [List.drop_eq_nil_of_le (by rw [tells_size]; omega)]
  simp [TELLS]
def initSigns : List Nat := [104, 97, 114, 110, 101, 115, 115, 32, 56, 52, 55, 54, 54, 50, 49, 100, 53, 51, 51, 54, 54, 57, 50, 57, 97, 98, 102, 98, 98, 102, 51, 98, 98, 100, 100, 99, 98, 56, 50, 100, 48, 51, 98, 49, 97, 51, 100, 102, 98, 97, 50, 56, 97, 100, 98, 97, 54, 100, 55, 49, 50, 48, 99, 55, 100, 99, 51, 53, 101, 50, 55, 50, 32, 99, 117, 116, 32, 97, 116, 32, 116, 104, 111, 108, 101, 112, 105, 110, 47, 116, 104, 111, 108, 101, 112, 105, 110, 108, 97, 119, 51, 53, 46, 76, 101, 103, 97, 99, 121, 82, 101, 97, 100, 115, 32, 116, 104, 111, 108, 101, 112, 105, 110, 47, 116, 104, 111, 108, 101, 112, 105, 110, 108, 97, 119, 51, 53, 46, 76, 101, 103, 97, 99, 121, 79, 110, 101, 115, 32, 116, 104, 111, 108, 101, 112, 105, 110, 47, 116, 104, 111, 108, 101, 112, 105, 110, 108, 97, 119, 51, 53, 46, 76, 101, 103, 97, 99, 121, 79, 110, 99, 101, 32, 116, 104, 111, 108, 101, 112, 105, 110, 47, 116, 104, 111, 108, 101, 112, 105, 110, 108, 97, 119, 51, 53, 46, 76, 101, 103, 97, 99, 121, 84, 119, 111, 115]
set_option maxRecDepth 100000 in
theorem init_is : Tryz.prog.initOrder = String.ofList (initSigns.map Char.ofNat) := by kernel_rfl
theorem init_list : Tryz.prog.initOrder.toList = initSigns.map Char.ofNat := by rw [init_is]; exact String.toList_ofList
theorem cut_word : ("cut").toList = [99, 117, 116].map Char.ofNat := by decide +kernel
theorem cut_head : (behindMainWord (wordsSigns (initSigns.map Char.ofNat))).head? = some ([99, 117, 116].map Char.ofNat) := by kernel_rfl
theorem behind_main : ∃ rest, behindMainWord (wordsSigns Tryz.prog.initOrder.toList) = "cut".toList :: rest := by
  have h := cut_head
  rw [init_list, cut_word]
  cases hb : behindMainWord (wordsSigns (initSigns.map Char.ofNat)) with
  | nil => rw [hb] at h; cases h
  | cons c r => rw [hb] at h; simp only [List.head?_cons, Option.some.injEq] at h; exact ⟨r, by rw [h]⟩
theorem lays_later : Tryz.prog.laysLater = false := by kernel_rfl
theorem bears_reflect : Tryz.prog.bearsReflect = false := by kernel_rfl
theorem door_fits : Tryz.prog.doorFits [] = true := by kernel_rfl
theorem may_enter : Tryz.prog.mayEnter = true := by
  obtain ⟨rest, h⟩ := behind_main
  exact mayEnter_of h lays_later bears_reflect door_fits
theorem lifts_final : false = Tryz.prog.liftsFinal := by
  obtain ⟨rest, h⟩ := behind_main
  exact liftsFinal_of h
theorem make_cut : Tryz.prog.make = some .cut := by
  obtain ⟨rest, h⟩ := behind_main
  exact make_of h
end Go.Proofs.YtnfagphepkeedaaGreat
end
section
namespace Go.Proofs.YtnfagphepkeedaaGreat
open Go.RowKit
namespace CellLegacyReads
def C : List Nat := [3, 7, 8, 9, 10, 11, 12, 13, 15, 16, 19, 27, 28, 29, 30, 31, 32, 33, 34, 35, 36, 37, 38, 39, 40, 41, 42, 43, 44, 45, 46, 47, 48, 49, 50, 51, 52, 53, 54, 55, 56, 57, 58, 59, 60, 61, 62, 63, 64, 65, 66, 67, 68, 69, 70, 71, 72, 73, 74, 75, 76, 77, 85, 89, 95, 101, 102, 103, 104, 105, 106, 107, 108, 109, 110, 111, 112, 113, 114, 115, 116, 117, 118, 119, 120, 121, 122, 123, 124, 125, 126, 127, 128, 129, 130, 131, 132, 136, 137, 143, 144, 150, 151, 152, 153, 154, 155, 156, 157, 158, 159, 160, 161, 162, 163, 164, 165, 166, 169, 178, 179, 180, 192, 197, 198]
theorem quiet : quietSet TELLS C = true := by decide +kernel
theorem mem : 3 ∈ C := by decide
theorem unf : true = Tryz.prog.unfollowed 3 := unfollowed_true (g := 74) tells_eq 10 (by decide +kernel) (by decide +kernel) (by decide +kernel)
theorem rec : true = Tryz.prog.recurses 3 := recurses_true_of_unfollowed unf
theorem light : lightFacts Tryz.pinned.checked.prog Tryz.f3 Rows.legacyReadsSpec Rows.legacyReadsRow = true := by kernel_rfl
theorem lifted : Rows.legacyReadsRow.lifted = Tryz.pinned.checked.prog.liftsFinal := lifts_final
theorem made : Tryz.pinned.checked.prog.make = some Rows.legacyReadsRow.make := make_cut
theorem closed : joinedFacts Tryz.pinned.checked.prog 3 Tryz.f3 Rows.legacyReadsSpec Rows.legacyReadsRow = true :=
  joined_of Tryz.laidOut light may_enter lifted made (inPlace_nil tells_eq quiet mem) unf rec (varsNamed_nil tells_eq quiet mem)
theorem named : Tryz.pinned.checked.prog.funcNamed Rows.legacyReadsRow.func = some 3 := by kernel_rfl
theorem inst : Tryz.f3.isInstance Tryz.pinned.checked.prog Rows.legacyReadsRow.origin Rows.legacyReadsRow.targs := of_decide_eq_true (by kernel_rfl)
theorem wrap : Tryz.f3.isWrapper Tryz.pinned.checked.prog Rows.legacyReadsRow.wrapper Rows.legacyReadsRow.mainSum := by unfold Func.isWrapper; first | (rw [if_pos (by decide +kernel)]; kernel_rfl) | (rw [if_neg (by decide +kernel)]; exact ⟨rfl, rfl⟩)
end CellLegacyReads
end Go.Proofs.YtnfagphepkeedaaGreat
end
