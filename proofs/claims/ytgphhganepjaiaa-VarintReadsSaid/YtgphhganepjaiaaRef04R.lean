/-
  Contracts of the reference's Read, Most, Int (a reader as a value).
-/
import Derived.Test.YtgphhganepjaiaaRef04
namespace Go.Proofs.Ytgphhganepjaiaa
open Go.RowKit

/-- A reader that may be: its place within its bytes, which are bytes. -/
structure ROk (s : RS) : Prop where
  at0 : 0 ≤ s.at_
  at1 : s.at_ ≤ s.l.length
  len : s.l.length ≤ 140737488355328
  bys : Bys s.l
theorem Rdr.ok {B : Nat → Prop} {w : World} {g : Nat} {s : RS} (h : Rdr B w g s) : ROk s := by
  obtain ⟨_, _, _, hb, h1, h2, h3⟩ := h; exact ⟨h1, h2, h3, hb⟩
theorem ROk.new {l : List Int} (hb : Bys l) (hn : l.length ≤ 140737488355328) : ROk (RS.new l) := ⟨by simp [RS.new], by simp [RS.new], hn, hb⟩
theorem ROk.fail {s : RS} (h : ROk s) (c a : Int) : ROk (s.fail c a) := by
  unfold RS.fail; split
  · exact ⟨h.at0, h.at1, h.len, h.bys⟩
  · exact h
theorem vint_parts {s : RS} (h : ROk s) (hc : s.code = 0) {X N C Af : Int} (hq : vGet s.rest = (X, N, (C, Af))) :
    (C = 0 → s.vint = (s.adv N, X) ∧ 1 ≤ N ∧ s.at_ + N ≤ s.l.length ∧ 0 ≤ X ∧ X < 18446744073709551616) ∧ (C = 1 → s.vint = ({ s with at_ := s.l.length, code := 1, fat := s.l.length }, 0)) ∧
      (C ≠ 0 → C ≠ 1 → s.vint = ({ s with at_ := s.at_ + Af + 1, code := C, fat := s.at_ + Af }, 0) ∧ 0 ≤ Af ∧ s.at_ + Af + 1 ≤ s.l.length) := by
  have hrl := rest_len s h.at0 h.at1
  have hb : Bys s.rest := h.bys.drop _
  unfold vGet at hq
  unfold RS.vint
  rw [if_pos hc]
  by_cases h0 : (vgo 0 s.rest).1 = 0
  · have hk := vgo_back hb h0
    rw [if_pos h0] at hq
    simp only [Prod.mk.injEq] at hq
    obtain ⟨rfl, rfl, rfl, rfl⟩ := hq
    rw [if_pos h0]
    exact ⟨fun _ => ⟨rfl, by omega, by omega, by omega, by omega⟩, fun h => by omega, fun h => by omega⟩
  · have hf := vgo_fault s.rest 0 (Int.le_refl _) h0
    rw [if_neg h0] at hq
    simp only [Prod.mk.injEq] at hq
    obtain ⟨rfl, rfl, rfl, rfl⟩ := hq
    rw [if_neg h0]
    refine ⟨fun h => by omega, fun h => by rw [if_pos h], fun _ h1 => ?_⟩
    rw [if_neg h1]
    refine ⟨rfl, by omega, by omega⟩
theorem ROk.vint {s : RS} (h : ROk s) : ROk s.vint.1 ∧ s.vint.1.l = s.l := by
  by_cases hc : s.code = 0
  · obtain ⟨X, N, C, Af, hq⟩ : ∃ X N C Af, vGet s.rest = (X, N, (C, Af)) := ⟨_, _, _, _, rfl⟩
    obtain ⟨p1, p2, p3⟩ := vint_parts h hc hq
    by_cases c0 : C = 0
    · obtain ⟨e, h1, h2, _⟩ := p1 c0
      rw [e]
      have := h.at0
      exact ⟨⟨by simp [RS.adv]; omega, by simp [RS.adv]; omega, h.len, h.bys⟩, rfl⟩
    by_cases c1 : C = 1
    · rw [p2 c1]; exact ⟨⟨by simp, by simp, h.len, h.bys⟩, rfl⟩
    · obtain ⟨e, h1, h2⟩ := p3 c0 c1
      rw [e]
      have := h.at0
      exact ⟨⟨by simp; omega, by simp; omega, h.len, h.bys⟩, rfl⟩
  · rw [vint_bad hc]; exact ⟨h, rfl⟩
theorem fail_l (s : RS) (c a : Int) : (s.fail c a).l = s.l := by unfold RS.fail; split <;> rfl

theorem cell_alloc_lt (w : World) (o : Obj) (p : Addr) (h : p.block < w.heap.size) : (w.alloc o).cell? p = w.cell? p :=
  World.cell?_of_block (w := w) (((Kept.refl (fun _ => True) w).alloc o).block p.block h trivial)
theorem Blk.ext {w w' : World} {g : Nat} {t : TypeId} {cs : Array Value} (h : Blk w g t cs) (hk : Ext w w') : Blk w' g t cs := h.kept hk trivial
theorem Blk.new' (w : World) (t : TypeId) (cs : Array Value) (g : Nat) (hg : w.heap.size = g) : Blk (w.alloc (.cells cs t)) g t cs := hg ▸ Blk.new w t cs
theorem size_set (w : World) (p : Addr) (u : Value) : (w.setCell p u).heap.size = w.heap.size := by simp [World.setCell]

set_option maxRecDepth 100000 in
set_option maxHeartbeats 2000000 in
theorem ref04_Read (A : Option Addr) (cp : Nat) (s : RS) (F : Nat → Prop) (w : World) (hr : RdI .u8 w F (.slice A s.l.length cp) s.l) (h : ROk s) :
    Calls Try.prog 82 #[CV (.slice A s.l.length cp) s] w fun r w' => r = .returned (.tuple #[CV (.slice A s.l.length cp) s.vint.1, .int .u64 s.vint.2]) ∧ Ext w w' := by
  obtain ⟨i0, hi, hz0, hz1, hz2⟩ := info_parts infoU8
  obtain ⟨V, hV⟩ : ∃ V, s.vint = V := ⟨_, rfl⟩
  rw [hV]
  have HV := Lib.hid hV
  clear hV
  have a0 := h.at0
  have a1 := h.at1
  have a2 := h.len
  by_cases hc : s.code = 0
  · have hc' : (s.code != 0) = false := by simp [hc]
    obtain ⟨v', ⟨hsl, hsl2⟩, hpart⟩ := sliceAt_l (P := Try.prog) Try.underlying37 hi hz1 hr s.at_ a0 a1
    have hlen' : (s.l.drop s.at_.toNat).length ≤ 140737488355328 := by simp; omega
    have hbyL := h.bys.drop s.at_.toNat
    obtain ⟨X, N, C, Af, hq⟩ : ∃ X N C Af, vGet s.rest = (X, N, (C, Af)) := ⟨_, _, _, _, rfl⟩
    obtain ⟨p1, p2, p3⟩ := vint_parts h hc hq
    have e : vGet (s.l.drop s.at_.toNat) = (X, N, (C, Af)) := hq
    obtain ⟨L, hL⟩ : ∃ L, s.l.drop s.at_.toNat = L := ⟨_, rfl⟩
    rw [hL] at hpart hlen' hbyL e
    have HP := Lib.hid hpart
    obtain ⟨A', c', rfl, _, _, _⟩ := hpart
    obtain ⟨hA, hB, hE⟩ := new2 w 78 #[.slice A s.l.length cp, .int .i64 s.at_, .int .i64 s.code, .int .i64 s.fat] 78 #[.slice none 0 0, .int .i64 0, .int .i64 0, .int .i64 0]
    have hget := ref04_Get _ _ _ _ (HP.out.ext hE) hbyL hlen'
    rw [e] at hget
    have HG := Lib.hid hget
    clear hget e hq hlen' hr hL hbyL
    by_cases c0 : C = 0
    · obtain ⟨g1, g2, g3, g4, g5⟩ := p1 c0
      subst c0
      rw [HV.out] at g1
      have HE := Lib.hid g1
      clear p1 p2 p3 g1 hc
      go_enter Try.func82, Try.ntmps82
      go_wp2_with (go_at_call 80; (with_reducible refine (HG.out).mono ?_); rintro r w2 ⟨rfl, hk2⟩; have hA3 := hA.kept hk2 trivial; have hB3 := hB.kept hk2 trivial; have d0 := hA3.cell 0; have d1 := hA3.cell 1; have d2 := hA3.cell 2; have d3 := hA3.cell 3; simp at d0 d1 d2 d3; have fd0 := hA3.frozen 0; have fd1 := hA3.frozen 1; have fd2 := hA3.frozen 2; have fd3 := hA3.frozen 3; have e0 := hB3.cell 0; have e1 := hB3.cell 1; have e2 := hB3.cell 2; have e3 := hB3.cell 3; simp at e0 e1 e2 e3; have fe0 := hB3.frozen 0; have fe1 := hB3.frozen 1; have fe2 := hB3.frozen 2; have fe3 := hB3.frozen 3; have lA := hA3.lt; have lB := hB3.lt)
      refine bodyPost_ret (v := .tuple #[CV (.slice A s.l.length cp) (s.adv N), .int .u64 X]) (by simp [results, Try.results82, go_sem, e0, e1, e2, e3, RS.adv, cell_alloc_lt, size_set, lA, lB]) rfl ⟨by rw [HE.out], ?_⟩
      repeat (first | with_reducible exact Kept.refl _ _ | refine Kept.set_new ?_ (by first | (simp; done) | (simp; omega) | omega) _ | refine Kept.alloc ?_ _ | refine Kept.drewN ?_ _ | refine Kept.drew ?_ | with_reducible assumption | (apply Kept.trans; rotate_left 1; with_reducible assumption))
    by_cases c1 : C = 1
    · have g1 := p2 c1
      subst c1
      rw [HV.out] at g1
      have HE := Lib.hid g1
      clear p1 p2 p3 g1 hc
      have hat : ∀ w, Calls Try.prog 131 #[.int .i64 1, .int .i64 s.l.length] w fun r w' => r = .returned (fltV (1, s.l.length)) ∧ Ext w w' := fun w => ref01_At 1 s.l.length w
      go_enter Try.func82, Try.ntmps82
      (go_wp2_with fail; (with_reducible refine (HG.out).mono ?_); rintro r w2 ⟨rfl, hk2⟩)
      have hA3 := hA.kept hk2 trivial
      have hB3 := hB.kept hk2 trivial
      have d0 := hA3.cell 0; have d1 := hA3.cell 1; have d2 := hA3.cell 2; have d3 := hA3.cell 3; simp at d0 d1 d2 d3; have fd0 := hA3.frozen 0; have fd1 := hA3.frozen 1; have fd2 := hA3.frozen 2; have fd3 := hA3.frozen 3
      have e0 := hB3.cell 0; have e1 := hB3.cell 1; have e2 := hB3.cell 2; have e3 := hB3.cell 3; simp at e0 e1 e2 e3; have fe0 := hB3.frozen 0; have fe1 := hB3.frozen 1; have fe2 := hB3.frozen 2; have fe3 := hB3.frozen 3
      have lA := hA3.lt
      have lB := hB3.lt
      (go_wp2_with fail; (with_reducible refine (hat _).mono ?_); rintro r w4 ⟨rfl, hk4⟩)
      have hA5 := ((hA3.set_ 1 (.int .i64 (s.l.length))).alloc (.cells #[.int .i64 1, .int .i64 Af] 57)).ext hk4
      have hB5 := ((hB3.far (p := ⟨w.heap.size, 1, none⟩) (by simp) (.int .i64 (s.l.length))).alloc (.cells #[.int .i64 1, .int .i64 Af] 57)).ext hk4
      have hF5 := (Blk.new' (w2.setCell ⟨w.heap.size, 1, none⟩ (.int .i64 (s.l.length))) 57 #[.int .i64 1, .int .i64 Af] w2.heap.size (size_set _ _ _)).ext hk4
      have k0 := hA5.cell 0; have k1 := hA5.cell 1; have k2 := hA5.cell 2; have k3 := hA5.cell 3; simp at k0 k1 k2 k3; have fk0 := hA5.frozen 0; have fk1 := hA5.frozen 1; have fk2 := hA5.frozen 2; have fk3 := hA5.frozen 3
      have m0 := hB5.cell 0; have m1 := hB5.cell 1; have m2 := hB5.cell 2; have m3 := hB5.cell 3; simp at m0 m1 m2 m3; have fm0 := hB5.frozen 0; have fm1 := hB5.frozen 1; have fm2 := hB5.frozen 2; have fm3 := hB5.frozen 3
      have n0 := hF5.cell 0; have n1 := hF5.cell 1; simp at n0 n1; have fn0 := hF5.frozen 0; have fn1 := hF5.frozen 1
      have lA5 := hA5.lt
      have lB5 := hB5.lt
      have lF5 := hF5.lt
      go_wp2
      refine bodyPost_ret (v := .tuple #[CV (.slice A s.l.length cp) { s with at_ := s.l.length, code := 1, fat := s.l.length }, .int .u64 0]) (by simp [results, Try.results82, go_sem, m0, m1, m2, m3, cell_alloc_lt, size_set, lA5, lB5]) rfl ⟨by rw [HE.out], ?_⟩
      repeat (first | with_reducible exact Kept.refl _ _ | refine Kept.set_new ?_ (by first | (simp; done) | (simp; omega) | omega) _ | refine Kept.alloc ?_ _ | refine Kept.drewN ?_ _ | refine Kept.drew ?_ | with_reducible assumption | (apply Kept.trans; rotate_left 1; with_reducible assumption))
    · obtain ⟨g1, g2, g3⟩ := p3 c0 c1
      rw [HV.out] at g1
      have HE := Lib.hid g1
      clear p1 p2 p3 g1 hc
      have t0 : (C == 0) = false := by simpa using c0
      have t1 : (C == 1) = false := by simpa using c1
      have t2 : (C != 1) = true := by simpa using c1
      have hat : ∀ w, Calls Try.prog 131 #[.int .i64 C, .int .i64 (s.at_ + Af + 1)] w fun r w' => r = .returned (fltV (C, s.at_ + Af + 1)) ∧ Ext w w' := fun w => by
        have := ref01_At C (s.at_ + Af + 1) w
        rwa [show flt C (s.at_ + Af + 1) = (C, s.at_ + Af + 1) by simp [flt, c0]] at this
      clear c0 c1
      go_enter Try.func82, Try.ntmps82
      (go_wp2_with fail; (with_reducible refine (HG.out).mono ?_); rintro r w2 ⟨rfl, hk2⟩)
      have hA3 := hA.kept hk2 trivial
      have hB3 := hB.kept hk2 trivial
      have d0 := hA3.cell 0; have d1 := hA3.cell 1; have d2 := hA3.cell 2; have d3 := hA3.cell 3; simp at d0 d1 d2 d3; have fd0 := hA3.frozen 0; have fd1 := hA3.frozen 1; have fd2 := hA3.frozen 2; have fd3 := hA3.frozen 3
      have e0 := hB3.cell 0; have e1 := hB3.cell 1; have e2 := hB3.cell 2; have e3 := hB3.cell 3; simp at e0 e1 e2 e3; have fe0 := hB3.frozen 0; have fe1 := hB3.frozen 1; have fe2 := hB3.frozen 2; have fe3 := hB3.frozen 3
      have lA := hA3.lt
      have lB := hB3.lt
      (go_wp2_with fail; (with_reducible refine (hat _).mono ?_); rintro r w4 ⟨rfl, hk4⟩)
      have hA5 := ((hA3.set_ 1 (.int .i64 (s.at_ + Af + 1))).alloc (.cells #[.int .i64 C, .int .i64 Af] 57)).ext hk4
      have hB5 := ((hB3.far (p := ⟨w.heap.size, 1, none⟩) (by simp) (.int .i64 (s.at_ + Af + 1))).alloc (.cells #[.int .i64 C, .int .i64 Af] 57)).ext hk4
      have hF5 := (Blk.new' (w2.setCell ⟨w.heap.size, 1, none⟩ (.int .i64 (s.at_ + Af + 1))) 57 #[.int .i64 C, .int .i64 Af] w2.heap.size (size_set _ _ _)).ext hk4
      have k0 := hA5.cell 0; have k1 := hA5.cell 1; have k2 := hA5.cell 2; have k3 := hA5.cell 3; simp at k0 k1 k2 k3; have fk0 := hA5.frozen 0; have fk1 := hA5.frozen 1; have fk2 := hA5.frozen 2; have fk3 := hA5.frozen 3
      have m0 := hB5.cell 0; have m1 := hB5.cell 1; have m2 := hB5.cell 2; have m3 := hB5.cell 3; simp at m0 m1 m2 m3; have fm0 := hB5.frozen 0; have fm1 := hB5.frozen 1; have fm2 := hB5.frozen 2; have fm3 := hB5.frozen 3
      have n0 := hF5.cell 0; have n1 := hF5.cell 1; simp at n0 n1; have fn0 := hF5.frozen 0; have fn1 := hF5.frozen 1
      have lA5 := hA5.lt
      have lB5 := hB5.lt
      have lF5 := hF5.lt
      have hA6 := ((hA5.set_ 2 (.int .i64 C)).set_ 3 (.int .i64 (s.at_ + Af + 1))).set_ 3 (.int .i64 (s.at_ + Af))
      have z0 := hA6.cell 0; have z1 := hA6.cell 1; have z2 := hA6.cell 2; have z3 := hA6.cell 3; simp at z0 z1 z2 z3
      go_wp2
      have ee : s.at_ + Af + 1 - 1 = s.at_ + Af := by omega
      refine bodyPost_ret (v := .tuple #[CV (.slice A s.l.length cp) { s with at_ := s.at_ + Af + 1, code := C, fat := s.at_ + Af }, .int .u64 0]) (by simp [results, Try.results82, go_sem, m0, m1, m2, m3, cell_alloc_lt, size_set, lA5, lB5, ee]) rfl ⟨by rw [HE.out], ?_⟩
      repeat (first | with_reducible exact Kept.refl _ _ | refine Kept.set_new ?_ (by first | (simp; done) | (simp; omega) | omega) _ | refine Kept.alloc ?_ _ | refine Kept.drewN ?_ _ | refine Kept.drew ?_ | with_reducible assumption | (apply Kept.trans; rotate_left 1; with_reducible assumption))
  · have hc' : (s.code != 0) = true := by simpa using hc
    rw [vint_bad hc] at HV
    obtain rfl := HV.out
    clear HV hc
    obtain ⟨hA, hB, hE⟩ := new2 w 78 #[.slice A s.l.length cp, .int .i64 s.at_, .int .i64 s.code, .int .i64 s.fat] 78 #[.slice none 0 0, .int .i64 0, .int .i64 0, .int .i64 0]
    have d0 := hA.cell 0; have d1 := hA.cell 1; have d2 := hA.cell 2; have d3 := hA.cell 3; simp at d0 d1 d2 d3; have fd0 := hA.frozen 0; have fd1 := hA.frozen 1; have fd2 := hA.frozen 2; have fd3 := hA.frozen 3; have e0 := hB.cell 0; have e1 := hB.cell 1; have e2 := hB.cell 2; have e3 := hB.cell 3; simp at e0 e1 e2 e3; have fe0 := hB.frozen 0; have fe1 := hB.frozen 1; have fe2 := hB.frozen 2; have fe3 := hB.frozen 3
    go_enter Try.func82, Try.ntmps82
    go_wp2
    refine bodyPost_ret (v := .tuple #[CV (.slice A s.l.length cp) s, .int .u64 0]) (by simp [results, Try.results82, go_sem]) rfl ⟨rfl, ?_⟩
    repeat (first | with_reducible exact Kept.refl _ _ | refine Kept.set_new ?_ (by first | (simp; done) | (simp; omega) | omega) _ | refine Kept.alloc ?_ _ | refine Kept.drewN ?_ _ | refine Kept.drew ?_ | with_reducible assumption | (apply Kept.trans; rotate_left 1; with_reducible assumption))
end Go.Proofs.Ytgphhganepjaiaa
