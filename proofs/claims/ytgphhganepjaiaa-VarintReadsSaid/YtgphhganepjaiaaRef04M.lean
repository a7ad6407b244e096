/-
  Contracts of the reference's Most and Int.
-/
import Derived.Test.YtgphhganepjaiaaRef04R
namespace Go.Proofs.Ytgphhganepjaiaa
open Go.RowKit

set_option maxRecDepth 100000 in
set_option maxHeartbeats 2000000 in
theorem ref04_Most (A : Option Addr) (cp : Nat) (s : RS) (m : Int) (F : Nat → Prop) (w : World) (hr : RdI .u8 w F (.slice A s.l.length cp) s.l) (h : ROk s) :
    Calls Try.prog 83 #[CV (.slice A s.l.length cp) s, .int .u64 m] w fun r w' => r = .returned (.tuple #[CV (.slice A s.l.length cp) (s.most m).1, .int .u64 (s.most m).2]) ∧ Ext w w' := by
  obtain ⟨hA, hB, hE⟩ := new2 w 78 #[.slice A s.l.length cp, .int .i64 s.at_, .int .i64 s.code, .int .i64 s.fat] 78 #[.slice none 0 0, .int .i64 0, .int .i64 0, .int .i64 0]
  have hread := ref04_Read A cp s F _ (hr.ext hE) h
  have hm : (m < s.vint.2 ∧ s.most m = (s.vint.1.fail 2 s.at_, 0)) ∨ (¬ m < s.vint.2 ∧ s.most m = s.vint) := by
    by_cases hm : m < s.vint.2
    · exact .inl ⟨hm, by unfold RS.most; rw [if_pos hm]⟩
    · exact .inr ⟨hm, by unfold RS.most; rw [if_neg hm]⟩
  obtain ⟨V, hV⟩ : ∃ V, s.vint = V := ⟨_, rfl⟩
  rw [hV] at hread hm
  clear hV
  obtain ⟨V, X⟩ := V
  simp only at hread hm
  have HR := Lib.hid hread
  clear hread hr
  obtain ⟨n, hn⟩ : ∃ n, s.l.length = n := ⟨_, rfl⟩
  simp only [hn] at *
  clear hn
  rcases hm with ⟨hm, e⟩ | ⟨hm, e⟩
  · rw [e]
    clear e
    go_enter Try.func83, Try.ntmps83
    (go_wp2_with fail; (with_reducible refine (HR.out).mono ?_); rintro r w1 ⟨rfl, hk1⟩)
    have hB1 := hB.ext hk1
    have lB := hB1.lt
    (go_wp2_with fail; (with_reducible refine (ref02_Fail A n cp V 2 s.at_ _).mono ?_); rintro r w2 ⟨rfl, hk2⟩)
    have hB2 := (hB1.alloc _).ext hk2
    have lB2 := hB2.lt
    have d0 := hB2.cell 0; have d1 := hB2.cell 1; have d2 := hB2.cell 2; have d3 := hB2.cell 3; simp at d0 d1 d2 d3; have fd0 := hB2.frozen 0; have fd1 := hB2.frozen 1; have fd2 := hB2.frozen 2; have fd3 := hB2.frozen 3
    go_wp2
    refine bodyPost_ret (v := .tuple #[CV (.slice A n cp) (V.fail 2 s.at_), .int .u64 0]) (by simp [results, Try.results83, go_sem, d0, d1, d2, d3, cell_alloc_lt, size_set, *]) rfl ⟨rfl, ?_⟩
    repeat (first | with_reducible exact Kept.refl _ _ | refine Kept.set_new ?_ (by first | (simp; done) | (simp; omega) | omega) _ | refine Kept.alloc ?_ _ | refine Kept.drewN ?_ _ | refine Kept.drew ?_ | with_reducible assumption | (apply Kept.trans; rotate_left 1; with_reducible assumption))
  · rw [e]
    clear e
    go_enter Try.func83, Try.ntmps83
    (go_wp2_with fail; (with_reducible refine (HR.out).mono ?_); rintro r w1 ⟨rfl, hk1⟩)
    have hB1 := hB.ext hk1
    have lB := hB1.lt
    have d0 := hB1.cell 0; have d1 := hB1.cell 1; have d2 := hB1.cell 2; have d3 := hB1.cell 3; simp at d0 d1 d2 d3; have fd0 := hB1.frozen 0; have fd1 := hB1.frozen 1; have fd2 := hB1.frozen 2; have fd3 := hB1.frozen 3
    go_wp2
    refine bodyPost_ret (v := .tuple #[CV (.slice A n cp) V, .int .u64 X]) (by simp [results, Try.results83, go_sem, d0, d1, d2, d3, cell_alloc_lt, size_set, *]) rfl ⟨rfl, ?_⟩
    repeat (first | with_reducible exact Kept.refl _ _ | refine Kept.set_new ?_ (by first | (simp; done) | (simp; omega) | omega) _ | refine Kept.alloc ?_ _ | refine Kept.drewN ?_ _ | refine Kept.drew ?_ | with_reducible assumption | (apply Kept.trans; rotate_left 1; with_reducible assumption))

set_option maxRecDepth 100000 in
set_option maxHeartbeats 2000000 in
theorem ref04_Int (A : Option Addr) (cp : Nat) (s : RS) (m : Int) (m1 : m < 9223372036854775808) (F : Nat → Prop) (w : World) (hr : RdI .u8 w F (.slice A s.l.length cp) s.l) (h : ROk s) :
    Calls Try.prog 84 #[CV (.slice A s.l.length cp) s, .int .i64 m] w fun r w' => r = .returned (.tuple #[CV (.slice A s.l.length cp) (s.int m).1, .int .i64 (s.int m).2]) ∧ Ext w w' := by
  obtain ⟨hA, hB, hE⟩ := new2 w 78 #[.slice A s.l.length cp, .int .i64 s.at_, .int .i64 s.code, .int .i64 s.fat] 78 #[.slice none 0 0, .int .i64 0, .int .i64 0, .int .i64 0]
  by_cases m0 : 0 ≤ m
  · have hx := most_range (m := m) h.bys m0
    have hread := ref04_Most A cp s m F _ (hr.ext hE) h
    have e : s.int m = s.most m := by unfold RS.int; rw [if_pos m0]
    rw [e]
    clear e
    obtain ⟨V, hV⟩ : ∃ V, s.most m = V := ⟨_, rfl⟩
    rw [hV] at hread hx ⊢
    clear hV
    obtain ⟨V, X⟩ := V
    simp only at hread hx
    have HR := Lib.hid hread
    clear hread hr
    obtain ⟨n, hn⟩ : ∃ n, s.l.length = n := ⟨_, rfl⟩
    simp only [hn] at *
    clear hn
    go_enter Try.func84, Try.ntmps84
    (go_wp2_with fail; (with_reducible refine (HR.out).mono ?_); rintro r w1 ⟨rfl, hk1⟩)
    have hB1 := hB.ext hk1
    have lB := hB1.lt
    have d0 := hB1.cell 0; have d1 := hB1.cell 1; have d2 := hB1.cell 2; have d3 := hB1.cell 3; simp at d0 d1 d2 d3; have fd0 := hB1.frozen 0; have fd1 := hB1.frozen 1; have fd2 := hB1.frozen 2; have fd3 := hB1.frozen 3
    go_wp2
    refine bodyPost_ret (v := .tuple #[CV (.slice A n cp) V, .int .i64 X]) (by simp [results, Try.results84, go_sem, d0, d1, d2, d3, cell_alloc_lt, size_set, *]) rfl ⟨rfl, ?_⟩
    repeat (first | with_reducible exact Kept.refl _ _ | refine Kept.set_new ?_ (by first | (simp; done) | (simp; omega) | omega) _ | refine Kept.alloc ?_ _ | refine Kept.drewN ?_ _ | refine Kept.drew ?_ | with_reducible assumption | (apply Kept.trans; rotate_left 1; with_reducible assumption))
  · have hread := ref04_Read A cp s F _ (hr.ext hE) h
    have e : s.int m = (s.vint.1.fail 2 s.at_, 0) := by unfold RS.int; rw [if_neg m0]
    rw [e]
    clear e
    obtain ⟨V, hV⟩ : ∃ V, s.vint = V := ⟨_, rfl⟩
    rw [hV] at hread ⊢
    clear hV
    obtain ⟨V, X⟩ := V
    simp only at hread
    have HR := Lib.hid hread
    clear hread hr
    obtain ⟨n, hn⟩ : ∃ n, s.l.length = n := ⟨_, rfl⟩
    simp only [hn] at *
    clear hn
    go_enter Try.func84, Try.ntmps84
    (go_wp2_with fail; (with_reducible refine (HR.out).mono ?_); rintro r w1 ⟨rfl, hk1⟩)
    have hA1 := hA.ext hk1
    have lA := hA1.lt
    have hB1 := hB.ext hk1
    have lB := hB1.lt
    have k0 := hA1.cell 0; have k1 := hA1.cell 1; have k2 := hA1.cell 2; have k3 := hA1.cell 3; simp at k0 k1 k2 k3; have fk0 := hA1.frozen 0; have fk1 := hA1.frozen 1; have fk2 := hA1.frozen 2; have fk3 := hA1.frozen 3
    (go_wp2_with fail; (with_reducible refine (ref02_Fail A n cp V 2 s.at_ _).mono ?_); rintro r w2 ⟨rfl, hk2⟩)
    have hB2 := (hB1.alloc _).ext hk2
    have lB2 := hB2.lt
    have d0 := hB2.cell 0; have d1 := hB2.cell 1; have d2 := hB2.cell 2; have d3 := hB2.cell 3; simp at d0 d1 d2 d3; have fd0 := hB2.frozen 0; have fd1 := hB2.frozen 1; have fd2 := hB2.frozen 2; have fd3 := hB2.frozen 3
    go_wp2
    refine bodyPost_ret (v := .tuple #[CV (.slice A n cp) (V.fail 2 s.at_), .int .i64 0]) (by simp [results, Try.results84, go_sem, d0, d1, d2, d3, cell_alloc_lt, size_set, *]) rfl ⟨rfl, ?_⟩
    repeat (first | with_reducible exact Kept.refl _ _ | refine Kept.set_new ?_ (by first | (simp; done) | (simp; omega) | omega) _ | refine Kept.alloc ?_ _ | refine Kept.drewN ?_ _ | refine Kept.drew ?_ | with_reducible assumption | (apply Kept.trans; rotate_left 1; with_reducible assumption))
end Go.Proofs.Ytgphhganepjaiaa
