/-
  Contracts of varint.ReadMost, ReadInt and Get.
-/
import Derived.Test.YtgphhganepjaiaaVarR
namespace Go.Proofs.Ytgphhganepjaiaa
open Go.RowKit

def RS.most (s : RS) (m : Int) : RS × Int := if m < s.vint.2 then (s.vint.1.fail 2 s.at_, 0) else s.vint
def RS.int (s : RS) (m : Int) : RS × Int := if 0 ≤ m then s.most m else (s.vint.1.fail 2 s.at_, 0)

theorem vint_range {s : RS} (hb : Bys s.l) : 0 ≤ s.vint.2 ∧ s.vint.2 < 18446744073709551616 := by
  unfold RS.vint
  split
  · split
    · rename_i h1 h2
      have := vgo_back (l := s.rest) (hb.drop _) h2
      exact ⟨this.2.2.2.1, this.2.2.2.2⟩
    · split <;> simp
  · simp

set_option maxHeartbeats 400000 in
theorem varint_ReadMost {B : Nat → Prop} (g : Nat) (s : RS) (m : Int) (m0 : 0 ≤ m) (w : World) (h : Rdr B w g s) :
    Calls Try.prog 86 #[ptr g, .int .u64 m] w fun r w' => r = .returned (.int .u64 (s.most m).2) ∧ Kept (· ≠ g) w w' ∧ Rdr B w' g (s.most m).1 := by
  have hx := vint_range h.bys
  by_cases hm : m < s.vint.2
  · have e : s.most m = (s.vint.1.fail 2 s.at_, 0) := by unfold RS.most; rw [if_pos hm]
    rw [e]
    clear e
    go_enter Try.func86, Try.ntmps86
    go_wp2_with (first
      | (go_at_call 79; (with_reducible refine (Reader_At g s _ h).mono ?_); rintro r w' ⟨rfl, rfl⟩)
      | (go_at_call 85; (with_reducible refine (varint_Read g s _ h).mono ?_); rintro r w1 ⟨rfl, hk1, hr1⟩)
      | (go_at_call 132; (with_reducible refine (Reader_Fail g _ _ _ _ hr1).mono ?_); rintro r w2 ⟨rfl, hk2, hr2⟩))
    go_ret
    exact ⟨rfl, hk1.trans hk2, hr2⟩
  · have e : s.most m = s.vint := by unfold RS.most; rw [if_neg hm]
    rw [e]
    clear e
    go_enter Try.func86, Try.ntmps86
    go_wp2_with (first
      | (go_at_call 79; (with_reducible refine (Reader_At g s _ h).mono ?_); rintro r w' ⟨rfl, rfl⟩)
      | (go_at_call 85; (with_reducible refine (varint_Read g s _ h).mono ?_); rintro r w1 ⟨rfl, hk1, hr1⟩))
    go_ret
    exact ⟨rfl, hk1, hr1⟩

theorem most_range {s : RS} {m : Int} (hb : Bys s.l) (h0 : 0 ≤ m) : 0 ≤ (s.most m).2 ∧ (s.most m).2 ≤ m := by
  have := vint_range hb
  unfold RS.most
  split
  · simp; exact h0
  · omega

set_option maxHeartbeats 400000 in
theorem varint_ReadInt {B : Nat → Prop} (g : Nat) (s : RS) (m : Int) (h1 : m < 9223372036854775808) (w : World) (h : Rdr B w g s) :
    Calls Try.prog 87 #[ptr g, .int .i64 m] w fun r w' => r = .returned (.int .i64 (s.int m).2) ∧ Kept (· ≠ g) w w' ∧ Rdr B w' g (s.int m).1 := by
  by_cases m0 : 0 ≤ m
  · have hx := most_range (m := m) h.bys m0
    have e : s.int m = s.most m := by unfold RS.int; rw [if_pos m0]
    rw [e]
    clear e
    go_enter Try.func87, Try.ntmps87
    go_wp2_with (go_at_call 86; (with_reducible refine (varint_ReadMost g s m m0 _ h).mono ?_); rintro r w1 ⟨rfl, hk1, hr1⟩)
    go_ret
    exact ⟨rfl, hk1, hr1⟩
  · have e : s.int m = (s.vint.1.fail 2 s.at_, 0) := by unfold RS.int; rw [if_neg m0]
    rw [e]
    clear e
    go_enter Try.func87, Try.ntmps87
    go_wp2_with (first
      | (go_at_call 79; (with_reducible refine (Reader_At g s _ h).mono ?_); rintro r w' ⟨rfl, rfl⟩)
      | (go_at_call 85; (with_reducible refine (varint_Read g s _ h).mono ?_); rintro r w1 ⟨rfl, hk1, hr1⟩)
      | (go_at_call 132; (with_reducible refine (Reader_Fail g _ _ _ _ hr1).mono ?_); rintro r w2 ⟨rfl, hk2, hr2⟩))
    go_ret
    exact ⟨rfl, hk1.trans hk2, hr2⟩

/-- The number at the front of bytes, how many bytes it has, the fault. -/
def vGet (l : List Int) : Int × Int × (Int × Int) := if (vgo 0 l).1 = 0 then ((vgo 0 l).2.2, (vgo 0 l).2.1, (0, 0)) else (0, 0, ((vgo 0 l).1, (vgo 0 l).2.1))
abbrev vGetV (q : Int × Int × (Int × Int)) : Value := .tuple #[.int .u64 q.1, .int .i64 q.2.1, fltV q.2.2]
theorem new_rest (l : List Int) : (RS.new l).rest = l := by simp [RS.rest, RS.new]
theorem vint_new_good {l : List Int} (h : (vgo 0 l).1 = 0) : (RS.new l).vint = ((RS.new l).adv (vgo 0 l).2.1, (vgo 0 l).2.2) := by
  unfold RS.vint; rw [new_rest, if_pos (show (RS.new l).code = 0 from rfl), if_pos h]
theorem vint_new_bad {l : List Int} (h : (vgo 0 l).1 ≠ 0) : (RS.new l).vint.1.code = (vgo 0 l).1 ∧ (RS.new l).vint.1.fat = (vgo 0 l).2.1 ∧ (RS.new l).vint.2 = 0 := by
  unfold RS.vint; rw [new_rest, if_pos (show (RS.new l).code = 0 from rfl), if_neg h]
  have hf := vgo_fault l 0 (Int.le_refl _) h
  by_cases h1 : (vgo 0 l).1 = 1
  · rw [if_pos h1]
    rcases hf.2.2 with ⟨_, e⟩ | ⟨e, _⟩
    · refine ⟨h1.symm, ?_, rfl⟩; simp only [RS.new]; omega
    · omega
  · rw [if_neg h1]; exact ⟨rfl, by simp [RS.new], rfl⟩

theorem cursor_New' (v : Value) (l : List Int) (F : Nat → Prop) (w : World) (g : Nat) (hg : w.heap.size = g) (h : RdI .u8 w F v l) (hl : Bys l) (hn : l.length ≤ 140737488355328) :
    Calls Try.prog 73 #[v] w fun r w' => r = .returned (ptr g) ∧ Ext w w' ∧ Rdr F w' g (RS.new l) ∧ g < w'.heap.size := by
  subst hg; exact cursor_New v l F w h hl hn
theorem pen_New' (most : Int) (w : World) (g : Nat) (hg : w.heap.size = g) (h0 : -9223372036854775808 ≤ most) (h1 : most < 9223372036854775808) :
    Calls Try.prog 37 #[.int .i64 most] w fun r w' => r = .returned (ptr g) ∧ Ext w w' ∧ Wtr w' g g (.slice none 0 0) (WS.new most) ∧ g < w'.heap.size := by
  subst hg; exact pen_New most w h0 h1

set_option maxRecDepth 100000 in
set_option maxHeartbeats 400000 in
theorem varint_Get (v : Value) (l : List Int) (F : Nat → Prop) (w : World) (h : RdI .u8 w F v l) (hl : Bys l) (hn : l.length ≤ 140737488355328) :
    Calls Try.prog 64 #[v] w fun r w' => r = .returned (vGetV (vGet l)) ∧ Ext w w' := by
  by_cases hc : (vgo 0 l).1 = 0
  · have e : vGet l = ((vgo 0 l).2.2, (vgo 0 l).2.1, (0, 0)) := by unfold vGet; rw [if_pos hc]
    have ev := vint_new_good hc
    rw [e]
    generalize (vgo 0 l).2.2 = X at *
    generalize (vgo 0 l).2.1 = n at *
    have hgood : ((RS.new l).adv n).good = true := by simp [RS.good, RS.adv, RS.new]
    have hat : ((RS.new l).adv n).at_ = n := by simp [RS.adv, RS.new]
    obtain ⟨s1, hs1⟩ : ∃ s1, (RS.new l).adv n = s1 := ⟨_, rfl⟩
    rw [hs1] at hgood hat ev
    have HE := Lib.hid ev
    have HV := Lib.hid h
    obtain ⟨A, c, rfl, _, _, _⟩ := h
    clear ev hs1 e hc
    go_enter Try.func64, Try.ntmps64
    have hbA := Blk.new w 57 #[.int .i64 0, .int .i64 0]
    (go_wp2_with fail; (with_reducible refine (cursor_New' _ l F _ (w.heap.size + 1) (by simp) (HV.out.ext ((Kept.refl _ w).alloc _)) hl hn).mono ?_); rintro r w1 ⟨rfl, hk1, hr1, hs1⟩)
    have hread := varint_Read _ _ _ hr1
    rw [HE.out] at hread
    have HR := Lib.hid hread
    clear hread
    (go_wp2_with fail; (with_reducible refine (HR.out).mono ?_); rintro r w2 ⟨rfl, hk2, hr2⟩)
    (go_wp2_with fail; (with_reducible refine (Reader_Good _ s1 _ hr2).mono ?_); rintro r w3 ⟨rfl, hk3⟩)
    have hb1 := ((hbA.kept hk1 trivial).kept hk2 (by omega)).kept hk3 trivial
    have d0 := hb1.cell 0
    have d1 := hb1.cell 1
    have f0 := hb1.frozen 0
    have f1 := hb1.frozen 1
    simp at d0 d1
    go_wp2_with (go_at_call 79; (with_reducible refine (Reader_At _ s1 _ (hr2.ext hk3)).mono ?_); rintro r w' ⟨rfl, rfl⟩)
    have hbF := (hb1.set_ 0 (.int .i64 0)).set_ 1 (.int .i64 0)
    have q0 := hbF.cell 0
    have q1 := hbF.cell 1
    simp at q0 q1
    refine bodyPost_ret (v := vGetV (X, n, (0, 0))) (by simp [results, Try.results64, go_sem, q0, q1]) rfl ⟨rfl, ?_⟩
    exact (((Kept.refl _ w).alloc _).trans hk1).trans_ext (((hk2.mono (fun i _ (hi : i < w.heap.size) => by omega)).trans hk3.any).setCell (fun _ h => by simp at h) _ |>.setCell (fun _ h => by simp at h) _)
  · have e : vGet l = (0, 0, ((vgo 0 l).1, (vgo 0 l).2.1)) := by unfold vGet; rw [if_neg hc]
    obtain ⟨ev1, ev2, ev3⟩ := vint_new_bad hc
    rw [e]
    generalize (vgo 0 l).1 = C at *
    generalize (vgo 0 l).2.1 = n at *
    obtain ⟨s1, hs1⟩ : ∃ s1, (RS.new l).vint.1 = s1 := ⟨_, rfl⟩
    rw [hs1] at ev1 ev2
    have ev : (RS.new l).vint = (s1, 0) := by rw [← hs1, ← ev3]
    have hgood : s1.good = false := by simp [RS.good, ev1, hc]
    have HE := Lib.hid ev
    have HV := Lib.hid h
    obtain ⟨A, c, rfl, _, _, _⟩ := h
    clear ev hs1 e hc ev3
    go_enter Try.func64, Try.ntmps64
    have hbA := Blk.new w 57 #[.int .i64 0, .int .i64 0]
    (go_wp2_with fail; (with_reducible refine (cursor_New' _ l F _ (w.heap.size + 1) (by simp) (HV.out.ext ((Kept.refl _ w).alloc _)) hl hn).mono ?_); rintro r w1 ⟨rfl, hk1, hr1, hs1⟩)
    have hread := varint_Read _ _ _ hr1
    rw [HE.out] at hread
    have HR := Lib.hid hread
    clear hread
    (go_wp2_with fail; (with_reducible refine (HR.out).mono ?_); rintro r w2 ⟨rfl, hk2, hr2⟩)
    (go_wp2_with fail; (with_reducible refine (Reader_Good _ s1 _ hr2).mono ?_); rintro r w3 ⟨rfl, hk3⟩)
    (go_wp2_with fail; (with_reducible refine (Reader_Fault _ s1 _ (hr2.ext hk3)).mono ?_); rintro r w4 ⟨rfl, hk4⟩)
    have hb1 := (((hbA.kept hk1 trivial).kept hk2 (by omega)).kept hk3 trivial).kept hk4 trivial
    have d0 := hb1.cell 0
    have d1 := hb1.cell 1
    have f0 := hb1.frozen 0
    have f1 := hb1.frozen 1
    simp at d0 d1
    go_wp2
    have hbF := (hb1.set_ 0 (.int .i64 C)).set_ 1 (.int .i64 n)
    have q0 := hbF.cell 0
    have q1 := hbF.cell 1
    simp at q0 q1
    refine bodyPost_ret (v := vGetV (0, 0, (C, n))) (by simp [results, Try.results64, go_sem, q0, q1]) rfl ⟨rfl, ?_⟩
    exact (((Kept.refl _ w).alloc _).trans hk1).trans_ext ((((hk2.mono (fun i _ (hi : i < w.heap.size) => by omega)).trans hk3.any).trans hk4.any).setCell (fun _ h => by simp at h) _ |>.setCell (fun _ h => by simp at h) _)
end Go.Proofs.Ytgphhganepjaiaa
