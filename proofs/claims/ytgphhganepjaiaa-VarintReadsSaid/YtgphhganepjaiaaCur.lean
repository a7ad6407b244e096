/-
  Contracts of fault.At, fault.Good and of the cursor's reader, against plain functions on a reader's bytes, place and fault.
-/
import Derived.Test.YtgphhganepjaiaaBase
import Derived.Test.YtgphhganepjaiaaMem2
import Derived.Deep.RegionHeld3
import Derived.Deep.QuietTactic
import Derived.BigQuiet
namespace Go.Proofs.Ytgphhganepjaiaa
open Go.RowKit

def flt (c a : Int) : Int × Int := if c = 0 then (0, 0) else (c, a)
abbrev fltV (f : Int × Int) : Value := .agg #[.int .i64 f.1, .int .i64 f.2]
def RS.fail (s : RS) (c a : Int) : RS := if s.code = 0 then { s with code := (flt c a).1, fat := (flt c a).2 } else s
def RS.good (s : RS) : Bool := s.code == 0
def RS.left (s : RS) : Int := s.l.length - s.at_
def RS.skip (s : RS) (n : Int) : RS × Bool :=
  if s.code = 0 then (if n < 0 then (s.fail 17 s.at_, false) else if s.left < n then (s.fail 1 s.l.length, false) else ({ s with at_ := s.at_ + n }, true)) else (s, false)
def RS.byte (s : RS) : RS × Int := if (s.skip 1).2 = true then ((s.skip 1).1, s.l.getD s.at_.toNat 0) else ((s.skip 1).1, 0)
def RS.take (s : RS) (n : Int) : RS × List Int := if (s.skip n).2 = true then ((s.skip n).1, (s.l.drop s.at_.toNat).take n.toNat) else ((s.skip n).1, [])

set_option maxHeartbeats 400000 in
theorem fault_At (c a : Int) (w : World) :
    Calls Try.prog 130 #[.int .i64 c, .int .i64 a] w fun r w' => r = .returned (fltV (flt c a)) ∧ Ext w w' := by
  by_cases h : c = 0
  · subst h
    go_enter Try.func130, Try.ntmps130
    go_wp2
    exact bodyPost_ret (v := fltV (flt 0 a)) (by simp [results, Try.results130, go_sem, flt]) rfl ⟨rfl, (Kept.refl _ _).alloc _⟩
  · have h' : (c == 0) = false := by simpa using h
    have hf : flt c a = (c, a) := by simp [flt, h]
    rw [hf]
    clear h
    go_enter Try.func130, Try.ntmps130
    go_wp2
    exact bodyPost_ret (v := fltV (c, a)) (by simp [results, Try.results130, go_sem]) rfl ⟨rfl, (Kept.refl _ _).alloc _⟩

set_option maxHeartbeats 400000 in
theorem fault_Good (c a : Int) (w : World) :
    Calls Try.prog 138 #[.agg #[.int .i64 c, .int .i64 a]] w fun r w' => r = .returned (.bool (c == 0)) ∧ Ext w w' := by
  go_enter Try.func138, Try.ntmps138
  go_wp2
  go_ret
  exact ⟨rfl, (Kept.refl _ _).alloc _⟩

set_option maxHeartbeats 400000 in
theorem Reader_Good {B : Nat → Prop} (g : Nat) (s : RS) (w : World) (h : Rdr B w g s) :
    Calls Try.prog 102 #[ptr g] w fun r w' => r = .returned (.bool s.good) ∧ Ext w w' := by
  obtain ⟨v, hb, _, _, _, _, _⟩ := h
  have c2 := hb.cell 2
  have c3 := hb.cell 3
  simp at c2 c3
  go_enter Try.func102, Try.ntmps102
  go_wp2_with (go_at_call 138; (with_reducible refine (fault_Good _ _ _).mono ?_); rintro r w' ⟨rfl, hk⟩)
  go_ret
  exact ⟨rfl, hk⟩

set_option maxHeartbeats 400000 in
theorem Reader_Fault {B : Nat → Prop} (g : Nat) (s : RS) (w : World) (h : Rdr B w g s) :
    Calls Try.prog 78 #[ptr g] w fun r w' => r = .returned (fltV (s.code, s.fat)) ∧ Ext w w' := by
  obtain ⟨v, hb, _, _, _, _, _⟩ := h
  have c2 := hb.cell 2
  have c3 := hb.cell 3
  have hlt := hb.lt
  simp at c2 c3
  go_enter Try.func78, Try.ntmps78
  go_wp2
  exact bodyPost_ret (v := fltV (s.code, s.fat)) (by simp [results, Try.results78, go_sem]) rfl ⟨rfl, (Kept.refl _ _).alloc _⟩

set_option maxHeartbeats 400000 in
theorem Reader_At {B : Nat → Prop} (g : Nat) (s : RS) (w : World) (h : Rdr B w g s) :
    Calls Try.prog 79 #[ptr g] w fun r w' => r = .returned (.int .i64 s.at_) ∧ w = w' := by
  obtain ⟨v, hb, _, _, _, _, _⟩ := h
  have c1 := hb.cell 1
  simp at c1
  go_enter Try.func79, Try.ntmps79
  go_wp2
  go_ret
  exact ⟨rfl, rfl⟩

set_option maxHeartbeats 400000 in
theorem Reader_Left {B : Nat → Prop} (g : Nat) (s : RS) (w : World) (h : Rdr B w g s) :
    Calls Try.prog 111 #[ptr g] w fun r w' => r = .returned (.int .i64 s.left) ∧ ∃ n, w' = w.drewN n := by
  obtain ⟨v, hb, ⟨A, c, rfl, _, _, _⟩, _, h1, h2, h3⟩ := h
  have c0 := hb.cell 0
  have c1 := hb.cell 1
  simp at c0 c1
  have e : IntKind.i64.wrap ((s.l.length : Int) - s.at_) = (s.l.length : Int) - s.at_ := IntWalk.i64_in _ (by omega)
  go_enter Try.func111, Try.ntmps111
  go_wp2
  go_quiet (fail)
  go_wp2
  go_ret
  exact ⟨rfl, _, rfl⟩

set_option maxHeartbeats 400000 in
theorem Reader_Fail {B : Nat → Prop} (g : Nat) (s : RS) (c a : Int) (w : World) (h : Rdr B w g s) :
    Calls Try.prog 132 #[ptr g, .int .i64 c, .int .i64 a] w fun r w' => r = .returned (.tuple #[]) ∧ Kept (· ≠ g) w w' ∧ Rdr B w' g (s.fail c a) := by
  have h0 := h
  obtain ⟨v, hb, hr, h1, h2, h3, h4⟩ := h
  by_cases hc : s.code = 0
  · have hg : s.good = true := by simp [RS.good, hc]
    have hf : s.fail c a = { s with code := (flt c a).1, fat := (flt c a).2 } := by simp [RS.fail, hc]
    rw [hf]
    clear hc hf
    go_enter Try.func132, Try.ntmps132
    go_wp2_with (go_at_call 102; (with_reducible refine (Reader_Good g s _ h0).mono ?_); rintro r w1 ⟨rfl, hk1⟩)
    have hb1 := hb.kept hk1 trivial
    go_wp2_with (go_at_call 130; (with_reducible refine (fault_At _ _ _).mono ?_); rintro r w2 ⟨rfl, hk2⟩; have hb2 := hb1.kept hk2 trivial; have d2 := hb2.cell 2; have d3 := hb2.cell 3; have f2 := hb2.frozen 2; have f3 := hb2.frozen 3; simp at d2 d3)
    go_end0
    refine ⟨rfl, ((((hk1.trans hk2).any).setCell (by simp) _).setCell (by simp) _), v, ?_, ?_, h1, h2, h3, h4⟩
    · exact (hb2.set_ 2 _).set_ 3 _
    · exact hr.kept ((((hk1.trans hk2).any).setCell (by simp) _).setCell (by simp) _) fun i _ hi => hi.1
  · have hg : s.good = false := by simp [RS.good, hc]
    have hf : s.fail c a = s := by simp [RS.fail, hc]
    rw [hf]
    clear hc hf
    go_enter Try.func132, Try.ntmps132
    go_wp2_with (go_at_call 102; (with_reducible refine (Reader_Good g s _ h0).mono ?_); rintro r w1 ⟨rfl, hk1⟩)
    go_end0
    exact ⟨rfl, hk1.any, h0.ext hk1⟩

set_option maxHeartbeats 400000 in
theorem Reader_Skip {B : Nat → Prop} (g : Nat) (s : RS) (n : Int) (w : World) (h : Rdr B w g s) :
    Calls Try.prog 81 #[ptr g, .int .i64 n] w fun r w' => r = .returned (.bool (s.skip n).2) ∧ Kept (· ≠ g) w w' ∧ Rdr B w' g (s.skip n).1 := by
  have h0 := h
  obtain ⟨v, hb, hr, h1, h2, h3, h4⟩ := h
  by_cases hc : s.code = 0
  · have hg : s.good = true := by simp [RS.good, hc]
    by_cases hn : n < 0
    · have hf : s.skip n = (s.fail 17 s.at_, false) := by simp [RS.skip, hc, hn]
      rw [hf]
      clear hc hf
      go_enter Try.func81, Try.ntmps81
      go_wp2_with (first
        | (go_at_call 102; (with_reducible refine (Reader_Good g s _ h0).mono ?_); rintro r w1 ⟨rfl, hk1⟩; have hb1 := hb.kept hk1 trivial; have d1 := hb1.cell 1; simp at d1)
        | (go_at_call 132; (with_reducible refine (Reader_Fail g s _ _ _ (h0.ext hk1)).mono ?_); rintro r w2 ⟨rfl, hk2, hr2⟩))
      go_ret
      exact ⟨rfl, hk1.any.trans hk2, hr2⟩
    · by_cases hl : s.left < n
      · have hf : s.skip n = (s.fail 1 s.l.length, false) := by simp [RS.skip, hc, hn, hl]
        rw [hf]
        clear hc hf
        obtain ⟨A, cc, rfl, _, _, _⟩ := hr
        go_enter Try.func81, Try.ntmps81
        go_wp2_with (first
          | (go_at_call 102; (with_reducible refine (Reader_Good g s _ h0).mono ?_); rintro r w1 ⟨rfl, hk1⟩; have hb1 := hb.kept hk1 trivial; have d1 := hb1.cell 1; have d0 := hb1.cell 0; simp at d1 d0)
          | (go_at_call 111; (with_reducible refine (Reader_Left g s _ (h0.ext hk1)).mono ?_); rintro r w2 ⟨rfl, nn, rfl⟩)
          | (go_at_call 132; (with_reducible refine (Reader_Fail g s _ _ _ ((h0.ext hk1).drewN _)).mono ?_); rintro r w2 ⟨rfl, hk2, hr2⟩))
        go_ret
        exact ⟨rfl, (hk1.any.drewN _).trans hk2, hr2⟩
      · have hf : s.skip n = ({ s with at_ := s.at_ + n }, true) := by simp [RS.skip, hc, hn, hl]
        rw [hf]
        clear hc hf
        have hb1 : s.at_ + n ≤ s.l.length := by unfold RS.left at hl; omega
        go_enter Try.func81, Try.ntmps81
        go_wp2_with (first
          | (go_at_call 102; (with_reducible refine (Reader_Good g s _ h0).mono ?_); rintro r w1 ⟨rfl, hk1⟩; have hb1 := hb.kept hk1 trivial; have d1 := hb1.cell 1; have f1 := hb1.frozen 1; simp at d1)
          | (go_at_call 111; (with_reducible refine (Reader_Left g s _ (h0.ext hk1)).mono ?_); rintro r w2 ⟨rfl, nn, rfl⟩))
        go_ret
        refine ⟨rfl, (hk1.any.drewN _).setCell (by simp) _, v, (hb1.drewN _).set_ 1 _, hr.kept ((hk1.any.drewN _).setCell (by simp) _) fun i _ hi => hi.1, h1, ?_, ?_, h4⟩ <;> simp only <;> omega
  · have hg : s.good = false := by simp [RS.good, hc]
    have hf : s.skip n = (s, false) := by simp [RS.skip, hc]
    rw [hf]
    clear hc hf
    go_enter Try.func81, Try.ntmps81
    go_wp2_with (go_at_call 102; (with_reducible refine (Reader_Good g s _ h0).mono ?_); rintro r w1 ⟨rfl, hk1⟩)
    go_ret
    exact ⟨rfl, hk1.any, h0.ext hk1⟩

set_option maxHeartbeats 400000 in
theorem Reader_Byte {B : Nat → Prop} (g : Nat) (s : RS) (w : World) (h : Rdr B w g s) :
    Calls Try.prog 133 #[ptr g] w fun r w' => r = .returned (.int .u8 s.byte.2) ∧ Kept (· ≠ g) w w' ∧ Rdr B w' g s.byte.1 := by
  have hs := Reader_Skip g s 1 w h
  have hsk : ∀ b, (s.skip 1).2 = b → (b = true ∧ (s.skip 1).1 = { s with at_ := s.at_ + 1 } ∧ s.at_ + 1 ≤ s.l.length) ∨ b = false := by
    intro b hb
    unfold RS.skip at *
    split
    · rename_i h0
      rw [if_pos h0] at hb
      split
      · rename_i h1; rw [if_pos h1] at hb; right; exact hb.symm
      · rename_i h1
        rw [if_neg h1] at hb
        split
        · rename_i h2; rw [if_pos h2] at hb; right; exact hb.symm
        · rename_i h2; rw [if_neg h2] at hb; left; exact ⟨hb.symm, rfl, by unfold RS.left at h2; omega⟩
    · rename_i h0; rw [if_neg h0] at hb; right; exact hb.symm
  have hB : s.byte = if (s.skip 1).2 = true then ((s.skip 1).1, s.l.getD s.at_.toNat 0) else ((s.skip 1).1, 0) := rfl
  obtain ⟨_, _, _, _, hat, _, _⟩ := h
  rcases hsk _ rfl with ⟨e1, e2, e3⟩ | e1
  · rw [hB, if_pos e1]
    rw [e1, e2] at hs
    rw [e2]
    clear hB hsk e1 e2
    have HS := Lib.hid hs
    clear hs
    obtain ⟨x, hx⟩ : ∃ x, s.l.getD s.at_.toNat 0 = x := ⟨_, rfl⟩
    rw [hx]
    have HX := Lib.hid hx
    clear hx
    go_enter Try.func133, Try.ntmps133
    go_wp2_with (go_at_call 81; (with_reducible refine (HS.out).mono ?_); rintro r w1 ⟨rfl, hk1, hr1⟩)
    have hr1' := hr1
    obtain ⟨v, hb, ⟨A, c, hv, _, hcm, hA⟩, k1, k2, k3, k4⟩ := hr1
    simp only at hv hA k2 k3 k4 hb
    obtain ⟨b, o, rfl, hbg, hcell⟩ := hA (by omega)
    subst hv
    have ck := hcell s.at_.toNat (by omega)
    rw [HX.out] at ck
    have c0 := hb.cell 0
    have c1 := hb.cell 1
    simp at c0 c1
    have e : IntKind.i64.wrap (s.at_ + 1 - 1) = s.at_ := by rw [IntWalk.i64_in _ (by omega)]; omega
    have i0 : s.at_ < (s.l.length : Int) := by omega
    clear hcell hA hbg HS
    go_quiet (fail)
    go_wp2
    go_ret
    exact ⟨rfl, hk1.drewN _, hr1'.drewN _⟩
  · rw [hB, if_neg (by simp [e1])]
    rw [e1] at hs
    clear hB hsk e1
    have HS := Lib.hid hs
    clear hs
    go_enter Try.func133, Try.ntmps133
    go_wp2_with (go_at_call 81; (with_reducible refine (HS.out).mono ?_); rintro r w1 ⟨rfl, hk1, hr1⟩)
    go_ret
    exact ⟨rfl, hk1, hr1⟩

theorem skip_parts (s : RS) (n : Int) (b : Bool) (hb : (s.skip n).2 = b) (hat : s.at_ ≤ s.l.length) : (b = true ∧ (s.skip n).1 = { s with at_ := s.at_ + n } ∧ 0 ≤ n ∧ s.at_ + n ≤ s.l.length) ∨ b = false := by
  unfold RS.skip at *
  split
  · rename_i h0
    rw [if_pos h0] at hb
    split
    · rename_i h1; rw [if_pos h1] at hb; right; exact hb.symm
    · rename_i h1
      rw [if_neg h1] at hb
      split
      · rename_i h2; rw [if_pos h2] at hb; right; exact hb.symm
      · rename_i h2; rw [if_neg h2] at hb; left; exact ⟨hb.symm, rfl, by omega, by unfold RS.left at h2; omega⟩
  · rename_i h0; rw [if_neg h0] at hb; right; exact hb.symm

set_option maxRecDepth 100000 in
set_option maxHeartbeats 1000000 in
theorem Reader_Take {B : Nat → Prop} (g : Nat) (s : RS) (n : Int) (w : World) (h : Rdr B w g s) :
    Calls Try.prog 137 #[ptr g, .int .i64 n] w fun r w' => ∃ v, r = .returned v ∧ OwnI .u8 5 w' w.heap.size v (s.take n).2 ∧ (0 < (s.take n).2.length → ∃ b, v.ownBlock = some b) ∧ Kept (· ≠ g) w w' ∧ Rdr B w' g (s.take n).1 := by
  have hs := Reader_Skip g s n w h
  have hT : s.take n = if (s.skip n).2 = true then ((s.skip n).1, (s.l.drop s.at_.toNat).take n.toNat) else ((s.skip n).1, []) := rfl
  obtain ⟨i0, hi, hz0, hz1, hz2⟩ := info_parts infoU8
  have hlt : g < w.heap.size := by obtain ⟨_, hb, _⟩ := h; exact hb.lt
  obtain ⟨_, _, _, _, hat, hat2, _⟩ := h
  rcases skip_parts s n _ rfl hat2 with ⟨e1, e2, e3, e4⟩ | e1
  · rw [hT, if_pos e1]
    rw [e1, e2] at hs
    rw [e2]
    clear hT e1 e2
    have HS := Lib.hid hs
    clear hs
    generalize hm : (s.l.drop s.at_.toNat).take n.toNat = m
    have HM := Lib.hid hm
    clear hm
    go_enter Try.func137, Try.ntmps137
    go_wp2_with (go_at_call 81; (with_reducible refine (HS.out).mono ?_); rintro r w1 ⟨rfl, hk1, hr1⟩)
    have hr1' := hr1
    obtain ⟨v, hb, hrd, k1, k2, k3, k4⟩ := hr1
    simp only at hrd k2 k3 k4 hb
    obtain ⟨A, c, rfl, k5, k6, k7⟩ := hrd
    obtain ⟨v', ⟨hsl, hsl2⟩, hpart⟩ := sliceAt_lh (P := Try.prog) Try.underlying37 hi hz1 (⟨A, c, rfl, k5, k6, k7⟩ : RdI .u8 w1 (fun i => i ≠ g ∧ B i) (.slice A s.l.length c) s.l) s.at_ (s.at_ + n) hat (by omega) e4
    rw [show s.at_ + n - s.at_ = n from by omega, HM.out] at hpart
    have hml : m.length ≤ 140737488355328 := by rw [← HM.out]; simp; omega
    have HP := Lib.hid hpart
    have c0 := hb.cell 0
    have c1 := hb.cell 1
    simp at c0 c1
    have e : IntKind.i64.wrap (s.at_ + n - n) = s.at_ := by rw [IntWalk.i64_in _ (by omega)]; omega
    have e2 : IntKind.i64.wrap s.at_ = s.at_ := IntWalk.i64_in _ (by omega)
    have hgl := hb.lt
    clear k7 hpart hb
    go_region_held3 (fun w' => w'.cell? ⟨g, 0, none⟩ = some (.slice A s.l.length c) ∧ w'.cell? ⟨g, 1, none⟩ = some (.int .i64 (s.at_ + n))) (first | go_keep | exact ⟨KW.cell c0 trivial, KW.cell c1 trivial⟩)
      (first
        | (refine step_append_I _ rfl _ _ _ rfl _ i0 _ 1 Try.underlying37 hi hz0 hz1 hz2 rfl .u8 w1.heap.size _ _ [] m rfl rfl (OwnI.made .u8 _ w1).drew _ (HP.out.ext ((Kept.refl _ w1).alloc _).drew) (by simp; omega) (by simp [maxLen]; omega) (by simp) ?_; intro v2 w2 hown hgrow hat3; have KW : Ext w1 w2 := (((Kept.refl _ w1).alloc _).drew).grown hgrow (fun k hk hlt => by have := own_lt (b := w1.heap.size) rfl hk; omega)))
    go_wp2
    go_ret
    refine ⟨_, rfl, ?_, fun h0 => ?_, hk1.trans KW.any, hr1'.ext KW⟩
    · exact (hown.lower hk1.size)
    · obtain ⟨b, c, rfl, _⟩ := hown.form (by simpa using h0)
      exact ⟨_, rfl⟩
  · rw [hT, if_neg (by simp [e1])]
    rw [e1] at hs
    clear hT e1
    have HS := Lib.hid hs
    clear hs
    go_enter Try.func137, Try.ntmps137
    go_wp2_with (go_at_call 81; (with_reducible refine (HS.out).mono ?_); rintro r w1 ⟨rfl, hk1, hr1⟩)
    go_ret
    exact ⟨_, rfl, OwnI.nil _ _ _ _, fun h => by simp at h, hk1, hr1⟩

def RS.new (l : List Int) : RS := ⟨l, 0, 0, 0⟩
set_option maxRecDepth 100000 in
set_option maxHeartbeats 400000 in
theorem cursor_New (v : Value) (l : List Int) (F : Nat → Prop) (w : World) (h : RdI .u8 w F v l) (hl : Bys l) (hn : l.length ≤ 140737488355328) :
    Calls Try.prog 73 #[v] w fun r w' => r = .returned (ptr w.heap.size) ∧ Ext w w' ∧ Rdr F w' w.heap.size (RS.new l) ∧ w.heap.size < w'.heap.size := by
  obtain ⟨i0, hi, hz0, hz1, hz2⟩ := info_parts infoU8
  have h0 := h
  obtain ⟨A, c, rfl, _, _, _⟩ := h
  obtain ⟨v', ⟨hsl, hsl2⟩, hpart⟩ := sliceAt_hm (P := Try.prog) Try.underlying37 hi hz1 h0 l.length (by omega) (Int.le_refl _)
  rw [List.take_of_length_le (by omega)] at hpart
  have HP := Lib.hid hpart
  obtain ⟨A', c', rfl, _, _, _⟩ := hpart
  clear h0
  go_enter Try.func73, Try.ntmps73
  go_wp2
  go_ret
  refine ⟨rfl, (Kept.refl _ _).alloc _, ⟨_, Blk.new _ _ _, ?_, hl, Int.le_refl _, by simp [RS.new], hn⟩, by simp⟩
  exact (HP.out.mono (fun i hi hf => ⟨Nat.ne_of_lt hi, hf⟩)).ext ((Kept.refl _ _).alloc _)
end Go.Proofs.Ytgphhganepjaiaa
