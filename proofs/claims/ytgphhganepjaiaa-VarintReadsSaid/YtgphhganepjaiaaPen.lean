/-
  Contracts of the pen's writer, against plain functions on its bound, bytes and code.
-/
import Derived.Test.YtgphhganepjaiaaCur
namespace Go.Proofs.Ytgphhganepjaiaa
open Go.RowKit

structure WS where
  most : Int
  l : List Int
  code : Int
def WS.new (most : Int) : WS := ⟨max most 0, [], 0⟩
def WS.fail (s : WS) (c : Int) : WS := if s.code = 0 then { s with code := c } else s
def WS.put (s : WS) (m : List Int) : WS := if s.code = 0 then (if s.most - s.l.length < m.length then { s with code := 2 } else { s with l := s.l ++ m }) else s
theorem WS.put_ok {s : WS} {m : List Int} (h : s.code = 0) (hm : s.l.length + m.length ≤ s.most) : s.put m = { s with l := s.l ++ m } := by
  unfold WS.put; rw [if_pos h, if_neg (by omega)]
theorem WS.put_no {s : WS} {m : List Int} (h : s.code = 0) (hm : s.most < s.l.length + m.length) : s.put m = { s with code := 2 } := by
  unfold WS.put; rw [if_pos h, if_pos (by omega)]
theorem WS.put_bad {s : WS} {m : List Int} (h : s.code ≠ 0) : s.put m = s := by
  unfold WS.put; rw [if_neg h]
theorem WS.new_is {n : Int} (h : 0 ≤ n) : WS.new n = ⟨n, [], 0⟩ := by unfold WS.new; rw [show max n 0 = n from by omega]
/-- A writer as it lies in memory: its buffer is the call's own, from block B on, as the writer is. -/
def Wtr (w : World) (B g : Nat) (buf : Value) (s : WS) : Prop :=
  Blk w g 129 #[.int .i64 s.most, buf, .int .i64 s.code] ∧ OwnI .u8 5 w B buf s.l ∧ buf.ownBlock ≠ some g ∧ B ≤ g ∧ 0 ≤ s.most ∧ s.most < 9223372036854775808 ∧ s.l.length ≤ s.most ∧ Bys s.l
def KW (g : Nat) (buf : Value) : Nat → Prop := fun i => i ≠ g ∧ some i ≠ buf.ownBlock
structure WStep (g : Nat) (buf : Value) (w : World) (buf' : Value) (w' : World) : Prop where
  kept : Kept (KW g buf) w w'
  own : buf'.ownBlock = buf.ownBlock ∨ ∃ k, buf'.ownBlock = some k ∧ w.heap.size ≤ k
theorem WStep.refl (g : Nat) (buf : Value) (w : World) : WStep g buf w buf w := ⟨Kept.refl _ _, .inl rfl⟩
theorem WStep.trans {g : Nat} {b0 b1 b2 : Value} {w0 w1 w2 : World} (h : WStep g b0 w0 b1 w1) (h' : WStep g b1 w1 b2 w2) : WStep g b0 w0 b2 w2 := by
  have hle := h.kept.size
  refine ⟨⟨h'.kept.os.trans h.kept.os, h'.kept.tape.trans h.kept.tape, h'.kept.output.trans h.kept.output, Nat.le_trans hle h'.kept.size, fun i hi hk => (h'.kept.block i (by omega) ⟨hk.1, ?_⟩).trans (h.kept.block i hi hk)⟩, ?_⟩
  · rcases h.own with e | ⟨k, e, hk'⟩
    · rw [e]; exact hk.2
    · rw [e]; intro e'; injection e' with e'; omega
  · rcases h'.own with e | ⟨k, e, hk⟩
    · rw [e]; exact (h.own).imp id id
    · exact .inr ⟨k, e, by omega⟩
theorem WStep.after {g : Nat} {b0 b1 : Value} {w0 w1 w2 : World} (h : WStep g b0 w0 b1 w1) (h' : Ext w1 w2) : WStep g b0 w0 b1 w2 := ⟨h.kept.trans h'.any, h.own⟩
theorem WStep.ahead {g : Nat} {b0 b1 : Value} {w0 w1 w2 : World} (h : Ext w0 w1) (h' : WStep g b0 w1 b1 w2) : WStep g b0 w0 b1 w2 := ⟨h.any.trans h'.kept, h'.own.imp id fun ⟨k, e, hk⟩ => ⟨k, e, Nat.le_trans h.size hk⟩⟩
theorem Wtr.ext {w w' : World} {B g : Nat} {buf : Value} {s : WS} (h : Wtr w B g buf s) (hk : Ext w w') : Wtr w' B g buf s :=
  ⟨h.1.kept hk trivial, h.2.1.ext hk, h.2.2⟩
theorem Wtr.kept {K : Nat → Prop} {w w' : World} {B g : Nat} {buf : Value} {s : WS} (h : Wtr w B g buf s) (hk : Kept K w w') (hg : K g) (hb : ∀ b, buf.ownBlock = some b → B ≤ b → b < w.heap.size → K b) : Wtr w' B g buf s :=
  ⟨h.1.kept hk hg, h.2.1.kept hk hb, h.2.2⟩
theorem WStep.below {B g : Nat} {buf buf' : Value} {w w' : World} {s : WS} (h : WStep g buf w buf' w') (hw : Wtr w B g buf s) (hB : B ≤ w.heap.size) : Below B w w' :=
  h.kept.below (fun i hi => ⟨by have := hw.2.2.2.1; omega, fun e => by have := (World.ownsRow.lt hw.2.1 i e.symm).1; omega⟩) hB

set_option maxRecDepth 100000 in
set_option maxHeartbeats 400000 in
theorem pen_New (most : Int) (w : World) (h0 : -9223372036854775808 ≤ most) (h1 : most < 9223372036854775808) :
    Calls Try.prog 37 #[.int .i64 most] w fun r w' => r = .returned (ptr w.heap.size) ∧ Ext w w' ∧ Wtr w' w.heap.size w.heap.size (.slice none 0 0) (WS.new most) ∧ w.heap.size < w'.heap.size := by
  have hm : (if most < 0 then 0 else most) = max most 0 := by split <;> omega
  go_enter Try.func37, Try.ntmps37
  go_wp2
  go_ret
  refine ⟨rfl, (Kept.refl _ _).alloc _, ⟨Blk.new _ _ _, OwnI.nil _ _ _ _, by simp [Value.ownBlock], Nat.le_refl _, by simp [WS.new]; omega, by simp [WS.new]; omega, by simp [WS.new]; omega, fun x hx => by simp [WS.new] at hx⟩, by simp⟩

set_option maxHeartbeats 400000 in
theorem Writer_Code (B g : Nat) (buf : Value) (s : WS) (w : World) (h : Wtr w B g buf s) :
    Calls Try.prog 123 #[ptr g] w fun r w' => r = .returned (.int .i64 s.code) ∧ w = w' := by
  have c2 := h.1.cell 2
  simp at c2
  go_enter Try.func123, Try.ntmps123
  go_wp2
  go_ret
  exact ⟨rfl, rfl⟩

set_option maxHeartbeats 400000 in
theorem Writer_Room (B g : Nat) (buf : Value) (s : WS) (w : World) (h : Wtr w B g buf s) :
    Calls Try.prog 136 #[ptr g] w fun r w' => r = .returned (.int .i64 (s.most - s.l.length)) ∧ ∃ n, w' = w.drewN n := by
  have hrd := h.2.1.rd (F := fun _ => True) (fun _ _ _ _ => trivial)
  obtain ⟨A, c, rfl, _, _, _⟩ := hrd
  obtain ⟨hb, _, _, _, k1, k2, k3, _⟩ := h
  have c0 := hb.cell 0
  have c1 := hb.cell 1
  simp at c0 c1
  have e : IntKind.i64.wrap (s.most - (s.l.length : Int)) = s.most - (s.l.length : Int) := IntWalk.i64_in _ (by omega)
  go_enter Try.func136, Try.ntmps136
  go_wp2
  go_quiet (fail)
  go_wp2
  go_ret
  exact ⟨rfl, _, rfl⟩

set_option maxHeartbeats 400000 in
theorem Writer_Fail (B g : Nat) (buf : Value) (s : WS) (c : Int) (w : World) (h : Wtr w B g buf s) :
    Calls Try.prog 124 #[ptr g, .int .i64 c] w fun r w' => r = .returned (.tuple #[]) ∧ WStep g buf w buf w' ∧ Wtr w' B g buf (s.fail c) := by
  have h0 := h
  have c2 := h.1.cell 2
  have f2 := h.1.frozen 2
  simp at c2
  by_cases hc : s.code = 0
  · have hc' : (s.code == 0) = true := by simp [hc]
    have hf : s.fail c = { s with code := c } := by simp [WS.fail, hc]
    rw [hf]
    clear hc hf
    go_enter Try.func124, Try.ntmps124
    go_wp2_with (go_at_call 123; (with_reducible refine (Writer_Code B g buf s _ h0).mono ?_); rintro r w' ⟨rfl, rfl⟩)
    go_end0
    refine ⟨rfl, ⟨(Kept.refl _ _).setCell (by simp [KW]) _, .inl rfl⟩, h0.1.set_ 2 _, ?_, h0.2.2⟩
    exact h0.2.1.kept ((Kept.refl (· ≠ g) _).setCell (by simp) _) (fun b e _ _ => by rintro rfl; exact h0.2.2.1 e)
  · have hc' : (s.code == 0) = false := by simp [hc]
    have hf : s.fail c = s := by simp [WS.fail, hc]
    rw [hf]
    clear hc hf
    go_enter Try.func124, Try.ntmps124
    go_wp2_with (go_at_call 123; (with_reducible refine (Writer_Code B g buf s _ h0).mono ?_); rintro r w' ⟨rfl, rfl⟩)
    go_end0
    exact ⟨rfl, WStep.refl _ _ _, h0⟩

set_option maxRecDepth 100000 in
set_option maxHeartbeats 1000000 in
theorem Writer_Put (B g : Nat) (buf : Value) (s : WS) (v : Value) (m : List Int) (F : Nat → Prop) (w : World) (h : Wtr w B g buf s) (hv : RdI .u8 w F v m) (hm : Bys m) (hB : B ≤ w.heap.size)
    (hbound : s.l.length + m.length ≤ s.most → s.l.length + m.length ≤ 140737488355328) :
    Calls Try.prog 90 #[ptr g, v] w fun r w' => r = .returned (.tuple #[]) ∧ ∃ buf', WStep g buf w buf' w' ∧ Wtr w' B g buf' (s.put m) := by
  obtain ⟨i0, hi, hz0, hz1, hz2⟩ := info_parts infoU8
  have h0 := h
  have hv0 := hv
  have c1 := h.1.cell 1
  have f1 := h.1.frozen 1
  simp at c1
  obtain ⟨A, c, rfl, k1, k2, k3⟩ := hv
  by_cases hc : s.code = 0
  · have hc' : (s.code != 0) = false := by simp [hc]
    by_cases hr : s.most - s.l.length < m.length
    · have hf : s.put m = { s with code := 2 } := by simp [WS.put, hc, hr]
      have hf2 : s.fail 2 = { s with code := 2 } := by simp [WS.fail, hc]
      rw [hf, ← hf2]
      clear hc hf hf2
      go_enter Try.func90, Try.ntmps90
      go_wp2_with (first
        | (go_at_call 123; (with_reducible refine (Writer_Code B g buf s _ h0).mono ?_); rintro r w' ⟨rfl, rfl⟩)
        | (go_at_call 136; (with_reducible refine (Writer_Room B g buf s _ h0).mono ?_); rintro r w1 ⟨rfl, n, rfl⟩)
        | (go_at_call 124; (with_reducible refine (Writer_Fail B g buf s 2 _ (h0.ext ((Kept.refl _ _).drewN _))).mono ?_); rintro r w1 ⟨rfl, hst, hw1⟩))
      go_end0
      exact ⟨rfl, buf, WStep.ahead ((Kept.refl _ _).drewN _) hst, hw1⟩
    · have hf : s.put m = { s with l := s.l ++ m } := by simp [WS.put, hc, hr]
      rw [hf]
      have hb := hbound (by omega)
      clear hc hf k3
      have HV := Lib.hid hv0
      clear hv0
      go_enter Try.func90, Try.ntmps90
      go_wp2_with (first
        | (go_at_call 123; (with_reducible refine (Writer_Code B g buf s _ h0).mono ?_); rintro r w' ⟨rfl, rfl⟩)
        | (go_at_call 136; (with_reducible refine (Writer_Room B g buf s _ h0).mono ?_); rintro r w1 ⟨rfl, n, rfl⟩)
        | (at_builtin; refine wpList_append_I _ rfl _ _ _ rfl _ i0 _ 1 Try.underlying37 hi hz0 hz1 hz2 rfl .u8 B _ _ s.l m rfl rfl (h0.2.1.ext ((Kept.refl _ _).drewN _)) F (HV.out.ext ((Kept.refl _ _).drewN _)) (by omega) (by simp [maxLen]; omega) (by simpa using hB) ?_; intro v2 w2 hown hgrow hat; obtain ⟨A2, c2, rfl⟩ := hown.sl; have hbw : Blk w2 g _ _ := (h0.1.drewN _).grown hgrow (fun e => h0.2.2.1 e.symm); have d1 := hbw.cell 1; have g1 := hbw.frozen 1; simp at d1))
      go_end0
      have hsz := hgrow.size
      have hlt := h0.1.lt
      have hown2 : (Value.slice A2 (s.l ++ m).length c2).ownBlock = buf.ownBlock ∨ ∃ k, (Value.slice A2 (s.l ++ m).length c2).ownBlock = some k ∧ w.heap.size ≤ k := hat.imp id fun e => ⟨_, e, Nat.le_refl _⟩
      have hg2 : (Value.slice A2 (s.l ++ m).length c2).ownBlock ≠ some g := by
        rcases hat with e | e
        · rw [e]; exact h0.2.2.1
        · rw [e]; intro e2; injection e2 with e2; simp at e2; omega
      refine ⟨rfl, _, ⟨((Kept.refl (KW g buf) w).drewN _).grown hgrow (fun k e _ hk => hk.2 e.symm) |>.setCell (by simp [KW]) _, hown2⟩, (by rw [List.length_append]; exact hbw.set_ 1 _), ?_, hg2, h0.2.2.2.1, h0.2.2.2.2.1, h0.2.2.2.2.2.1, by simp; omega, ?_⟩
      · exact hown.kept ((Kept.refl (· ≠ g) _).setCell (by simp) _) (fun b e _ _ => by rintro rfl; exact hg2 e)
      · intro x hx
        rcases List.mem_append.1 hx with hx | hx
        · exact h0.2.2.2.2.2.2.2 x hx
        · exact hm x hx
  · have hc' : (s.code != 0) = true := by simp [hc]
    have hf : s.put m = s := by simp [WS.put, hc]
    rw [hf]
    clear hc hf
    go_enter Try.func90, Try.ntmps90
    go_wp2_with (go_at_call 123; (with_reducible refine (Writer_Code B g buf s _ h0).mono ?_); rintro r w' ⟨rfl, rfl⟩)
    go_end0
    exact ⟨rfl, buf, WStep.refl _ _ _, h0⟩

def WS.bytes (s : WS) : List Int := if s.code = 0 then s.l else []
set_option maxRecDepth 100000 in
set_option maxHeartbeats 1000000 in
theorem Writer_Bytes (B g : Nat) (buf : Value) (s : WS) (w : World) (h : Wtr w B g buf s) (hb : s.l.length ≤ 140737488355328) :
    Calls Try.prog 40 #[ptr g] w fun r w' => ∃ v, r = .returned (.tuple #[v, .int .i64 s.code]) ∧ OwnI .u8 5 w' w.heap.size v s.bytes ∧ Ext w w' := by
  obtain ⟨i0, hi, hz0, hz1, hz2⟩ := info_parts infoU8
  have h0 := h
  have c1 := h.1.cell 1
  have c2 := h.1.cell 2
  have hlt := h.1.lt
  simp at c1 c2
  by_cases hc : s.code = 0
  · have hc' : (s.code != 0) = false := by simp [hc]
    have hf : s.bytes = s.l := by simp [WS.bytes, hc]
    rw [hf]
    have HC := Lib.hid hc
    clear hc hf
    have hrd := h0.2.1.rd (F := fun _ => True) (fun _ _ _ _ => trivial)
    have HR := Lib.hid hrd
    clear hrd
    go_enter Try.func40, Try.ntmps40
    go_wp2_with (first
      | (go_at_call 123; (with_reducible refine (Writer_Code B g buf s _ h0).mono ?_); rintro r w' ⟨rfl, rfl⟩)
      | (at_builtin; refine wpList_append_I _ rfl _ _ _ rfl _ i0 _ 1 Try.underlying37 hi hz0 hz1 hz2 rfl .u8 w.heap.size _ _ [] s.l rfl rfl (OwnI.made .u8 _ w) _ (HR.out.ext ((Kept.refl _ w).alloc _)) (by simp; omega) (by simp [maxLen]; omega) (by simp) ?_; intro v2 w2 hown hgrow hat; have KW : Ext w w2 := ((Kept.refl _ w).alloc _).grown hgrow (fun k hk hlt => by have := own_lt (b := w.heap.size) rfl hk; omega)))
    go_ret2
    exact ⟨v2, by rw [HC.out]; rfl, hown, KW⟩
  · have hc' : (s.code != 0) = true := by simp [hc]
    have hf : s.bytes = [] := by simp [WS.bytes, hc]
    rw [hf]
    clear hc hf
    go_enter Try.func40, Try.ntmps40
    go_wp2_with (go_at_call 123; (with_reducible refine (Writer_Code B g buf s _ h0).mono ?_); rintro r w' ⟨rfl, rfl⟩)
    go_ret2
    exact ⟨_, rfl, OwnI.nil _ _ _ _, Kept.refl _ _⟩

/-- A number's lowest bytes. -/
def lowBytes : Nat → Int → List Int
  | 0, _ => []
  | n + 1, x => x % 256 :: lowBytes n (x / 256)
theorem lowBytes_snoc (n : Nat) : ∀ x : Int, lowBytes (n + 1) x = lowBytes n x ++ [x / 256 ^ n % 256] := by
  induction n with
  | zero => intro x; simp [lowBytes]
  | succ n ih =>
    intro x
    have := ih (x / 256)
    rw [show lowBytes (n + 1 + 1) x = x % 256 :: lowBytes (n + 1) (x / 256) from rfl, this, show lowBytes (n + 1) x = x % 256 :: lowBytes n (x / 256) from rfl]
    simp only [List.cons_append]
    congr 3
    rw [Int.ediv_ediv_of_nonneg (by omega), Int.pow_succ', ]
theorem lowBytes_len (n : Nat) : ∀ x : Int, (lowBytes n x).length = n := by
  induction n with
  | zero => intro x; rfl
  | succ n ih => intro x; simp [lowBytes, ih]
theorem lowBytes_bys (n : Nat) : ∀ x : Int, Bys (lowBytes n x) := by
  induction n with
  | zero => intro x y hy; simp [lowBytes] at hy
  | succ n ih =>
    intro x y hy
    simp only [lowBytes, List.mem_cons] at hy
    rcases hy with rfl | hy
    · omega
    · exact ih _ y hy
end Go.Proofs.Ytgphhganepjaiaa
