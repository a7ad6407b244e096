/-
  Contracts of varint.Size, Bytes, Put and of the reference's Bytes.
-/
import Derived.Test.YtgphhganepjaiaaPen
import Derived.Test.YtgphhganepjaiaaVarP
namespace Go.Proofs.Ytgphhganepjaiaa
open Go.RowKit

theorem or128 : ∀ a : Fin 256, a.val ||| 128 = 128 + a.val % 128 := by decide +kernel

set_option maxHeartbeats 400000 in
theorem varint_Size (x : Int) (h0 : 0 ≤ x) (h1 : x < 18446744073709551616) (w : World) :
    Calls Try.prog 72 #[.int .u64 x] w fun r w' => r = .returned (.int .i64 ((vb x).length : Int)) ∧ w = w' := by
  have hl := (vb_len x).2
  obtain ⟨N, hN⟩ : ∃ N, (vb x).length = N := ⟨_, rfl⟩
  rw [hN] at hl ⊢
  have HN := Lib.hid hN
  clear hN
  go_enter Try.func72, Try.ntmps72
  go_wp2
  go_loop [0, 3] (fun y n => ∃ (z : Int) (k : Nat), 0 ≤ z ∧ z < 18446744073709551616 ∧ y = .int .u64 z ∧ n = .int .i64 (k : Int) ∧ k + (vb z).length = N + 1) (fun y _ => (intOf y).toNat)
  case atStart => exact ⟨x, 1, h0, h1, rfl, rfl, by rw [HN.out]; omega⟩
  case round =>
    obtain ⟨z, k, z0, z1, rfl, rfl, hk⟩ := hrel
    have hz := (vb_len z).1
    have hkb : (k : Int) ≤ 10 := by omega
    by_cases hlt : z < 128
    · have e := vb_lt hlt
      rw [e] at hk
      simp at hk
      have HK := Lib.hid hk
      clear hk hz e
      go_wp2
      go_ret
      exact ⟨ret_int (by rw [HK.out]), rfl⟩
    · have e := vb_ge (x := z) (by omega) z1
      rw [e] at hk
      simp at hk
      have HK := Lib.hid hk
      clear hk hz e
      go_wp2
      go_round
      case rel => exact ⟨z / 128, k + 1, by omega, by omega, by go_num, by go_num, by rw [← HK.out]; omega⟩
      case measure => simp [intOf]; omega

set_option maxRecDepth 100000 in
set_option maxHeartbeats 1000000 in
theorem varint_Bytes (x : Int) (h0 : 0 ≤ x) (h1 : x < 18446744073709551616) (w : World) :
    Calls Try.prog 65 #[.int .u64 x] w fun r w' => ∃ v, r = .returned v ∧ OwnI .u8 5 w' w.heap.size v (vb x) ∧ Ext w w' := by
  obtain ⟨i0, hi, hz0, hz1, hz2⟩ := info_parts infoU8
  have hl := (vb_len x).2
  obtain ⟨L, hL⟩ : ∃ L, vb x = L := ⟨_, rfl⟩
  rw [hL] at hl ⊢
  have HL := Lib.hid hL
  clear hL
  go_enter Try.func65, Try.ntmps65
  go_wp2
  go_loopw [0, 3] (fun y v wr => ∃ (z : Int) (m : List Int), 0 ≤ z ∧ z < 18446744073709551616 ∧ y = .int .u64 z ∧ OwnI .u8 5 wr w.heap.size v m ∧ m ++ vb z = L ∧ Ext w wr) (fun y _ _ => (intOf y).toNat)
  case atStart => exact ⟨x, [], h0, h1, rfl, OwnI.nil _ _ _ _, HL.out, Kept.refl _ _⟩
  case round =>
    obtain ⟨z, m, z0, z1, rfl, hown, hm, hk⟩ := hrel
    obtain ⟨A, c, rfl⟩ := hown.sl
    have hml : m.length ≤ 10 := by have := congrArg List.length hm; simp at this; omega
    have HM := Lib.hid hm
    clear hm
    have hwr := hk.size
    by_cases hlt : z < 128
    · have e := vb_lt hlt
      have HE := Lib.hid e
      clear e
      go_wp2_with (at_builtin; refine wpList_append_I _ rfl (.tmp 14) (.tmp 17) _ rfl _ i0 _ 1 Try.underlying37 hi hz0 hz1 hz2 rfl .u8 w.heap.size _ _ m [z] rfl rfl (hown.ext ((Kept.refl _ wr).alloc _)) _ (rd_one .u8 _ wr z) (by simp; omega) (by simp [maxLen]; omega) (by simp; omega) ?_; intro v2 w2 hown2 hg2 ha2)
      go_ret
      refine ⟨v2, rfl, ?_, hk.trans_ext ((((Kept.refl _ wr).alloc _).trans (OwnI.keepB (hown.ext ((Kept.refl _ wr).alloc _)) hg2)))⟩
      have := HM.out
      rw [HE.out] at this
      rw [← this]
      exact hown2
    · have e := vb_ge (x := z) (by omega) z1
      have HE := Lib.hid e
      have eo : bits .or .u8 (z % 256) 128 = 128 + z % 128 := by
        rw [u8_or _ _ (by omega) (by omega) (by omega) (by omega)]
        have := or128 ⟨(z % 256).toNat, by omega⟩
        simp only at this
        rw [show (128 : Int).toNat = 128 from rfl, this]
        omega
      clear e
      go_wp2_with (at_builtin; refine wpList_append_I _ rfl (.tmp 6) (.tmp 10) _ rfl _ i0 _ 1 Try.underlying37 hi hz0 hz1 hz2 rfl .u8 w.heap.size _ _ m [(128 + z % 128)] rfl rfl (hown.ext ((Kept.refl _ wr).alloc _)) _ (rd_one .u8 _ wr (128 + z % 128)) (by simp; omega) (by simp [maxLen]; omega) (by simp; omega) ?_; intro v2 w2 hown2 hg2 ha2)
      go_roundw
      case rel =>
        refine ⟨z / 128, _, by omega, by omega, rfl, hown2, ?_, hk.trans_ext ((((Kept.refl _ wr).alloc _).trans (OwnI.keepB (hown.ext ((Kept.refl _ wr).alloc _)) hg2)))⟩
        rw [← HM.out, HE.out]; simp
      case measure => simp [intOf]; omega

set_option maxRecDepth 100000 in
set_option maxHeartbeats 1000000 in
theorem ref04_Bytes : ∀ (k : Nat) (x : Int), 0 ≤ x → x < 18446744073709551616 → x < 128 ^ (k + 1) → ∀ w : World,
    Calls Try.prog 42 #[.int .u64 x] w fun r w' => ∃ v, r = .returned v ∧ OwnI .u8 5 w' w.heap.size v (vb x) ∧ Ext w w' := by
  obtain ⟨i0, hi, hz0, hz1, hz2⟩ := info_parts infoU8
  have small : ∀ (x : Int), 0 ≤ x → x < 128 → ∀ w : World, Calls Try.prog 42 #[.int .u64 x] w fun r w' => ∃ v, r = .returned v ∧ OwnI .u8 5 w' w.heap.size v (vb x) ∧ Ext w w' := by
    intro x h0 h1 w
    have e := vb_lt h1
    rw [e]
    have HE := Lib.hid e
    clear e
    go_enter Try.func42, Try.ntmps42
    go_wp2
    go_ret
    exact ⟨_, rfl, OwnI.one .u8 _ w x, (Kept.refl _ _).alloc _⟩
  intro k
  induction k with
  | zero => intro x h0 h1 h2 w; exact small x h0 (by omega) w
  | succ k ih =>
    intro x h0 h1 h2 w
    by_cases hlt : x < 128
    · exact small x h0 hlt w
    · have e := vb_ge (x := x) (by omega) h1
      rw [e]
      have hl := (vb_len x).2
      rw [e] at hl
      simp at hl
      have hrec := ih (x / 128) (by omega) (by omega) (by rw [Int.pow_succ] at h2; omega)
      have HR := Lib.hid hrec
      clear ih hrec e small h2
      generalize vb (x / 128) = T at *
      go_enter Try.func42, Try.ntmps42
      go_wp2_with (first
        | (go_at_call 42; (with_reducible refine (HR.out _).mono ?_); rintro r w1 ⟨v1, rfl, hown1, hk1⟩; have hsz := hk1.size; simp at hsz)
        | (at_builtin; refine wpList_append_I _ rfl (.tmp 12) (.tmp 15) _ rfl _ i0 _ 1 Try.underlying37 hi hz0 hz1 hz2 rfl .u8 w.heap.size _ _ [128 + x % 128] T rfl rfl ((OwnI.one .u8 _ w (128 + x % 128)).ext hk1) _ (hown1.rd (F := fun _ => True) (fun _ _ _ _ => trivial)) (by simp; omega) (by simp [maxLen]; omega) (by omega) ?_; intro v2 w2 hown2 hg2 ha2))
      go_ret
      exact ⟨v2, rfl, hown2, (((Kept.refl _ w).alloc _).trans hk1).trans_ext (OwnI.keepB ((OwnI.one .u8 _ w (128 + x % 128)).ext hk1) hg2)⟩

set_option maxHeartbeats 400000 in
theorem varint_Put (B g : Nat) (buf : Value) (s : WS) (x : Int) (h0 : 0 ≤ x) (h1 : x < 18446744073709551616) (w : World) (h : Wtr w B g buf s) (hB : B ≤ w.heap.size)
    (hbound : s.l.length + (vb x).length ≤ s.most → s.l.length + (vb x).length ≤ 140737488355328) :
    Calls Try.prog 91 #[ptr g, .int .u64 x] w fun r w' => r = .returned (.tuple #[]) ∧ ∃ buf', WStep g buf w buf' w' ∧ Wtr w' B g buf' (s.put (vb x)) := by
  have HB := Lib.hid hbound
  clear hbound
  go_enter Try.func91, Try.ntmps91
  go_wp2_with (first
    | (go_at_call 65; (with_reducible refine (varint_Bytes x h0 h1 _).mono ?_); rintro r w1 ⟨v1, rfl, hown1, hk1⟩; have hsz := hk1.size)
    | (go_at_call 90; (with_reducible refine (Writer_Put B g buf s v1 (vb x) _ _ (h.ext hk1) (hown1.rd (F := fun _ => True) (fun _ _ _ _ => trivial)) (vb_by h0 h1) (by omega) HB.out).mono ?_); rintro r w2 ⟨rfl, buf', hst, hw⟩))
  go_end0
  exact ⟨rfl, buf', WStep.ahead hk1 hst, hw⟩
end Go.Proofs.Ytgphhganepjaiaa
