/-
  The contract of varint.Read: a loop by a goto.
-/
import Derived.Test.YtgphhganepjaiaaVarRP
import Derived.Test.YtgphhganepjaiaaVar
namespace Go.Proofs.Ytgphhganepjaiaa
open Go.RowKit

theorem Bys.drop {l : List Int} (h : Bys l) (n : Nat) : Bys (l.drop n) := fun x hx => h x (List.mem_of_mem_drop hx)
theorem Rdr.bys {B : Nat → Prop} {w : World} {g : Nat} {s : RS} (h : Rdr B w g s) : Bys s.l := by obtain ⟨_, _, _, hb, _⟩ := h; exact hb
theorem Rdr.at0 {B : Nat → Prop} {w : World} {g : Nat} {s : RS} (h : Rdr B w g s) : 0 ≤ s.at_ ∧ s.at_ ≤ s.l.length ∧ s.l.length ≤ 140737488355328 := by obtain ⟨_, _, _, _, h1, h2, h3⟩ := h; exact ⟨h1, h2, h3⟩

theorem or_join (i : Nat) (hi : i ≤ 9) (x c : Int) (h0 : 0 ≤ x) (h1 : x < 128 ^ i) (c0 : 0 ≤ c) (c1 : c < 128) (c2 : i = 9 → c ≤ 1) :
    bits .or .u64 x (IntKind.u64.wrap (c * 2 ^ (7 * i))) = x + 128 ^ i * c ∧ x + 128 ^ i * c < 128 ^ (i + 1) ∧ 0 ≤ x + 128 ^ i * c := by
  obtain ⟨n, rfl⟩ := Int.eq_ofNat_of_zero_le c0
  obtain ⟨m, rfl⟩ := Int.eq_ofNat_of_zero_le h0
  have hp : (2 : Int) ^ (7 * i) = 128 ^ i := by rw [Int.pow_mul]; rfl
  have hpos : (0 : Int) < 128 ^ i := Int.pow_pos (by omega)
  have hcast : ((128 ^ i : Nat) : Int) = 128 ^ i := by rw [Int.natCast_pow]; rfl
  have h1' : m < 128 ^ i := by omega
  have hB : n * 128 ^ i < 18446744073709551616 := by
    have : i = 0 ∨ i = 1 ∨ i = 2 ∨ i = 3 ∨ i = 4 ∨ i = 5 ∨ i = 6 ∨ i = 7 ∨ i = 8 ∨ i = 9 := by omega
    rcases this with rfl | rfl | rfl | rfl | rfl | rfl | rfl | rfl | rfl | rfl <;> simp at c2 ⊢ <;> omega
  have hm : (m : Int) < 18446744073709551616 := by
    have : i = 0 ∨ i = 1 ∨ i = 2 ∨ i = 3 ∨ i = 4 ∨ i = 5 ∨ i = 6 ∨ i = 7 ∨ i = 8 ∨ i = 9 := by omega
    rcases this with rfl | rfl | rfl | rfl | rfl | rfl | rfl | rfl | rfl | rfl <;> simp at h1 <;> omega
  have e0 : (n : Int) * 128 ^ i = ((n * 128 ^ i : Nat) : Int) := by rw [Int.natCast_mul, hcast]
  have e1 : IntKind.u64.wrap ((n : Int) * 2 ^ (7 * i)) = ((n * 128 ^ i : Nat) : Int) := by
    rw [hp, e0]
    simp [IntKind.wrap, IntKind.bits, IntKind.signed]
    omega
  rw [e1, u64_or_nat m _ (by omega) hB]
  have e2 : m ||| n * 128 ^ i = n * 128 ^ i + m := by
    rw [Nat.or_comm]
    have q : (2 : Nat) ^ (7 * i) = 128 ^ i := by rw [Nat.pow_mul]
    exact nat_join (7 * i) _ _ (by rw [q]; exact Nat.mul_mod_left _ _) (by rw [q]; exact h1')
  rw [e2]
  have e3 : ((n * 128 ^ i + m : Nat) : Int) = (m : Int) + 128 ^ i * (n : Int) := by
    rw [Int.natCast_add, ← e0, Int.mul_comm, Int.add_comm]
  refine ⟨e3, ?_, ?_⟩
  · rw [Int.pow_succ]
    have : (128 : Int) ^ i * n ≤ 128 ^ i * 127 := Int.mul_le_mul_of_nonneg_left (by omega) (by omega)
    omega
  · have : (0 : Int) ≤ 128 ^ i * n := Int.mul_nonneg (by omega) (by omega)
    omega

set_option maxRecDepth 100000 in
set_option maxHeartbeats 2000000 in
theorem varint_Read {B : Nat → Prop} (g : Nat) (s : RS) (w : World) (h : Rdr B w g s) :
    Calls Try.prog 85 #[ptr g] w fun r w' => r = .returned (.int .u64 s.vint.2) ∧ Kept (· ≠ g) w w' ∧ Rdr B w' g s.vint.1 := by
  have h0 := h
  obtain ⟨a0, a1, a2⟩ := h.at0
  have hby := h.bys
  obtain ⟨S, X, hV⟩ : ∃ S X, s.vint = (S, X) := ⟨_, _, rfl⟩
  have e1 : s.vint.1 = S := by rw [hV]
  have e2 : s.vint.2 = X := by rw [hV]
  rw [e1, e2]
  have HV := Lib.hid hV
  clear hV e1 e2
  go_enter Try.func85, Try.ntmps85
  go_wp2
  refine wp_scope_goto 0 (fun a' w' => ∃ (i : Nat) (x : Int) (u1 u4 u7 u8 u9 u10 u11 u12 u13 u14 u15 u16 u17 u18 u19 u20 u21 u22 u23 u24 u25 u26 u27 u28 u29 u30 u31 u32 u33 u34 u35 u36 u37 u38 u39 u40 u41 u42 u43 u44 u45 u46 u47 u48 u49 u50 u51 u52 u53 : Value), a' = { tmps := #[ptr g, u1, .int .u64 0, .int .u64 x, u4, .int .i64 (7 * (i : Int)), .int .i64 s.at_, u7, u8, u9, u10, u11, u12, u13, u14, u15, u16, u17, u18, u19, u20, u21, u22, u23, u24, u25, u26, u27, u28, u29, u30, u31, u32, u33, u34, u35, u36, u37, u38, u39, u40, u41, u42, u43, u44, u45, u46, u47, u48, u49, u50, u51, u52, u53], defers := [] } ∧
      i ≤ 9 ∧ (s.code ≠ 0 → i = 0) ∧ 0 ≤ x ∧ x < 128 ^ i ∧ Upto s i x ∧ i ≤ s.rest.length ∧ Kept (· ≠ g) w w' ∧ Rdr B w' g (s.adv i))
    (fun a' _ => 70 - (intOf (a'.tmps.getD 5 undef)).toNat) rfl ?pass ?first
  case pass =>
    rintro a' w' ⟨i, x, u1, u4, u7, u8, u9, u10, u11, u12, u13, u14, u15, u16, u17, u18, u19, u20, u21, u22, u23, u24, u25, u26, u27, u28, u29, u30, u31, u32, u33, u34, u35, u36, u37, u38, u39, u40, u41, u42, u43, u44, u45, u46, u47, u48, u49, u50, u51, u52, u53, rfl, hi9, hci, x0, x1, hu, hir, hk, hr⟩
    have hrl := rest_len s a0 a1
    have HU := Lib.hid hu
    clear hu
    by_cases hc : s.code = 0
    · have hgood : ∀ j, (s.adv j).good = true := fun j => by simp [RS.good, RS.adv, hc]
      cases hd : s.rest.drop i with
      | nil =>
        have hil : s.rest.length ≤ i := by
          rcases Nat.lt_or_ge i s.rest.length with h | h
          · have := congrArg List.length hd; simp at this; omega
          · exact h
        have hB0 := byte_end s i hc a0 a1 (by omega)
        have hB := Reader_Byte g (s.adv i) w' hr
        rw [hB0] at hB
        have hv := vint_end hc HU.out hd
        rw [HV.out] at hv
        injection hv with hv1 hv2
        have hg : S.good = false := by rw [hv1]; rfl
        rw [← hv1] at hB
        have HB := Lib.hid hB
        clear hB hB0 hv1 hd hgood HV
        subst hv2
        go_wp2_with (first
          | (go_at_call 133; (with_reducible refine (HB.out).mono ?_); rintro r w1 ⟨rfl, hk1, hr1⟩)
          | (go_at_call 102; (with_reducible refine (Reader_Good g S _ hr1).mono ?_); rintro r w2 ⟨rfl, hk2⟩))
        simp only [Exit.jump]
        go_ret
        exact ⟨rfl, (hk.trans hk1).trans hk2.any, hr1.ext hk2⟩
      | cons c t =>
        obtain ⟨hB0, hle⟩ := byte_good s i c t hc a0 a1 hd
        have hB := Reader_Byte g (s.adv i) w' hr
        rw [hB0] at hB
        have hcb : 0 ≤ c ∧ c < 256 := by
          have : c ∈ s.rest.drop i := by rw [hd]; exact List.mem_cons_self ..
          exact hby c (List.mem_of_mem_drop (List.mem_of_mem_drop this))
        have hil : i < s.rest.length := by
          rcases Nat.lt_or_ge i s.rest.length with h | h
          · exact h
          · rw [List.drop_eq_nil_of_le h] at hd; cases hd
        have hg1 := hgood ((i : Int) + 1)
        have hat1 : (s.adv ((i : Int) + 1)).at_ = s.at_ + (i + 1) := rfl
        obtain ⟨s1, hs1⟩ : ∃ s1, s.adv ((i : Int) + 1) = s1 := ⟨_, rfl⟩
        rw [hs1] at hB hg1 hat1
        have HB := Lib.hid hB
        have HS1 := Lib.hid hs1
        clear hB hB0 hgood hs1
        by_cases c1 : i = 9 ∧ 1 < c
        · have hv := vint_over hc HU.out hd c1.1 c1.2
          rw [HV.out, HS1.out] at hv
          injection hv with hv1 hv2
          have HV1 := Lib.hid hv1
          have t2 : ((7 * (i : Int)) == 63) = true := by simp; omega
          have c1' := c1.2
          clear hv1 hd HV c1
          subst hv2
          go_wp2_with (first
            | (go_at_call 133; (with_reducible refine (HB.out).mono ?_); rintro r w1 ⟨rfl, hk1, hr1⟩)
            | (go_at_call 102; (with_reducible refine (Reader_Good g s1 _ hr1).mono ?_); rintro r w2 ⟨rfl, hk2⟩)
            | (go_at_call 79; (with_reducible refine (Reader_At g s1 _ (hr1.ext hk2)).mono ?_); rintro r w' ⟨rfl, rfl⟩)
            | (go_at_call 132; (with_reducible refine (Reader_Fail g s1 _ _ _ (hr1.ext hk2)).mono ?_); rintro r w3 ⟨rfl, hk3, hr3⟩))
          simp only [Exit.jump]
          go_ret
          refine ⟨rfl, ((hk.trans hk1).trans hk2.any).trans hk3, ?_⟩
          rw [HV1.out]
          have e : s.at_ + (i : Int) = s.at_ + ((i : Int) + 1) - 1 := by omega
          rw [e]; exact hr3
        by_cases c2 : 0 < i ∧ c = 0
        · obtain ⟨c2', rfl⟩ := c2
          have hv := vint_min hc HU.out hd c2'
          rw [HV.out, HS1.out] at hv
          injection hv with hv1 hv2
          have HV1 := Lib.hid hv1
          clear hv1 hd HV c1
          subst hv2
          go_wp2_with (first
            | (go_at_call 133; (with_reducible refine (HB.out).mono ?_); rintro r w1 ⟨rfl, hk1, hr1⟩)
            | (go_at_call 102; (with_reducible refine (Reader_Good g s1 _ hr1).mono ?_); rintro r w2 ⟨rfl, hk2⟩)
            | (go_at_call 79; (with_reducible refine (Reader_At g s1 _ (hr1.ext hk2)).mono ?_); rintro r w' ⟨rfl, rfl⟩)
            | (go_at_call 132; (with_reducible refine (Reader_Fail g s1 _ _ _ (hr1.ext hk2)).mono ?_); rintro r w3 ⟨rfl, hk3, hr3⟩))
          all_goals
            simp only [Exit.jump]
            go_ret
            refine ⟨rfl, ((hk.trans hk1).trans hk2.any).trans hk3, ?_⟩
            rw [HV1.out]
            have e : s.at_ + (i : Int) = s.at_ + ((i : Int) + 1) - 1 := by omega
            rw [e]; exact hr3
        by_cases c3 : c < 128
        · have hv := vint_last hc HU.out hd c1 c2 c3
          rw [HV.out, HS1.out] at hv
          injection hv with hv1 hv2
          have HV1 := Lib.hid hv1
          have HV2 := Lib.hid hv2
          have hcm : c % 128 = c := by omega
          have HJ := Lib.hid (or_join i (by omega) x (c % 128) x0 x1 (by omega) (by omega) (fun h => by omega))
          clear hv1 hv2 hd HV
          by_cases c0 : c = 0
          · have hi0 : i = 0 := by omega
            subst hi0 c0
            have hx0 : x = 0 := by simp at x1; omega
            subst hx0
            go_wp2_with (first
              | (go_at_call 133; (with_reducible refine (HB.out).mono ?_); rintro r w1 ⟨rfl, hk1, hr1⟩)
              | (go_at_call 102; (with_reducible refine (Reader_Good g s1 _ hr1).mono ?_); rintro r w2 ⟨rfl, hk2⟩)
              | (go_at_call 79; (with_reducible refine (Reader_At g s1 _ (hr1.ext hk2)).mono ?_); rintro r w' ⟨rfl, rfl⟩))
            simp only [Exit.jump]
            go_ret
            refine ⟨ret_int ?_, (hk.trans hk1).trans hk2.any, ?_⟩
            · rw [HV2.out]; rfl
            · rw [HV1.out]; exact hr1.ext hk2
          by_cases hi9 : i = 9
          · subst hi9
            obtain rfl : c = 1 := by omega
            have t2 : ((7 * ((9 : Nat) : Int)) == 63) = true := by decide
            go_wp2_with (first
              | (go_at_call 133; (with_reducible refine (HB.out).mono ?_); rintro r w1 ⟨rfl, hk1, hr1⟩)
              | (go_at_call 102; (with_reducible refine (Reader_Good g s1 _ hr1).mono ?_); rintro r w2 ⟨rfl, hk2⟩)
              | (go_at_call 79; (with_reducible refine (Reader_At g s1 _ (hr1.ext hk2)).mono ?_); rintro r w' ⟨rfl, rfl⟩))
            simp only [Exit.jump]
            go_ret
            refine ⟨ret_int ?_, (hk.trans hk1).trans hk2.any, ?_⟩
            · rw [HV2.out]; have := HJ.out.1; simp at this; rw [show IntKind.u64.wrap 9223372036854775808 = 9223372036854775808 from by decide] at this; simpa using this
            · rw [HV1.out]; exact hr1.ext hk2
          · have t1 : (c == 0) = false := by simp; omega
            have t2 : ((7 * (i : Int)) == 63) = false := by simp; omega
            go_wp2_with (first
              | (go_at_call 133; (with_reducible refine (HB.out).mono ?_); rintro r w1 ⟨rfl, hk1, hr1⟩)
              | (go_at_call 102; (with_reducible refine (Reader_Good g s1 _ hr1).mono ?_); rintro r w2 ⟨rfl, hk2⟩)
              | (go_at_call 79; (with_reducible refine (Reader_At g s1 _ (hr1.ext hk2)).mono ?_); rintro r w' ⟨rfl, rfl⟩))
            simp only [Exit.jump]
            go_ret
            refine ⟨ret_int ?_, (hk.trans hk1).trans hk2.any, ?_⟩
            · rw [HV2.out]; have := HJ.out.1; simpa [hcm] using this
            · rw [HV1.out]; exact hr1.ext hk2
        · obtain ⟨hu2, hd2⟩ := upto_more HU.out hd c1 c2 c3
          have hi8 : i ≤ 8 := by omega
          have HU2 := Lib.hid hu2
          have HD2 := Lib.hid hd2
          have HJ := Lib.hid (or_join i (by omega) x (c % 128) x0 x1 (by omega) (by omega) (fun h => by omega))
          clear hu2 hd2 HV hd
          have t1 : (c == 0) = false := by simp; omega
          have t2 : ((7 * (i : Int)) == 63) = false := by simp; omega
          go_wp2_with (first
            | (go_at_call 133; (with_reducible refine (HB.out).mono ?_); rintro r w1 ⟨rfl, hk1, hr1⟩)
            | (go_at_call 102; (with_reducible refine (Reader_Good g s1 _ hr1).mono ?_); rintro r w2 ⟨rfl, hk2⟩)
            | (go_at_call 79; (with_reducible refine (Reader_At g s1 _ (hr1.ext hk2)).mono ?_); rintro r w' ⟨rfl, rfl⟩))
          go_step3
          obtain ⟨j1, j2, j3⟩ := HJ.out
          rw [j1, show (7 * (i : Int) + 7) = 7 * ((i + 1 : Nat) : Int) from by omega]
          refine ⟨rfl, ⟨i + 1, _, _, _, _, _, _, _, _, _, _, _, _, _, _, _, _, _, _, _, _, _, _, _, _, _, _, _, _, _, _, _, _, _, _, _, _, _, _, _, _, _, _, _, _, _, _, _, _, _, _, rfl, by omega, fun h => absurd hc h, j3, j2, HU2.out, by omega, (hk.trans hk1).trans hk2.any, ?_⟩, ?_⟩
          · have := hr1.ext hk2
            rw [← HS1.out] at this
            exact this
          · simp [intOf]; omega
    · obtain rfl := hci hc
      have hB := Reader_Byte g (s.adv ((0 : Nat) : Int)) w' hr
      rw [show ((0 : Nat) : Int) = 0 from rfl, byte_bad s hc] at hB
      have hv := vint_bad hc
      rw [HV.out] at hv
      injection hv with hv1 hv2
      subst hv1 hv2
      have hg : S.good = false := by simp [RS.good, hc]
      have HB := Lib.hid hB
      clear hB hc hci
      go_wp2_with (first
        | (go_at_call 133; (with_reducible refine (HB.out).mono ?_); rintro r w1 ⟨rfl, hk1, hr1⟩)
        | (go_at_call 102; (with_reducible refine (Reader_Good g S _ hr1).mono ?_); rintro r w2 ⟨rfl, hk2⟩))
      simp only [Exit.jump]
      go_ret
      exact ⟨rfl, (hk.trans hk1).trans hk2.any, hr1.ext hk2⟩
  case first =>
    intro hpass
    go_wp2_with (go_at_call 79; (with_reducible refine (Reader_At g s _ h0).mono ?_); rintro r w' ⟨rfl, rfl⟩)
    go_step3
    simp only [Exit.then]
    go_step
    have e0 : s.adv ((0 : Nat) : Int) = s := by unfold RS.adv; simp
    refine hpass _ _ ?_
    exact ⟨0, 0, _, _, _, _, _, _, _, _, _, _, _, _, _, _, _, _, _, _, _, _, _, _, _, _, _, _, _, _, _, _, _, _, _, _, _, _, _, _, _, _, _, _, _, _, _, _, _, _, _, rfl, by omega, fun _ => rfl, by omega, by simp, upto_zero s hby, by omega, Kept.refl _ _, by rw [e0]; exact h0⟩
end Go.Proofs.Ytgphhganepjaiaa
