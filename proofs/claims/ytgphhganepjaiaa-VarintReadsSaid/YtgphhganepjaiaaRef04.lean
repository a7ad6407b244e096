/-
  Contracts of the reference's Get, Read, Most, Int: the next number, by quotients.
-/
import Derived.Test.YtgphhganepjaiaaRefC
namespace Go.Proofs.Ytgphhganepjaiaa
open Go.RowKit

theorem vgo_cons (n c : Int) (t : List Int) : vgo n (c :: t) = if n = 9 ∧ 1 < c then (5, n, 0) else if 0 < n ∧ c = 0 then (4, n, 0) else if c < 128 then (0, n + 1, c)
    else ((vgo (n + 1) t).1, (vgo (n + 1) t).2.1, if (vgo (n + 1) t).1 = 0 then c % 128 + 128 * (vgo (n + 1) t).2.2 else 0) := rfl
/-- The number that the first k bytes tell. -/
def valTo (l : List Int) : Nat → Int
  | 0 => 0
  | k + 1 => valTo l k + 128 ^ k * (l.getD k 0 % 128)
theorem valTo_range (l : List Int) : ∀ k, 0 ≤ valTo l k ∧ valTo l k < 128 ^ k := by
  intro k
  induction k with
  | zero => simp [valTo]
  | succ k ih =>
    have hp : (0 : Int) < 128 ^ k := Int.pow_pos (by omega)
    have h1 : (0 : Int) ≤ 128 ^ k * (l.getD k 0 % 128) := Int.mul_nonneg (by omega) (by omega)
    have h2 : (128 : Int) ^ k * (l.getD k 0 % 128) ≤ 128 ^ k * 127 := Int.mul_le_mul_of_nonneg_left (by omega) (by omega)
    simp only [valTo, Int.pow_succ]
    omega
def UptoL (l : List Int) (k : Nat) : Prop := vgo 0 l = comb k (valTo l k) (vgo k (l.drop k))
theorem uptoL_zero (l : List Int) : UptoL l 0 := by
  unfold UptoL
  rw [List.drop_zero]
  have e0 : ((0 : Nat) : Int) = 0 := rfl
  rw [e0]
  have hf := vgo_fault l 0 (Int.le_refl _)
  generalize vgo 0 l = q at *
  obtain ⟨q1, q2, q3⟩ := q
  unfold comb
  simp only [valTo, Int.pow_zero, Int.one_mul, Int.zero_add] at *
  by_cases h : q1 = 0
  · rw [if_pos h]
  · rw [if_neg h, (hf h).1]
theorem drop_getD {l : List Int} {k : Nat} (h : k < l.length) : l.drop k = l.getD k 0 :: l.drop (k + 1) := by
  rw [List.drop_eq_getElem_cons h]; simp [h]
theorem vGet_over {l : List Int} {k : Nat} (hu : UptoL l k) (h : k < l.length) (h9 : k = 9) (h1 : 1 < l.getD k 0) : vGet l = (0, 0, (5, (k : Int))) := by
  unfold UptoL at hu
  have hq : vgo k (l.drop k) = (5, (k : Int), 0) := by rw [drop_getD h]; unfold vgo; rw [if_pos ⟨by omega, h1⟩]
  rw [hq] at hu
  unfold vGet
  rw [hu]
  simp [comb]
theorem vGet_min {l : List Int} {k : Nat} (hu : UptoL l k) (h : k < l.length) (h0 : 0 < k) (h1 : l.getD k 0 = 0) : vGet l = (0, 0, (4, (k : Int))) := by
  unfold UptoL at hu
  have hq : vgo k (l.drop k) = (4, (k : Int), 0) := by rw [drop_getD h]; unfold vgo; rw [if_neg (by omega), if_pos ⟨by omega, h1⟩]
  rw [hq] at hu
  unfold vGet
  rw [hu]
  simp [comb]
theorem vGet_last {l : List Int} {k : Nat} (hu : UptoL l k) (h : k < l.length) (h1 : ¬ (k = 9 ∧ 1 < l.getD k 0)) (h2 : ¬ (0 < k ∧ l.getD k 0 = 0)) (h3 : l.getD k 0 < 128) (h4 : 0 ≤ l.getD k 0) :
    vGet l = (valTo l (k + 1), (k : Int) + 1, (0, 0)) := by
  unfold UptoL at hu
  have hq : vgo k (l.drop k) = (0, (k : Int) + 1, l.getD k 0) := by rw [drop_getD h]; unfold vgo; rw [if_neg (by omega), if_neg (by omega), if_pos h3]
  rw [hq] at hu
  unfold vGet
  rw [hu]
  have e : l.getD k 0 % 128 = l.getD k 0 := by omega
  simp only [comb, valTo, if_true, e]
theorem vGet_end {l : List Int} (hu : UptoL l l.length) : vGet l = (0, 0, (1, (l.length : Int))) := by
  unfold UptoL at hu
  rw [List.drop_length] at hu
  unfold vGet
  rw [hu]
  simp [comb, vgo]
theorem uptoL_more {l : List Int} {k : Nat} (hu : UptoL l k) (h : k < l.length) (h1 : ¬ (k = 9 ∧ 1 < l.getD k 0)) (h2 : ¬ (0 < k ∧ l.getD k 0 = 0)) (h3 : ¬ l.getD k 0 < 128) : UptoL l (k + 1) := by
  unfold UptoL at *
  have hq : vgo k (l.drop k) = ((vgo (k + 1) (l.drop (k + 1))).1, (vgo (k + 1) (l.drop (k + 1))).2.1, if (vgo (k + 1) (l.drop (k + 1))).1 = 0 then l.getD k 0 % 128 + 128 * (vgo (k + 1) (l.drop (k + 1))).2.2 else 0) := by
    rw [drop_getD h, vgo_cons, if_neg (by omega), if_neg (by omega), if_neg h3]
  rw [hq] at hu
  rw [hu]
  have ei : ((k + 1 : Nat) : Int) = (k : Int) + 1 := by omega
  rw [ei]
  generalize vgo ((k : Int) + 1) (l.drop (k + 1)) = q
  obtain ⟨q1, q2, q3⟩ := q
  unfold comb
  simp only [valTo]
  by_cases h : q1 = 0
  · rw [if_pos h, if_pos h, if_pos h, Int.pow_succ, Int.mul_add, Int.mul_assoc, Int.add_assoc]
  · rw [if_neg h, if_neg h]
/-- The inner loop: what is left to be told, from the last byte down. -/
theorem horner (l : List Int) (k j : Nat) (x : Int) (h : valTo l k = 128 ^ (j + 1) * x + valTo l (j + 1)) (x0 : 0 ≤ x) (hV : valTo l k < 18446744073709551616) :
    valTo l k = 128 ^ j * (128 * x + l.getD j 0 % 128) + valTo l j ∧ 128 * x + l.getD j 0 % 128 < 18446744073709551616 := by
  have e : valTo l k = 128 ^ j * (128 * x + l.getD j 0 % 128) + valTo l j := by
    rw [h]
    simp only [valTo, Int.pow_succ, Int.mul_add, Int.mul_assoc]
    omega
  refine ⟨e, ?_⟩
  have hp : (1 : Int) ≤ 128 ^ j := Int.pow_pos (by omega)
  have hr := (valTo_range l j).1
  have h3 : 0 ≤ 128 * x + l.getD j 0 % 128 := by omega
  have : 1 * (128 * x + l.getD j 0 % 128) ≤ 128 ^ j * (128 * x + l.getD j 0 % 128) := Int.mul_le_mul_of_nonneg_right hp h3
  omega
theorem valTo_u64 {l : List Int} {k : Nat} (h9 : k ≤ 9) (h1 : ¬ (k = 9 ∧ 1 < l.getD k 0)) (h3 : l.getD k 0 < 128) (h4 : 0 ≤ l.getD k 0) : valTo l (k + 1) < 18446744073709551616 := by
  have hr := valTo_range l k
  simp only [valTo]
  have e : l.getD k 0 % 128 = l.getD k 0 := by omega
  rw [e]
  generalize l.getD k 0 = c at *
  have : k = 0 ∨ k = 1 ∨ k = 2 ∨ k = 3 ∨ k = 4 ∨ k = 5 ∨ k = 6 ∨ k = 7 ∨ k = 8 ∨ k = 9 := by omega
  rcases this with rfl | rfl | rfl | rfl | rfl | rfl | rfl | rfl | rfl | rfl <;> simp at hr h1 ⊢ <;> omega

set_option maxRecDepth 100000 in
set_option maxHeartbeats 2000000 in
theorem ref04_Get (v : Value) (l : List Int) (F : Nat → Prop) (w : World) (h : RdI .u8 w F v l) (hl : Bys l) (hn : l.length ≤ 140737488355328) :
    Calls Try.prog 80 #[v] w fun r w' => r = .returned (vGetV (vGet l)) ∧ Ext w w' := by
  obtain ⟨A, c, rfl, hlc, hcm, hA⟩ := h
  obtain ⟨R, hR⟩ : ∃ R, vGet l = R := ⟨_, rfl⟩
  rw [hR]
  have HR := Lib.hid hR
  clear hR
  go_enter Try.func80, Try.ntmps80
  obtain ⟨hbA, hE⟩ := new1 w 57 #[.int .i64 0, .int .i64 0]
  go_wp2
  go_loop [5] (fun i => ∃ k : Nat, k ≤ l.length ∧ k ≤ 9 ∧ i = .int .i64 k ∧ UptoL l k) (fun i => l.length - (intOf i).toNat)
  case atStart => exact ⟨0, Nat.zero_le _, by omega, rfl, uptoL_zero l⟩
  case round =>
    obtain ⟨k, hk, hk9, rfl, hu⟩ := hrel
    have HU := Lib.hid hu
    clear hu
    by_cases hlt : k < l.length
    · obtain ⟨b, o, rfl, hFb, hc⟩ := hA (by omega)
      obtain ⟨z, hz⟩ : ∃ z, l.getD k 0 = z := ⟨_, rfl⟩
      have hck := hc k hlt
      rw [hz] at hck
      have hlt2 : b < w.heap.size := World.block_lt_of_cell? w ⟨b, o + k, none⟩ hck
      have hzb : 0 ≤ z ∧ z < 256 := hz ▸ hl _ (getD_mem l k hlt)
      have HZ := Lib.hid hz
      have HC := Lib.hid hc
      clear hz hc hA
      by_cases k9 : k = 9
      · subst k9
        by_cases c1 : 1 < z
        · have hv := vGet_over (k := 9) HU.out hlt rfl (by rw [HZ.out]; exact c1)
          rw [HR.out] at hv
          have HV := Lib.hid hv
          clear hv
          go_wp2_with (go_at_call 131; (with_reducible refine (ref01_At _ _ _).mono ?_); rintro r w1 ⟨rfl, hk1⟩; have hb1 := hbA.kept hk1 trivial; have d0 := hb1.cell 0; have d1 := hb1.cell 1; simp at d0 d1; have fd0 := hb1.frozen 0; have fd1 := hb1.frozen 1)
          refine bodyPost_ret (v := vGetV (0, 0, (5, ((9 : Nat) : Int)))) (by simp [results, Try.results80, go_sem, d0, d1, flt]) rfl ⟨by rw [HV.out], ?_⟩
          repeat (first | with_reducible exact hE.trans hk1 | refine Kept.set_new ?_ (by simp) _ | refine Kept.alloc ?_ _ | refine Kept.drewN ?_ _ | refine Kept.drew ?_)
        by_cases c2 : z = 0
        · have hv := vGet_min (k := 9) HU.out hlt (by omega) (by rw [HZ.out]; exact c2)
          subst c2
          rw [HR.out] at hv
          have HV := Lib.hid hv
          clear hv
          go_wp2_with (go_at_call 131; (with_reducible refine (ref01_At _ _ _).mono ?_); rintro r w1 ⟨rfl, hk1⟩; have hb1 := hbA.kept hk1 trivial; have d0 := hb1.cell 0; have d1 := hb1.cell 1; simp at d0 d1; have fd0 := hb1.frozen 0; have fd1 := hb1.frozen 1)
          refine bodyPost_ret (v := vGetV (0, 0, (4, ((9 : Nat) : Int)))) (by simp [results, Try.results80, go_sem, d0, d1, flt]) rfl ⟨by rw [HV.out], ?_⟩
          repeat (first | with_reducible exact hE.trans hk1 | refine Kept.set_new ?_ (by simp) _ | refine Kept.alloc ?_ _ | refine Kept.drewN ?_ _ | refine Kept.drew ?_)
        · obtain rfl : z = 1 := by omega
          have hv := vGet_last (k := 9) HU.out hlt (by rw [HZ.out]; omega) (by rw [HZ.out]; omega) (by rw [HZ.out]; omega) (by rw [HZ.out]; omega)
          have hV := valTo_u64 (l := l) (k := 9) (by omega) (by rw [HZ.out]; omega) (by rw [HZ.out]; omega) (by rw [HZ.out]; omega)
          rw [HR.out] at hv
          have HV := Lib.hid hv
          have HVb := Lib.hid hV
          clear hv hV
          go_wp2
          go_loop [6, 7] (fun x i => ∃ (j : Nat) (X : Int), j ≤ 9 + 1 ∧ 0 ≤ X ∧ i = .int .i64 ((j : Int) - 1) ∧ x = .int .u64 X ∧ valTo l (9 + 1) = 128 ^ j * X + valTo l j) (fun _ i => (intOf i + 1).toNat)
          case atStart => exact ⟨9 + 1, 0, Nat.le_refl _, by omega, by first | rfl | (congr 1; omega), rfl, by omega⟩
          case round =>
            obtain ⟨j, X, hj, X0, rfl, rfl, he⟩ := hrel
            cases j with
            | zero =>
              have he' : valTo l (9 + 1) = X := by rw [he]; simp [valTo]
              have HE := Lib.hid he'
              clear he he'
              go_wp2
              refine bodyPost_ret (v := vGetV (X, (((9 : Nat) : Int) + 1, (0, 0)))) (by simp [results, Try.results80, go_sem]) rfl ⟨by rw [HV.out, HE.out], ?_⟩
              repeat (first | with_reducible exact hE | refine Kept.set_new ?_ (by simp) _ | refine Kept.alloc ?_ _ | refine Kept.drewN ?_ _ | refine Kept.drew ?_)
            | succ j =>
              obtain ⟨he2, hub⟩ := horner l (9 + 1) j X he X0 HVb.out
              have HE := Lib.hid he2
              obtain ⟨y, hy⟩ : ∃ y, l.getD j 0 = y := ⟨_, rfl⟩
              have hcj := HC.out j (by omega)
              have hyb : 0 ≤ y ∧ y < 256 := hy ▸ hl _ (getD_mem l j (by omega))
              rw [hy] at hcj hub
              have HY := Lib.hid hy
              clear he he2 hy hck
              have hjj : ((j + 1 : Nat) : Int) - 1 = (j : Int) := by omega
              rw [hjj]
              clear hjj
              go_wp2
              go_round
              case rel => exact ⟨j, _, by omega, by omega, by go_num, rfl, by rw [HE.out, HY.out]⟩
              case measure => first | (simp [intOf]; done) | (simp [intOf]; omega)
      have t9 : ((k : Int) == 9) = false := by simp; omega
      by_cases k0 : k = 0
      · subst k0
        simp only [Nat.add_zero] at hck
        by_cases c3 : z < 128
        · skip
          have hv := vGet_last (k := 0) HU.out hlt (by rw [HZ.out]; omega) (by rw [HZ.out]; omega) (by rw [HZ.out]; omega) (by rw [HZ.out]; omega)
          have hV := valTo_u64 (l := l) (k := 0) (by omega) (by rw [HZ.out]; omega) (by rw [HZ.out]; omega) (by rw [HZ.out]; omega)
          rw [HR.out] at hv
          have HV := Lib.hid hv
          have HVb := Lib.hid hV
          clear hv hV
          go_wp2
          go_loop [6, 7] (fun x i => ∃ (j : Nat) (X : Int), j ≤ 0 + 1 ∧ 0 ≤ X ∧ i = .int .i64 ((j : Int) - 1) ∧ x = .int .u64 X ∧ valTo l (0 + 1) = 128 ^ j * X + valTo l j) (fun _ i => (intOf i + 1).toNat)
          case atStart => exact ⟨0 + 1, 0, Nat.le_refl _, by omega, by first | rfl | (congr 1; omega), rfl, by omega⟩
          case round =>
            obtain ⟨j, X, hj, X0, rfl, rfl, he⟩ := hrel
            cases j with
            | zero =>
              have he' : valTo l (0 + 1) = X := by rw [he]; simp [valTo]
              have HE := Lib.hid he'
              clear he he'
              go_wp2
              refine bodyPost_ret (v := vGetV (X, (((0 : Nat) : Int) + 1, (0, 0)))) (by simp [results, Try.results80, go_sem]) rfl ⟨by rw [HV.out, HE.out], ?_⟩
              repeat (first | with_reducible exact hE | refine Kept.set_new ?_ (by simp) _ | refine Kept.alloc ?_ _ | refine Kept.drewN ?_ _ | refine Kept.drew ?_)
            | succ j =>
              obtain ⟨he2, hub⟩ := horner l (0 + 1) j X he X0 HVb.out
              have HE := Lib.hid he2
              obtain ⟨y, hy⟩ : ∃ y, l.getD j 0 = y := ⟨_, rfl⟩
              have hcj := HC.out j (by omega)
              have hyb : 0 ≤ y ∧ y < 256 := hy ▸ hl _ (getD_mem l j (by omega))
              rw [hy] at hcj hub
              have HY := Lib.hid hy
              clear he he2 hy hck
              have hjj : ((j + 1 : Nat) : Int) - 1 = (j : Int) := by omega
              rw [hjj]
              clear hjj
              go_wp2
              go_round
              case rel => exact ⟨j, _, by omega, by omega, by go_num, rfl, by rw [HE.out, HY.out]⟩
              case measure => first | (simp [intOf]; done) | (simp [intOf]; omega)
        · have hu2 := uptoL_more (k := 0) HU.out hlt (by rw [HZ.out]; omega) (by rw [HZ.out]; omega) (by rw [HZ.out]; omega)
          have HU2 := Lib.hid hu2
          clear hu2
          go_wp2
          go_round
          case rel => exact ⟨1, by omega, by omega, by go_num, HU2.out⟩
          case measure => first | (simp [intOf]; done) | (simp [intOf]; omega)
      by_cases c2 : z = 0
      · have hv := vGet_min HU.out hlt (by omega) (by rw [HZ.out]; exact c2)
        subst c2
        rw [HR.out] at hv
        have HV := Lib.hid hv
        clear hv
        go_wp2_with (go_at_call 131; (with_reducible refine (ref01_At _ _ _).mono ?_); rintro r w1 ⟨rfl, hk1⟩; have hb1 := hbA.kept hk1 trivial; have d0 := hb1.cell 0; have d1 := hb1.cell 1; simp at d0 d1; have fd0 := hb1.frozen 0; have fd1 := hb1.frozen 1)
        refine bodyPost_ret (v := vGetV (0, 0, (4, ((k : Nat) : Int)))) (by simp [results, Try.results80, go_sem, d0, d1, flt]) rfl ⟨by rw [HV.out], ?_⟩
        repeat (first | with_reducible exact hE.trans hk1 | refine Kept.set_new ?_ (by simp) _ | refine Kept.alloc ?_ _ | refine Kept.drewN ?_ _ | refine Kept.drew ?_)
      have t1 : (z == 0) = false := by simp; omega
      by_cases c3 : z < 128
      · skip
        have hv := vGet_last (k := k) HU.out hlt (by rw [HZ.out]; omega) (by rw [HZ.out]; omega) (by rw [HZ.out]; omega) (by rw [HZ.out]; omega)
        have hV := valTo_u64 (l := l) (k := k) (by omega) (by rw [HZ.out]; omega) (by rw [HZ.out]; omega) (by rw [HZ.out]; omega)
        rw [HR.out] at hv
        have HV := Lib.hid hv
        have HVb := Lib.hid hV
        clear hv hV
        go_wp2
        go_loop [6, 7] (fun x i => ∃ (j : Nat) (X : Int), j ≤ k + 1 ∧ 0 ≤ X ∧ i = .int .i64 ((j : Int) - 1) ∧ x = .int .u64 X ∧ valTo l (k + 1) = 128 ^ j * X + valTo l j) (fun _ i => (intOf i + 1).toNat)
        case atStart => exact ⟨k + 1, 0, Nat.le_refl _, by omega, by first | rfl | (congr 1; omega), rfl, by omega⟩
        case round =>
          obtain ⟨j, X, hj, X0, rfl, rfl, he⟩ := hrel
          cases j with
          | zero =>
            have he' : valTo l (k + 1) = X := by rw [he]; simp [valTo]
            have HE := Lib.hid he'
            clear he he'
            go_wp2
            refine bodyPost_ret (v := vGetV (X, (((k : Nat) : Int) + 1, (0, 0)))) (by simp [results, Try.results80, go_sem]) rfl ⟨by rw [HV.out, HE.out], ?_⟩
            repeat (first | with_reducible exact hE | refine Kept.set_new ?_ (by simp) _ | refine Kept.alloc ?_ _ | refine Kept.drewN ?_ _ | refine Kept.drew ?_)
          | succ j =>
            obtain ⟨he2, hub⟩ := horner l (k + 1) j X he X0 HVb.out
            have HE := Lib.hid he2
            obtain ⟨y, hy⟩ : ∃ y, l.getD j 0 = y := ⟨_, rfl⟩
            have hcj := HC.out j (by omega)
            have hyb : 0 ≤ y ∧ y < 256 := hy ▸ hl _ (getD_mem l j (by omega))
            rw [hy] at hcj hub
            have HY := Lib.hid hy
            clear he he2 hy hck
            have hjj : ((j + 1 : Nat) : Int) - 1 = (j : Int) := by omega
            rw [hjj]
            clear hjj
            go_wp2
            go_round
            case rel => exact ⟨j, _, by omega, by omega, by go_num, rfl, by rw [HE.out, HY.out]⟩
            case measure => first | (simp [intOf]; done) | (simp [intOf]; omega)
      · have hu2 := uptoL_more HU.out hlt (by rw [HZ.out]; omega) (by rw [HZ.out]; omega) (by rw [HZ.out]; omega)
        have HU2 := Lib.hid hu2
        clear hu2
        go_wp2
        go_round
        case rel => exact ⟨k + 1, by omega, by omega, by go_num, HU2.out⟩
        case measure => first | (simp [intOf]; done) | (simp [intOf]; omega)
    · have ek : k = l.length := by omega
      have hu := HU.out
      rw [ek] at hu
      have hv := vGet_end hu
      rw [HR.out] at hv
      have HV := Lib.hid hv
      clear hv hu ek
      go_wp2_with (go_at_call 131; (with_reducible refine (ref01_At _ _ _).mono ?_); rintro r w1 ⟨rfl, hk1⟩; have hb1 := hbA.kept hk1 trivial; have d0 := hb1.cell 0; have d1 := hb1.cell 1; simp at d0 d1; have fd0 := hb1.frozen 0; have fd1 := hb1.frozen 1)
      refine bodyPost_ret (v := vGetV (0, 0, (1, (l.length : Int)))) (by simp [results, Try.results80, go_sem, d0, d1, flt]) rfl ⟨by rw [HV.out], ?_⟩
      repeat (first | with_reducible exact hE.trans hk1 | refine Kept.set_new ?_ (by simp) _ | refine Kept.alloc ?_ _ | refine Kept.drewN ?_ _ | refine Kept.drew ?_)
end Go.Proofs.Ytgphhganepjaiaa
