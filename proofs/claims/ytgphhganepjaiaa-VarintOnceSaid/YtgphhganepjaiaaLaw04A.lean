/-
  Chapter 4: VarintOnce.
-/
import Derived.Test.YtgphhganepjaiaaLiv04
import Derived.Test.YtgphhganepjaiaaCellVarintOnce
namespace Go.Proofs.Ytgphhganepjaiaa
open Go.RowKit Go.ChangeShapes Go.WideShapes Go.ChangeAt

theorem vGet_once {l : List Int} (hb : Bys l) {X N : Int} (h : vGet l = (X, N, (0, 0))) : 1 ≤ N ∧ N ≤ l.length ∧ 0 ≤ X ∧ X < 18446744073709551616 ∧ vb X = l.take N.toNat := by
  unfold vGet at h
  by_cases h0 : (vgo 0 l).1 = 0
  · rw [if_pos h0] at h
    simp only [Prod.mk.injEq] at h
    obtain ⟨rfl, rfl, _⟩ := h
    obtain ⟨e1, e2, e3, e4, e5⟩ := vgo_back hb h0
    exact ⟨by omega, by omega, e4, by omega, e1⟩
  · rw [if_neg h0] at h
    simp only [Prod.mk.injEq] at h
    exact absurd h.2.2.1 h0
theorem vGet_cases (l : List Int) : ∃ X N C Af, vGet l = (X, N, (C, Af)) ∧ (C ≠ 0 → X = 0 ∧ N = 0) ∧ (C = 0 → Af = 0) := by
  unfold vGet
  by_cases h0 : (vgo 0 l).1 = 0
  · rw [if_pos h0]; exact ⟨_, _, _, _, rfl, fun h => absurd rfl h, fun _ => rfl⟩
  · rw [if_neg h0]; exact ⟨_, _, _, _, rfl, fun _ => ⟨rfl, rfl⟩, fun h => absurd h h0⟩

set_option maxRecDepth 100000 in
set_option maxHeartbeats 2000000 in
theorem law_VarintOnce (v : Value) (l : List Int) (F : Nat → Prop) (w : World) (h : RdI .u8 w F v l) (hl : Bys l) :
    Calls Try.prog 10 #[v] w fun r w' => r = .returned (.bool true) ∧ Below w.heap.size w w' := by
  have HV := Lib.hid h
  obtain ⟨A, c, rfl, hlc, hcm, _⟩ := h
  unfold maxLen at hcm
  obtain ⟨X, N, C, Af, hq, hq1, hq2⟩ := vGet_cases l
  by_cases hbig : 300 < l.length
  · go_enter Try.func10, Try.ntmps10
    (go_wp2_with fail; (with_reducible refine (live04 _).mono ?_); rintro r w1 ⟨rfl, hk1⟩)
    go_wp2
    go_ret
    exact ⟨rfl, hk1.toBelow⟩
  have hget := varint_Get _ l _ w HV.out hl (by omega)
  rw [hq] at hget
  have HG := Lib.hid hget
  clear hget
  have hnb : l.length ≤ 300 := by omega
  by_cases c0 : C = 0
  · obtain rfl := hq2 c0
    subst c0
    obtain ⟨n1, n2, x0, x1, hvb⟩ := vGet_once hl hq
    obtain ⟨i0, hi, hz0, hz1, hz2⟩ := info_parts infoU8
    obtain ⟨v', ⟨hsl, hsl2⟩, hpart⟩ := sliceAt_h (P := Try.prog) Try.underlying37 hi hz1 HV.out N (by omega) n2
    have HP := Lib.hid hpart
    obtain ⟨A', c', rfl, _, _, _⟩ := hpart
    have hsame : sameB (vb X) (l.take N.toNat) = true := by rw [hvb]; simp [sameB]
    have HS := Lib.hid hsame
    have hby1 := vb_by x0 x1
    have hby2 : Bys (l.take N.toNat) := fun z hz => hl z (List.mem_of_mem_take hz)
    clear hvb hq hq1 hq2 hsame
    obtain ⟨L, hL⟩ : ∃ L, l.take N.toNat = L := ⟨_, rfl⟩
    rw [hL] at HP HS hby2 hsl hsl2
    clear hL
    have hsm : ∀ (v2 : Value) (w2 : World), RdI .u8 w2 (fun _ => True) v2 (vb X) → RdI .u8 w2 F (.slice A' L.length c') L → Calls Try.prog 41 #[v2, .slice A' L.length c'] w2 fun r w' => r = .returned (.bool true) ∧ w2 = w' := fun v2 w2 h2 h3 => by
      have := ref02_Same v2 _ (vb X) L _ _ w2 h2 h3 hby1 hby2
      rwa [HS.out] at this
    go_enter Try.func10, Try.ntmps10
    (go_wp2_with fail; (with_reducible refine (HG.out).mono ?_); rintro r w1 ⟨rfl, hk1⟩)
    have hbA := Blk.new w1 57 #[.int .i64 0, .int .i64 0]
    have hE1 : Ext w (w1.alloc (.cells #[.int .i64 0, .int .i64 0] 57)) := hk1.alloc _
    go_wp2
    go_region_held3 (fun w' => True) (exact trivial) (first
      | (go_at_call 65; (with_reducible refine (varint_Bytes X x0 x1 _).mono ?_); rintro r w2 ⟨v2, rfl, hO2, hk2⟩)
      | (go_at_call 41; (with_reducible refine (hsm v2 _ (hO2.rd (F := fun _ => True) (fun _ _ _ _ => trivial)) (HP.out.ext (hE1.drew.trans hk2))).mono ?_); rintro r w3 ⟨rfl, rfl⟩)
      | (go_at_call 63; (with_reducible refine (live04 _).mono ?_); rintro r w4 ⟨rfl, hk4⟩))
    go_wp2
    go_ret
    refine ⟨rfl, Kept.toBelow ?_⟩
    repeat (first | with_reducible exact Kept.refl _ _ | refine Kept.set_new ?_ (by first | (simp; done) | (simp; omega) | omega) _ | refine Kept.alloc ?_ _ | refine Kept.drewN ?_ _ | refine Kept.drew ?_ | with_reducible assumption | (apply Kept.trans; rotate_left 1; with_reducible assumption))
  · obtain ⟨rfl, rfl⟩ := hq1 c0
    have c0' : (C == 0) = false := by simpa using c0
    go_enter Try.func10, Try.ntmps10
    (go_wp2_with fail; (with_reducible refine (HG.out).mono ?_); rintro r w1 ⟨rfl, hk1⟩)
    (go_wp2_with fail; (with_reducible refine (live04 _).mono ?_); rintro r w2 ⟨rfl, hk2⟩)
    go_wp2
    go_ret
    refine ⟨rfl, Kept.toBelow ?_⟩
    repeat (first | with_reducible exact Kept.refl _ _ | refine Kept.set_new ?_ (by first | (simp; done) | (simp; omega) | omega) _ | refine Kept.alloc ?_ _ | refine Kept.drewN ?_ _ | refine Kept.drew ?_ | with_reducible assumption | (apply Kept.trans; rotate_left 1; with_reducible assumption))

set_option maxRecDepth 100000 in
theorem VarintOnce_lifted (os : Os) (started : os.Started) (H : Type) (enc : TypeId × Value → H) :
    ReturnsInHanded {} Try.checked os 10 .any (Rows.varintOnceSpec.pre6 enc Try.prog Try.f10 Rows.varintOnceRow.domain false) (Rows.varintOnceSpec.post enc Try.prog Try.f10 false true false false) := by
  refine returnsInHanded_of_change (C := Try.checked) Try.own started (by kernel_rfl) Try.func10
    (ChangeSpec.witness6 (enc := enc) (C := Try.checked) false ⟨#[], #[.slice none 0 0], []⟩ 8 (by kernel_rfl) (by kernel_rfl) (by kernel_rfl) (by kernel_rfl)) ?_
  intro W base args ds gs before hval0 hW hcnd _
  have hval : ∀ (j : Nat) t v, Try.f10.params[j]? = some t → args[j]? = some v → Value.okWide Try.prog W .any base t v := hval0
  have hW' := hW
  obtain ⟨p, q, hA0, hV, rfl, hfz, hnd⟩ := hW
  have hA : DataW.TrodAll enc Try.prog W 0 (fun _ => true) true Try.f10.params.toList args.toList ds p := hA0
  rw [Try.params10] at hA hval
  obtain ⟨v0, vs0, d0, ds0, p0, q0, hargs, rfl, rfl, h0, r0⟩ := trodAll_cons hA
  obtain ⟨rfl, rfl, rfl⟩ := trodAll_nil r0
  obtain ⟨al⟩ := args
  simp only at hargs
  subst hargs
  obtain ⟨rfl, rfl⟩ := trodVars_none hV
  obtain ⟨l, hl, wl⟩ := open_sl Try.underlying37 Try.underlying5 (by kernel_rfl) (hval 0 37 v0 rfl rfl) h0
  refine (law_VarintOnce v0 l _ W hl (bys_wf wl)).mono fun r W' ⟨he, hb⟩ => ?_
  subst he
  exact ⟨_, rfl, law_post Try.laidOut (fn := Try.f10) hW' rfl (by kernel_rfl) _ Try.underlying4 rfl rfl hb⟩
theorem VarintOnce_holds : Rows.VarintOnceSaid :=
  OpenClaim.holds_of_wide 10 Try.f10 rfl rfl rfl rfl rfl rfl rfl ⟨rfl, rfl, rfl, rfl, rfl⟩ rfl rfl rfl rfl rfl CellVarintOnce.named Try.func10 CellVarintOnce.closed CellVarintOnce.inst CellVarintOnce.wrap
    (fun os started H enc _ => VarintOnce_lifted os started H enc)
#print axioms VarintOnce_holds
end Go.Proofs.Ytgphhganepjaiaa
