/-
  Chapter 4: VarintBack.
-/
import Derived.Test.YtgphhganepjaiaaLiv04
import Derived.Test.YtgphhganepjaiaaCellVarintBack
namespace Go.Proofs.Ytgphhganepjaiaa
open Go.RowKit Go.ChangeShapes Go.WideShapes Go.ChangeAt

theorem vGet_back {x : Int} (b : List Int) (h0 : 0 ≤ x) (h1 : x < 18446744073709551616) : vGet (vb x ++ b) = (x, ((vb x).length : Int), (0, 0)) := by
  unfold vGet; rw [vgo_vb b h0 h1]; rfl
theorem Bys.append {l m : List Int} (h : Bys l) (h' : Bys m) : Bys (l ++ m) := fun z hz => by
  rcases List.mem_append.1 hz with h1 | h1
  · exact h z h1
  · exact h' z h1

set_option maxRecDepth 100000 in
set_option maxHeartbeats 2000000 in
theorem law_VarintBack (x y : Int) (x0 : 0 ≤ x) (x1 : x < 18446744073709551616) (y0 : 0 ≤ y) (y1 : y < 18446744073709551616) (v : Value) (l : List Int) (F : Nat → Prop) (w : World) (h : RdI .u8 w F v l) (hl : Bys l) :
    Calls Try.prog 13 #[.int .u64 x, .int .u64 y, v] w fun r w' => r = .returned (.bool true) ∧ Below w.heap.size w w' := by
  have HV := Lib.hid h
  obtain ⟨i0, hi, hz0, hz1, hz2⟩ := info_parts infoU8
  obtain ⟨A, c, rfl, hlc, hcm, _⟩ := h
  unfold maxLen at hcm
  by_cases hbig : 300 < l.length
  · go_enter Try.func13, Try.ntmps13
    (go_wp2_with fail; (with_reducible refine (live04 _).mono ?_); rintro r w1 ⟨rfl, hk1⟩)
    go_wp2
    go_ret
    exact ⟨rfl, hk1.toBelow⟩
  have hq := vGet_back l x0 x1
  have hxl := vb_len x
  have hyl := vb_len y
  have hbb := (vb_by x0 x1).append hl
  have hm : ¬ x < y → (vb y).length ≤ (vb x).length := fun h => vb_mono (by omega)
  have hs := varint_Size x x0 x1
  have hs' := varint_Size y y0 y1
  have hbt := varint_Bytes x x0 x1
  obtain ⟨T, hT⟩ : ∃ T, vb x = T := ⟨_, rfl⟩
  obtain ⟨U, hU⟩ : ∃ U, vb y = U := ⟨_, rfl⟩
  rw [hT] at hq hxl hbb hm hs hbt
  rw [hU] at hyl hm hs'
  obtain ⟨N, hN⟩ : ∃ N, T.length = N := ⟨_, rfl⟩
  obtain ⟨M, hM⟩ : ∃ M, U.length = M := ⟨_, rfl⟩
  rw [hN] at hq hxl hm hs
  rw [hM] at hyl hm hs'
  have HS := Lib.hid hs
  have HS' := Lib.hid hs'
  have HB := Lib.hid hbt
  have HQ := Lib.hid hq
  have HM := Lib.hid hm
  clear hT hU hM hs hs' hbt hq hm
  have c2 : x < y ∨ (¬ x < y ∧ M ≤ N) := by
    by_cases h : x < y
    · exact .inl h
    · exact .inr ⟨h, HM.out h⟩
  rcases c2 with hlt | ⟨hlt, hMN⟩
  all_goals
    go_enter Try.func13, Try.ntmps13
    (go_wp2_with fail; (with_reducible refine (HB.out _).mono ?_); rintro r w1 ⟨v1, rfl, hO1, hk1⟩)
    have hz1' := hk1.size
    (go_wp2_with (at_builtin; go_loud (refine wpList_append_I _ rfl _ _ _ rfl _ i0 _ 1 Try.underlying37 hi hz0 hz1 hz2 rfl .u8 w.heap.size _ _ T l rfl rfl hO1 _ (HV.out.ext hk1) (by first | omega | (simp; omega)) (by first | (simp [maxLen]; omega) | (unfold maxLen; omega)) (by first | omega | (simp; omega)) ?_); intro v2 w2 hO2 hg2 ha2))
    have hk2 : Ext w w2 := hk1.trans_ext (hO1.keepB hg2)
    have hget := varint_Get v2 _ _ w2 (hO2.rd (F := fun _ => True) (fun _ _ _ _ => trivial)) hbb (by simp; omega)
    rw [HQ.out] at hget
    have HG := Lib.hid hget
    clear hget
    (go_wp2_with fail; (with_reducible refine (HG.out).mono ?_); rintro r w3 ⟨rfl, hk3⟩)
    have hbA := Blk.new w3 57 #[.int .i64 0, .int .i64 0]
    (go_wp2_with fail; (with_reducible refine (HS.out _).mono ?_); rintro r w' ⟨rfl, rfl⟩)
    go_wp2_with (first | (go_at_call 72; (with_reducible refine (HS.out _).mono ?_); rintro r w' ⟨rfl, rfl⟩) | (go_at_call 72; (with_reducible refine (HS'.out _).mono ?_); rintro r w' ⟨rfl, rfl⟩) | (go_at_call 63; (with_reducible refine (live04 _).mono ?_); rintro r w4 ⟨rfl, hk4⟩))
    go_ret
    refine ⟨rfl, Kept.toBelow ?_⟩
    repeat (first | with_reducible exact Kept.refl _ _ | refine Kept.set_new ?_ (by first | (simp; done) | (simp; omega) | omega) _ | refine Kept.alloc ?_ _ | refine Kept.drewN ?_ _ | refine Kept.drew ?_ | with_reducible assumption | (apply Kept.trans; rotate_left 1; with_reducible assumption))

set_option maxRecDepth 100000 in
theorem VarintBack_lifted (os : Os) (started : os.Started) (H : Type) (enc : TypeId × Value → H) :
    ReturnsInHanded {} Try.checked os 13 .any (Rows.varintBackSpec.pre6 enc Try.prog Try.f13 Rows.varintBackRow.domain false) (Rows.varintBackSpec.post enc Try.prog Try.f13 false true false false) := by
  refine returnsInHanded_of_change (C := Try.checked) Try.own started (by kernel_rfl) Try.func13
    (ChangeSpec.witness6 (enc := enc) (C := Try.checked) false ⟨#[], #[.int .u64 0, .int .u64 0, .slice none 0 0], []⟩ 8 (by kernel_rfl) (by kernel_rfl) (by kernel_rfl) (by kernel_rfl)) ?_
  intro W base args ds gs before hval0 hW hcnd _
  have hval : ∀ (j : Nat) t v, Try.f13.params[j]? = some t → args[j]? = some v → Value.okWide Try.prog W .any base t v := hval0
  have hW' := hW
  obtain ⟨p, q, hA0, hV, rfl, hfz, hnd⟩ := hW
  have hA : DataW.TrodAll enc Try.prog W 0 (fun _ => true) true Try.f13.params.toList args.toList ds p := hA0
  rw [Try.params13] at hA hval
  obtain ⟨v0, vs0, d0, ds0, p0, q0, hargs, rfl, rfl, h0, r0⟩ := trodAll_cons hA
  obtain ⟨v1, vs1, d1, ds1, p1, q1, rfl, rfl, rfl, h1, r1⟩ := trodAll_cons r0
  obtain ⟨v2, vs2, d2, ds2, p2, q2, rfl, rfl, rfl, h2, r2⟩ := trodAll_cons r1
  obtain ⟨rfl, rfl, rfl⟩ := trodAll_nil r2
  obtain ⟨al⟩ := args
  simp only at hargs
  subst hargs
  obtain ⟨rfl, rfl⟩ := trodVars_none hV
  obtain ⟨x, rfl, rfl, rfl, wx⟩ := open_int Try.underlying22 (hval 0 22 v0 rfl rfl) h0
  obtain ⟨y, rfl, rfl, rfl, wy⟩ := open_int Try.underlying22 (hval 1 22 v1 rfl rfl) h1
  obtain ⟨l, hl, wl⟩ := open_sl Try.underlying37 Try.underlying5 (by kernel_rfl) (hval 2 37 v2 rfl rfl) h2
  refine (law_VarintBack x y (u64_wf wx).1 (u64_wf wx).2 (u64_wf wy).1 (u64_wf wy).2 v2 l _ W hl (bys_wf wl)).mono fun r W' ⟨he, hb⟩ => ?_
  subst he
  exact ⟨_, rfl, law_post Try.laidOut (fn := Try.f13) hW' rfl (by kernel_rfl) _ Try.underlying4 rfl rfl hb⟩
theorem VarintBack_holds : Rows.VarintBackSaid :=
  OpenClaim.holds_of_wide 13 Try.f13 rfl rfl rfl rfl rfl rfl rfl ⟨rfl, rfl, rfl, rfl, rfl⟩ rfl rfl rfl rfl rfl CellVarintBack.named Try.func13 CellVarintBack.closed CellVarintBack.inst CellVarintBack.wrap
    (fun os started H enc _ => VarintBack_lifted os started H enc)
#print axioms VarintBack_holds
end Go.Proofs.Ytgphhganepjaiaa
