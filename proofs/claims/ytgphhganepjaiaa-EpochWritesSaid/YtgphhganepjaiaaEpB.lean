/-
  EpochAdmits: whom a node admits, sealed or not. For every input.
-/
import Derived.Test.YtgphhganepjaiaaEpA
import Derived.Test.YtgphhganepjaiaaCellEpochAdmits
import Derived.Deep.QuietTactic
import Derived.BigQuiet
namespace Go.Proofs.Ytgphhganepjaiaa
open Go.RowKit Go.ChangeShapes Go.WideShapes Go.ChangeAt

set_option maxHeartbeats 400000 in
theorem law17_live (w : World) : Calls Try.prog 30 #[] w fun r w' => r = .returned (.bool true) ∧ w = w' := by
  have e1 : epAdmit 3 true 3 = 18 := by decide
  have e2 : epAdmit 3 true 4 = 13 := by decide
  have e3 : epRight 1 = true := by decide
  go_enter Try.func30, Try.ntmps30
  go_wp2_with (first | (go_at_call 28; (with_reducible refine (epoch_Admit _ _ _ (by omega) (by omega) _).mono ?_); rintro r w' ⟨rfl, rfl⟩) | (go_at_call 34; (with_reducible refine (epoch_Right _ (by omega) _).mono ?_); rintro r w' ⟨rfl, rfl⟩))
  all_goals (go_ret; exact ⟨rfl, rfl⟩)

theorem admits_sealed (own e : Int) : epAdmit own true e ≠ 0 := by
  unfold epAdmit; split <;> (try split) <;> (try split) <;> simp_all
theorem admits_one (own other e : Int) (sealed : Bool) (h : epAdmit own false e = 0) (h' : epAdmit other sealed e = 0) : own = other := by
  unfold epAdmit at h h'
  by_cases a1 : (!epRight own || !epRight e) = true
  · rw [if_pos a1] at h; omega
  rw [if_neg a1] at h
  by_cases a2 : (!epRight other || !epRight e) = true
  · rw [if_pos a2] at h'; omega
  rw [if_neg a2] at h'
  split at h
  · omega
  split at h'
  · omega
  split at h
  · omega
  split at h'
  · omega
  simp_all
  omega

set_option maxHeartbeats 400000 in
theorem law_EpochAdmits (x y e : Int) (sealed : Bool) (hx : 0 ≤ x) (hy : 0 ≤ y) (he : 0 ≤ e) (w : World) :
    Calls Try.prog 3 #[.agg #[.int .u64 x, .int .u64 y], .int .u64 e, .bool sealed] w fun r w' => r = .returned (.bool true) ∧ Below w.heap.size w w' := by
  have k1 : (epAdmit x true e == 0) = false := by have := admits_sealed x e; simp [this]
  generalize hm : epAdmit x true e = m at k1
  go_enter Try.func3, Try.ntmps3
  go_wp2
  go_quiet (fail)
  go_wp2_with (first | (go_at_call 28; (with_reducible refine (epoch_Admit _ _ _ (by omega) (by omega) _).mono ?_); rintro r w' ⟨rfl, rfl⟩) | (go_at_call 29; (with_reducible refine (ref17_Admit _ _ _ (by omega) (by omega) _).mono ?_); rintro r w' ⟨rfl, rfl⟩) | (go_at_call 30; (with_reducible refine (law17_live _).mono ?_); rintro r w' ⟨rfl, rfl⟩))
  · have := admits_one _ _ _ _ (by assumption) (by assumption); go_ret; exact ⟨by simp_all, below_drewN ((Below.refl _ _).alloc (Nat.le_refl _) _) _⟩
  · have := admits_one _ _ _ _ ‹epAdmit x false e = 0› ‹epAdmit y sealed e = 0›; contradiction
  · go_ret; exact ⟨rfl, below_drewN ((Below.refl _ _).alloc (Nat.le_refl _) _) _⟩
  · go_ret; exact ⟨rfl, below_drewN ((Below.refl _ _).alloc (Nat.le_refl _) _) _⟩

set_option maxRecDepth 100000 in
theorem EpochAdmits_lifted (os : Os) (started : os.Started) (H : Type) (enc : TypeId × Value → H) :
    ReturnsInHanded {} Try.checked os 3 .any (Rows.epochAdmitsSpec.pre6 enc Try.prog Try.f3 Rows.epochAdmitsRow.domain false) (Rows.epochAdmitsSpec.post enc Try.prog Try.f3 false true false false) := by
  refine returnsInHanded_of_change (C := Try.checked) Try.own started (by kernel_rfl) Try.func3
    (ChangeSpec.witness6 (enc := enc) (C := Try.checked) false ⟨#[], #[.agg #[.int .u64 0, .int .u64 0], .int .u64 0, .bool false], []⟩ 8 (by kernel_rfl) (by kernel_rfl) (by kernel_rfl) (by kernel_rfl)) ?_
  intro W base args ds gs before hval0 hW hcnd _
  have hval : ∀ (j : Nat) t v, Try.f3.params[j]? = some t → args[j]? = some v → Value.okWide Try.prog W .any base t v := hval0
  have hW' := hW
  obtain ⟨p, q, hA0, hV, rfl, hfz, hnd⟩ := hW
  have hA : DataW.TrodAll enc Try.prog W 0 (fun _ => true) true Try.f3.params.toList args.toList ds p := hA0
  rw [Try.params3] at hA hval
  obtain ⟨v0, vs0, d0, ds0, p0, q0, hargs, rfl, rfl, h0, r0⟩ := trodAll_cons hA
  obtain ⟨v1, vs1, d1, ds1, p1, q1, rfl, rfl, rfl, h1, r1⟩ := trodAll_cons r0
  obtain ⟨v2, vs2, d2, ds2, p2, q2, rfl, rfl, rfl, h2, r2⟩ := trodAll_cons r1
  obtain ⟨rfl, rfl, rfl⟩ := trodAll_nil r2
  obtain ⟨al⟩ := args
  simp only at hargs
  subst hargs
  obtain ⟨rfl, rfl⟩ := trodVars_none hV
  obtain ⟨x, y, rfl, rfl, rfl, wx, wy⟩ := open_arr2 Try.underlying23 Try.underlying22 (by kernel_rfl) (by kernel_rfl) (hval 0 23 v0 rfl rfl) h0
  obtain ⟨e, rfl, rfl, rfl, we⟩ := open_int Try.underlying22 (hval 1 22 v1 rfl rfl) h1
  obtain ⟨sl, rfl, rfl, rfl⟩ := open_bool Try.underlying4 (hval 2 4 v2 rfl rfl) h2
  refine (law_EpochAdmits x y e sl (u64_wf wx).1 (u64_wf wy).1 (u64_wf we).1 W).mono fun r W' ⟨he, hb⟩ => ?_
  subst he
  exact ⟨_, rfl, law_post Try.laidOut (fn := Try.f3) hW' rfl (by kernel_rfl) _ Try.underlying4 rfl rfl hb⟩
theorem EpochAdmits_holds : Rows.EpochAdmitsSaid :=
  OpenClaim.holds_of_wide 3 Try.f3 rfl rfl rfl rfl rfl rfl rfl ⟨rfl, rfl, rfl, rfl, rfl⟩ rfl rfl rfl rfl rfl CellEpochAdmits.named Try.func3 CellEpochAdmits.closed CellEpochAdmits.inst CellEpochAdmits.wrap
    (fun os started H enc _ => EpochAdmits_lifted os started H enc)
#print axioms EpochAdmits_holds

end Go.Proofs.Ytgphhganepjaiaa
