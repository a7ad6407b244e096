/-
  Chapter 35: LegacyTwos, the row: the law returns true at every input, and leaves what was there.
-/
import Derived.Test.YtnfagphepkeedaaGreatB5
set_option linter.all false
set_option linter.unusedSimpArgs false
set_option linter.unusedVariables false
set_option linter.unnecessarySimpa false
namespace Go.Proofs.YtnfagphepkeedaaGreat
open Go.RowKit Go.ChangeShapes Go.WideShapes Go.ChangeAt

set_option maxRecDepth 100000 in
theorem LegacyTwos_lifted (os : Os) (started : os.Started) (H : Type) (enc : TypeId × Value → H) :
    ReturnsInHanded {} Tryz.checked os 6 .any (Rows.legacyTwosSpec.pre6 enc Tryz.prog Tryz.f6 Rows.legacyTwosRow.domain false) (Rows.legacyTwosSpec.post enc Tryz.prog Tryz.f6 false true false false) := by
  refine returnsInHanded_of_change (C := Tryz.checked) Tryz.own started (by kernel_rfl) Tryz.func6
    (ChangeSpec.witness6 (enc := enc) (C := Tryz.checked) false ⟨#[], #[.agg #[.int .u64 0, .slice none 0 0], .agg #[.int .u64 0, .slice none 0 0]], []⟩ 8 (by kernel_rfl) (by kernel_rfl) (by kernel_rfl) (by kernel_rfl)) ?_
  intro W base args ds gs before hval0 hW hcnd _
  have hval : ∀ (j : Nat) t v, Tryz.f6.params[j]? = some t → args[j]? = some v → Value.okWide Tryz.prog W .any base t v := hval0
  have hW' := hW
  obtain ⟨p, q, hA0, hV, rfl, hfz, hnd⟩ := hW
  have hA : DataW.TrodAll enc Tryz.prog W 0 (fun _ => true) true Tryz.f6.params.toList args.toList ds p := hA0
  rw [Tryz.params6] at hA hval
  obtain ⟨v0, vs0, d0, ds0, p0, q0, hargs, rfl, rfl, h0, r0⟩ := trodAll_cons hA
  obtain ⟨v1, vs1, d1, ds1, p1, q1, rfl, rfl, rfl, h1, r1⟩ := trodAll_cons r0
  obtain ⟨rfl, rfl, rfl⟩ := trodAll_nil r1
  obtain ⟨al⟩ := args
  simp only at hargs
  subst hargs
  obtain ⟨rfl, rfl⟩ := trodVars_none hV
  obtain ⟨ysu, hysu, wysu⟩ := open_stsh 9 (show shOf Tryz.prog 9 35 = some shS2 from by kernel_rfl) Tryz.underlying35 (hval 0 35 v0 rfl rfl) h0
  obtain ⟨u, eu, wu⟩ := s2_of wysu
  rw [eu] at hysu
  obtain ⟨yso, hyso, wyso⟩ := open_stsh 9 (show shOf Tryz.prog 9 35 = some shS2 from by kernel_rfl) Tryz.underlying35 (hval 1 35 v1 rfl rfl) h1
  obtain ⟨o, eo, wo⟩ := s2_of wyso
  rw [eo] at hyso
  refine ((law_LegacyTwos u o wu wo).top (RepL.cons hysu (RepL.cons hyso (RepL.nil _)))).mono fun r W' ⟨he, hb⟩ => ?_
  subst he
  exact ⟨_, rfl, law_post Tryz.laidOut (fn := Tryz.f6) hW' rfl (by kernel_rfl) _ Tryz.underlying4 rfl rfl hb⟩
theorem LegacyTwos_holds : Rows.LegacyTwosSaid :=
  OpenClaim.holds_of_wide 6 Tryz.f6 rfl rfl rfl rfl rfl rfl rfl ⟨rfl, rfl, rfl, rfl, rfl⟩ rfl rfl rfl rfl rfl CellLegacyTwos.named Tryz.func6 CellLegacyTwos.closed CellLegacyTwos.inst CellLegacyTwos.wrap
    (fun os started H enc _ => LegacyTwos_lifted os started H enc)
#print axioms LegacyTwos_holds
end Go.Proofs.YtnfagphepkeedaaGreat
