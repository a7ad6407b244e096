/-
  Chapter 35: LegacyOnes, the row: the law returns true at every input, and leaves what was there.
-/
import Derived.Test.YtnfagphepkeedaaGreatB4
set_option linter.all false
set_option linter.unusedSimpArgs false
set_option linter.unusedVariables false
set_option linter.unnecessarySimpa false
namespace Go.Proofs.YtnfagphepkeedaaGreat
open Go.RowKit Go.ChangeShapes Go.WideShapes Go.ChangeAt

set_option maxRecDepth 100000 in
theorem LegacyOnes_lifted (os : Os) (started : os.Started) (H : Type) (enc : TypeId × Value → H) :
    ReturnsInHanded {} Tryz.checked os 4 .any (Rows.legacyOnesSpec.pre6 enc Tryz.prog Tryz.f4 Rows.legacyOnesRow.domain false) (Rows.legacyOnesSpec.post enc Tryz.prog Tryz.f4 false true false false) := by
  refine returnsInHanded_of_change (C := Tryz.checked) Tryz.own started (by kernel_rfl) Tryz.func4
    (ChangeSpec.witness6 (enc := enc) (C := Tryz.checked) false ⟨#[], #[.agg #[.int .u64 0, .int .u64 0, .slice none 0 0], .agg #[.int .u64 0, .int .u64 0, .slice none 0 0]], []⟩ 8 (by kernel_rfl) (by kernel_rfl) (by kernel_rfl) (by kernel_rfl)) ?_
  intro W base args ds gs before hval0 hW hcnd _
  have hval : ∀ (j : Nat) t v, Tryz.f4.params[j]? = some t → args[j]? = some v → Value.okWide Tryz.prog W .any base t v := hval0
  have hW' := hW
  obtain ⟨p, q, hA0, hV, rfl, hfz, hnd⟩ := hW
  have hA : DataW.TrodAll enc Tryz.prog W 0 (fun _ => true) true Tryz.f4.params.toList args.toList ds p := hA0
  rw [Tryz.params4] at hA hval
  obtain ⟨v0, vs0, d0, ds0, p0, q0, hargs, rfl, rfl, h0, r0⟩ := trodAll_cons hA
  obtain ⟨v1, vs1, d1, ds1, p1, q1, rfl, rfl, rfl, h1, r1⟩ := trodAll_cons r0
  obtain ⟨rfl, rfl, rfl⟩ := trodAll_nil r1
  obtain ⟨al⟩ := args
  simp only at hargs
  subst hargs
  obtain ⟨rfl, rfl⟩ := trodVars_none hV
  obtain ⟨ysu, hysu, wysu⟩ := open_stsh 8 (show shOf Tryz.prog 8 27 = some shS1 from by kernel_rfl) Tryz.underlying27 (hval 0 27 v0 rfl rfl) h0
  obtain ⟨u, eu, wu⟩ := s1_of wysu
  rw [eu] at hysu
  obtain ⟨yso, hyso, wyso⟩ := open_stsh 8 (show shOf Tryz.prog 8 27 = some shS1 from by kernel_rfl) Tryz.underlying27 (hval 1 27 v1 rfl rfl) h1
  obtain ⟨o, eo, wo⟩ := s1_of wyso
  rw [eo] at hyso
  refine ((law_LegacyOnes u o wu.1 wo.1 wu.2.1 wu.2.2).top (RepL.cons hysu (RepL.cons hyso (RepL.nil _)))).mono fun r W' ⟨he, hb⟩ => ?_
  subst he
  exact ⟨_, rfl, law_post Tryz.laidOut (fn := Tryz.f4) hW' rfl (by kernel_rfl) _ Tryz.underlying4 rfl rfl hb⟩
theorem LegacyOnes_holds : Rows.LegacyOnesSaid :=
  OpenClaim.holds_of_wide 4 Tryz.f4 rfl rfl rfl rfl rfl rfl rfl ⟨rfl, rfl, rfl, rfl, rfl⟩ rfl rfl rfl rfl rfl CellLegacyOnes.named Tryz.func4 CellLegacyOnes.closed CellLegacyOnes.inst CellLegacyOnes.wrap
    (fun os started H enc _ => LegacyOnes_lifted os started H enc)
#print axioms LegacyOnes_holds
end Go.Proofs.YtnfagphepkeedaaGreat
