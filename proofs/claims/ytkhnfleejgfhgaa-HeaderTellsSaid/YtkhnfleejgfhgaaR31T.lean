/-
  Chapter 31: HeaderTells, the row: the law returns true at every input, and leaves what was there.
-/
import Derived.Test.YtkhnfleejgfhgaaL31B
import Derived.Test.YtkhnfleejgfhgaaTopH
import Derived.Test.YtkhnfleejgfhgaaCellHeaderTells
set_option linter.all false
set_option linter.unusedSimpArgs false
set_option linter.unusedVariables false
set_option linter.unnecessarySimpa false
namespace Go.Proofs.Ytkhnfleejgfhgaa
open Go.RowKit Go.ChangeShapes Go.WideShapes Go.ChangeAt

set_option maxRecDepth 100000 in
theorem HeaderTells_lifted (os : Os) (started : os.Started) (H : Type) (enc : TypeId × Value → H) :
    ReturnsInHanded {} Try.checked os 10 .any (Rows.headerTellsSpec.pre6 enc Try.prog Try.f10 Rows.headerTellsRow.domain false) (Rows.headerTellsSpec.post enc Try.prog Try.f10 false true false false) := by
  refine returnsInHanded_of_change (C := Try.checked) Try.own started (by kernel_rfl) Try.func10
    (ChangeSpec.witness6 (enc := enc) (C := Try.checked) false ⟨#[], #[.agg #[.int .i64 0, .int .u64 0, .int .u64 0], .int .i64 0, .int .u32 0], []⟩ 8 (by kernel_rfl) (by kernel_rfl) (by kernel_rfl) (by kernel_rfl)) ?_
  intro W base args ds gs before hval0 hW hcnd _
  have hval : ∀ (j : Nat) t v, Try.f10.params[j]? = some t → args[j]? = some v → Value.okWide Try.prog W .any base t v := hval0
  have hW' := hW
  obtain ⟨p, q, hA0, hV, rfl, hfz, hnd⟩ := hW
  have hA : DataW.TrodAll enc Try.prog W 0 (fun _ => true) true Try.f10.params.toList args.toList ds p := hA0
  rw [Try.params10] at hA hval
  obtain ⟨v0, vs0, d0, ds0, p0, q0, hargs, rfl, rfl, h0, r0⟩ := trodAll_cons hA
  obtain ⟨v1, vs1, d1, ds1, p1, q1, rfl, rfl, rfl, h1, r1⟩ := trodAll_cons r0
  obtain ⟨v2, vs2, d2, ds2, p2, q2, rfl, rfl, rfl, h2, r2⟩ := trodAll_cons r1
  obtain ⟨rfl, rfl, rfl⟩ := trodAll_nil r2
  obtain ⟨al⟩ := args
  simp only at hargs
  subst hargs
  obtain ⟨rfl, rfl⟩ := trodVars_none hV
  obtain ⟨ysd, hysd, wysd⟩ := open_stsh 6 (show shOf Try.prog 6 89 = some shHd from by kernel_rfl) Try.underlying89 (hval 0 89 v0 rfl rfl) h0
  obtain ⟨d, ed, wd⟩ := hd_of wysd
  rw [ed] at hysd
  obtain ⟨n, rfl, rfl, rfl, wn⟩ := open_int Try.underlying3 (hval 1 3 v1 rfl rfl) h1
  obtain ⟨x, rfl, rfl, rfl, wx⟩ := open_int Try.underlying90 (hval 2 90 v2 rfl rfl) h2
  refine ((law_HeaderTells' d n x wd.b0 (w32_wf wx).1 (w32_wf wx).2).top (RepL.cons hysd (RepL.cons (.lit _) (RepL.cons (.lit _) (RepL.nil _))))).mono fun r W' ⟨he, hb⟩ => ?_
  subst he
  exact ⟨_, rfl, law_post Try.laidOut (fn := Try.f10) hW' rfl (by kernel_rfl) _ Try.underlying4 rfl rfl hb⟩
theorem HeaderTells_holds : Rows.HeaderTellsSaid :=
  OpenClaim.holds_of_wide 10 Try.f10 rfl rfl rfl rfl rfl rfl rfl ⟨rfl, rfl, rfl, rfl, rfl⟩ rfl rfl rfl rfl rfl CellHeaderTells.named Try.func10 CellHeaderTells.closed CellHeaderTells.inst CellHeaderTells.wrap
    (fun os started H enc _ => HeaderTells_lifted os started H enc)
#print axioms HeaderTells_holds
end Go.Proofs.Ytkhnfleejgfhgaa
