/-
  Chapter 08: FrameFinds, the row: the law returns true at every input, and leaves what was there.
-/
import Derived.Test.YtpjkmidjjodplaaTopF
import Derived.Test.YtpjkmidjjodplaaCellFrameFinds
set_option linter.all false
set_option linter.unusedSimpArgs false
set_option linter.unusedVariables false
set_option linter.unnecessarySimpa false
namespace Go.Proofs.Ytpjkmidjjodplaa
open Go.RowKit Go.ChangeShapes Go.WideShapes Go.ChangeAt

set_option maxRecDepth 100000 in
theorem FrameFinds_lifted (os : Os) (started : os.Started) (H : Type) (enc : TypeId × Value → H) :
    ReturnsInHanded {} Try.checked os 16 .any (Rows.frameFindsSpec.pre6 enc Try.prog Try.f16 Rows.frameFindsRow.domain false) (Rows.frameFindsSpec.post enc Try.prog Try.f16 false true false false) := by
  refine returnsInHanded_of_change (C := Try.checked) Try.own started (by kernel_rfl) Try.func16
    (ChangeSpec.witness6 (enc := enc) (C := Try.checked) false ⟨#[], #[.slice none 0 0, .slice none 0 0], []⟩ 8 (by kernel_rfl) (by kernel_rfl) (by kernel_rfl) (by kernel_rfl)) ?_
  intro W base args ds gs before hval0 hW hcnd _
  have hval : ∀ (j : Nat) t v, Try.f16.params[j]? = some t → args[j]? = some v → Value.okWide Try.prog W .any base t v := hval0
  have hW' := hW
  obtain ⟨p, q, hA0, hV, rfl, hfz, hnd⟩ := hW
  have hA : DataW.TrodAll enc Try.prog W 0 (fun _ => true) true Try.f16.params.toList args.toList ds p := hA0
  rw [Try.params16] at hA hval
  obtain ⟨v0, vs0, d0, ds0, p0, q0, hargs, rfl, rfl, h0, r0⟩ := trodAll_cons hA
  obtain ⟨v1, vs1, d1, ds1, p1, q1, rfl, rfl, rfl, h1, r1⟩ := trodAll_cons r0
  obtain ⟨rfl, rfl, rfl⟩ := trodAll_nil r1
  obtain ⟨al⟩ := args
  simp only at hargs
  subst hargs
  obtain ⟨rfl, rfl⟩ := trodVars_none hV
  obtain ⟨ysl, hysl, wysl⟩ := open_slsh 4 (show shOf Try.prog 4 96 = some (.sl false 1 (.sl false 1 (.int .u8))) from by kernel_rfl) Try.underlying96 (hval 0 96 v0 rfl rfl) h0
  obtain ⟨l, el, wl⟩ := bss_of wysl
  rw [el] at hysl
  obtain ⟨ysb, hysb, wysb⟩ := open_slsh 4 (show shOf Try.prog 4 96 = some (.sl false 1 (.sl false 1 (.int .u8))) from by kernel_rfl) Try.underlying96 (hval 1 96 v1 rfl rfl) h1
  obtain ⟨b, eb, wb⟩ := bss_of wysb
  rw [eb] at hysb
  refine ((law_FrameFinds l b wl wb).top (RepL.cons hysl (RepL.cons hysb (RepL.nil _)))).mono fun r W' ⟨he, hb⟩ => ?_
  subst he
  exact ⟨_, rfl, law_post Try.laidOut (fn := Try.f16) hW' rfl (by kernel_rfl) _ Try.underlying4 rfl rfl hb⟩
theorem FrameFinds_holds : Rows.FrameFindsSaid :=
  OpenClaim.holds_of_wide 16 Try.f16 rfl rfl rfl rfl rfl rfl rfl ⟨rfl, rfl, rfl, rfl, rfl⟩ rfl rfl rfl rfl rfl CellFrameFinds.named Try.func16 CellFrameFinds.closed CellFrameFinds.inst CellFrameFinds.wrap
    (fun os started H enc _ => FrameFinds_lifted os started H enc)
#print axioms FrameFinds_holds
end Go.Proofs.Ytpjkmidjjodplaa
