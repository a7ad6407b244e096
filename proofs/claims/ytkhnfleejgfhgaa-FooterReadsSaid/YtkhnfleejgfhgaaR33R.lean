/-
  Chapter 33: FooterReads, the row: the law returns true at every input, and leaves what was there.
-/
import Derived.Test.YtkhnfleejgfhgaaL33
import Derived.Test.YtkhnfleejgfhgaaTop
import Derived.Test.YtkhnfleejgfhgaaCellFooterReads
set_option linter.all false
set_option linter.unusedSimpArgs false
set_option linter.unusedVariables false
set_option linter.unnecessarySimpa false
namespace Go.Proofs.Ytkhnfleejgfhgaa
open Go.RowKit Go.ChangeShapes Go.WideShapes Go.ChangeAt

set_option maxRecDepth 100000 in
theorem FooterReads_lifted (os : Os) (started : os.Started) (H : Type) (enc : TypeId × Value → H) :
    ReturnsInHanded {} Try.checked os 5 .any (Rows.footerReadsSpec.pre6 enc Try.prog Try.f5 Rows.footerReadsRow.domain false) (Rows.footerReadsSpec.post enc Try.prog Try.f5 false true false false) := by
  refine returnsInHanded_of_change (C := Try.checked) Try.own started (by kernel_rfl) Try.func5
    (ChangeSpec.witness6 (enc := enc) (C := Try.checked) false ⟨#[], #[.slice none 0 0], []⟩ 8 (by kernel_rfl) (by kernel_rfl) (by kernel_rfl) (by kernel_rfl)) ?_
  intro W base args ds gs before hval0 hW hcnd _
  have hval : ∀ (j : Nat) t v, Try.f5.params[j]? = some t → args[j]? = some v → Value.okWide Try.prog W .any base t v := hval0
  have hW' := hW
  obtain ⟨p, q, hA0, hV, rfl, hfz, hnd⟩ := hW
  have hA : DataW.TrodAll enc Try.prog W 0 (fun _ => true) true Try.f5.params.toList args.toList ds p := hA0
  rw [Try.params5] at hA hval
  obtain ⟨v0, vs0, d0, ds0, p0, q0, hargs, rfl, rfl, h0, r0⟩ := trodAll_cons hA
  obtain ⟨rfl, rfl, rfl⟩ := trodAll_nil r0
  obtain ⟨al⟩ := args
  simp only at hargs
  subst hargs
  obtain ⟨rfl, rfl⟩ := trodVars_none hV
  obtain ⟨b, hb, wb⟩ := open_sl Try.underlying24 Try.underlying5 (by kernel_rfl) (hval 0 24 v0 rfl rfl) h0
  refine ((law_FooterReads b (bys_wf wb)).top (RepL.cons hb.rep (RepL.nil _))).mono fun r W' ⟨he, hb⟩ => ?_
  subst he
  exact ⟨_, rfl, law_post Try.laidOut (fn := Try.f5) hW' rfl (by kernel_rfl) _ Try.underlying4 rfl rfl hb⟩
theorem FooterReads_holds : Rows.FooterReadsSaid :=
  OpenClaim.holds_of_wide 5 Try.f5 rfl rfl rfl rfl rfl rfl rfl ⟨rfl, rfl, rfl, rfl, rfl⟩ rfl rfl rfl rfl rfl CellFooterReads.named Try.func5 CellFooterReads.closed CellFooterReads.inst CellFooterReads.wrap
    (fun os started H enc _ => FooterReads_lifted os started H enc)
#print axioms FooterReads_holds
end Go.Proofs.Ytkhnfleejgfhgaa
