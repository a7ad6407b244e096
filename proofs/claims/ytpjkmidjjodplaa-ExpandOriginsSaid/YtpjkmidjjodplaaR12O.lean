/-
  Chapter 12: ExpandOrigins, the row: the law returns true at every input, and leaves what was there.
-/
import Derived.Test.YtpjkmidjjodplaaL12O
import Derived.Test.YtpjkmidjjodplaaTopT
import Derived.Test.YtpjkmidjjodplaaCellExpandOrigins
set_option linter.all false
set_option linter.unusedSimpArgs false
set_option linter.unusedVariables false
set_option linter.unnecessarySimpa false
namespace Go.Proofs.Ytpjkmidjjodplaa
open Go.RowKit Go.ChangeShapes Go.WideShapes Go.ChangeAt

set_option maxRecDepth 100000 in
theorem ExpandOrigins_lifted (os : Os) (started : os.Started) (H : Type) (enc : TypeId × Value → H) :
    ReturnsInHanded {} Try.checked os 4 .any (Rows.expandOriginsSpec.pre6 enc Try.prog Try.f4 Rows.expandOriginsRow.domain false) (Rows.expandOriginsSpec.post enc Try.prog Try.f4 false true false false) := by
  refine returnsInHanded_of_change (C := Try.checked) Try.own started (by kernel_rfl) Try.func4
    (ChangeSpec.witness6 (enc := enc) (C := Try.checked) false ⟨#[], #[.slice none 0 0], []⟩ 8 (by kernel_rfl) (by kernel_rfl) (by kernel_rfl) (by kernel_rfl)) ?_
  intro W base args ds gs before hval0 hW hcnd _
  have hval : ∀ (j : Nat) t v, Try.f4.params[j]? = some t → args[j]? = some v → Value.okWide Try.prog W .any base t v := hval0
  have hW' := hW
  obtain ⟨p, q, hA0, hV, rfl, hfz, hnd⟩ := hW
  have hA : DataW.TrodAll enc Try.prog W 0 (fun _ => true) true Try.f4.params.toList args.toList ds p := hA0
  rw [Try.params4] at hA hval
  obtain ⟨v0, vs0, d0, ds0, p0, q0, hargs, rfl, rfl, h0, r0⟩ := trodAll_cons hA
  obtain ⟨rfl, rfl, rfl⟩ := trodAll_nil r0
  obtain ⟨al⟩ := args
  simp only at hargs
  subst hargs
  obtain ⟨rfl, rfl⟩ := trodVars_none hV
  obtain ⟨ysl, hysl, wysl⟩ := open_slsh 4 (show shOf Try.prog 4 22 = some (.sl true 3 shTok) from by kernel_rfl) Try.underlying22 (hval 0 22 v0 rfl rfl) h0
  obtain ⟨l, el, wl⟩ := tks_of wysl
  rw [el] at hysl
  refine ((law_ExpandOrigins l wl).top (RepL.cons hysl (RepL.nil _))).mono fun r W' ⟨he, hb⟩ => ?_
  subst he
  exact ⟨_, rfl, law_post Try.laidOut (fn := Try.f4) hW' rfl (by kernel_rfl) _ Try.underlying4 rfl rfl hb⟩
theorem ExpandOrigins_holds : Rows.ExpandOriginsSaid :=
  OpenClaim.holds_of_wide 4 Try.f4 rfl rfl rfl rfl rfl rfl rfl ⟨rfl, rfl, rfl, rfl, rfl⟩ rfl rfl rfl rfl rfl CellExpandOrigins.named Try.func4 CellExpandOrigins.closed CellExpandOrigins.inst CellExpandOrigins.wrap
    (fun os started H enc _ => ExpandOrigins_lifted os started H enc)
#print axioms ExpandOrigins_holds
end Go.Proofs.Ytpjkmidjjodplaa
