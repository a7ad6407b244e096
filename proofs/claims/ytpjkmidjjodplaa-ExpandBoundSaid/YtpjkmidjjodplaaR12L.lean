/-
  Chapter 12: ExpandBound, the row: the law returns true at every input, and leaves what was there.
-/
import Derived.Test.YtpjkmidjjodplaaL12B
import Derived.Test.YtpjkmidjjodplaaTopT
import Derived.Test.YtpjkmidjjodplaaCellExpandBound
set_option linter.all false
set_option linter.unusedSimpArgs false
set_option linter.unusedVariables false
set_option linter.unnecessarySimpa false
namespace Go.Proofs.Ytpjkmidjjodplaa
open Go.RowKit Go.ChangeShapes Go.WideShapes Go.ChangeAt

set_option maxRecDepth 100000 in
theorem ExpandBound_lifted (os : Os) (started : os.Started) (H : Type) (enc : TypeId × Value → H) :
    ReturnsInHanded {} Try.checked os 7 .any (Rows.expandBoundSpec.pre6 enc Try.prog Try.f7 Rows.expandBoundRow.domain false) (Rows.expandBoundSpec.post enc Try.prog Try.f7 false true false false) := by
  refine returnsInHanded_of_change (C := Try.checked) Try.own started (by kernel_rfl) Try.func7
    (ChangeSpec.witness6 (enc := enc) (C := Try.checked) false ⟨#[], #[.slice none 0 0, .int .i64 0], []⟩ 8 (by kernel_rfl) (by kernel_rfl) (by kernel_rfl) (by kernel_rfl)) ?_
  intro W base args ds gs before hval0 hW hcnd _
  have hval : ∀ (j : Nat) t v, Try.f7.params[j]? = some t → args[j]? = some v → Value.okWide Try.prog W .any base t v := hval0
  have hW' := hW
  obtain ⟨p, q, hA0, hV, rfl, hfz, hnd⟩ := hW
  have hA : DataW.TrodAll enc Try.prog W 0 (fun _ => true) true Try.f7.params.toList args.toList ds p := hA0
  rw [Try.params7] at hA hval
  obtain ⟨v0, vs0, d0, ds0, p0, q0, hargs, rfl, rfl, h0, r0⟩ := trodAll_cons hA
  obtain ⟨v1, vs1, d1, ds1, p1, q1, rfl, rfl, rfl, h1, r1⟩ := trodAll_cons r0
  obtain ⟨rfl, rfl, rfl⟩ := trodAll_nil r1
  obtain ⟨al⟩ := args
  simp only at hargs
  subst hargs
  obtain ⟨rfl, rfl⟩ := trodVars_none hV
  obtain ⟨ysl, hysl, wysl⟩ := open_slsh 4 (show shOf Try.prog 4 22 = some (.sl true 3 shTok) from by kernel_rfl) Try.underlying22 (hval 0 22 v0 rfl rfl) h0
  obtain ⟨l, el, wl⟩ := tks_of wysl
  rw [el] at hysl
  obtain ⟨b, rfl, rfl, rfl, wb⟩ := open_int Try.underlying3 (hval 1 3 v1 rfl rfl) h1
  refine ((law_ExpandBound l b wl (i64_wf wb).1 (i64_wf wb).2).top (RepL.cons hysl (RepL.cons (.lit _) (RepL.nil _)))).mono fun r W' ⟨he, hb⟩ => ?_
  subst he
  exact ⟨_, rfl, law_post Try.laidOut (fn := Try.f7) hW' rfl (by kernel_rfl) _ Try.underlying4 rfl rfl hb⟩
theorem ExpandBound_holds : Rows.ExpandBoundSaid :=
  OpenClaim.holds_of_wide 7 Try.f7 rfl rfl rfl rfl rfl rfl rfl ⟨rfl, rfl, rfl, rfl, rfl⟩ rfl rfl rfl rfl rfl CellExpandBound.named Try.func7 CellExpandBound.closed CellExpandBound.inst CellExpandBound.wrap
    (fun os started H enc _ => ExpandBound_lifted os started H enc)
#print axioms ExpandBound_holds
end Go.Proofs.Ytpjkmidjjodplaa
