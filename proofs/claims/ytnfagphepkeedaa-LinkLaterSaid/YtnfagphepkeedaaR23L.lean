/-
  Chapter 23: LinkLater, the row: the law returns true at every input, and leaves what was there.
-/
import Derived.Test.YtnfagphepkeedaaB2
set_option linter.all false
set_option linter.unusedSimpArgs false
set_option linter.unusedVariables false
set_option linter.unnecessarySimpa false
namespace Go.Proofs.Ytnfagphepkeedaa
open Go.RowKit Go.ChangeShapes Go.WideShapes Go.ChangeAt

set_option maxRecDepth 100000 in
theorem LinkLater_lifted (os : Os) (started : os.Started) (H : Type) (enc : TypeId × Value → H) :
    ReturnsInHanded {} Try.checked os 4 .any (Rows.linkLaterSpec.pre6 enc Try.prog Try.f4 Rows.linkLaterRow.domain false) (Rows.linkLaterSpec.post enc Try.prog Try.f4 false true false false) := by
  refine returnsInHanded_of_change (C := Try.checked) Try.own started (by kernel_rfl) Try.func4
    (ChangeSpec.witness6 (enc := enc) (C := Try.checked) false ⟨#[], #[.int .u64 0, .slice none 0 0, .int .u64 0], []⟩ 8 (by kernel_rfl) (by kernel_rfl) (by kernel_rfl) (by kernel_rfl)) ?_
  intro W base args ds gs before hval0 hW hcnd _
  have hval : ∀ (j : Nat) t v, Try.f4.params[j]? = some t → args[j]? = some v → Value.okWide Try.prog W .any base t v := hval0
  have hW' := hW
  obtain ⟨p, q, hA0, hV, rfl, hfz, hnd⟩ := hW
  have hA : DataW.TrodAll enc Try.prog W 0 (fun _ => true) true Try.f4.params.toList args.toList ds p := hA0
  rw [Try.params4] at hA hval
  obtain ⟨v0, vs0, d0, ds0, p0, q0, hargs, rfl, rfl, h0, r0⟩ := trodAll_cons hA
  obtain ⟨v1, vs1, d1, ds1, p1, q1, rfl, rfl, rfl, h1, r1⟩ := trodAll_cons r0
  obtain ⟨v2, vs2, d2, ds2, p2, q2, rfl, rfl, rfl, h2, r2⟩ := trodAll_cons r1
  obtain ⟨rfl, rfl, rfl⟩ := trodAll_nil r2
  obtain ⟨al⟩ := args
  simp only at hargs
  subst hargs
  obtain ⟨rfl, rfl⟩ := trodVars_none hV
  obtain ⟨p, rfl, rfl, rfl, wp⟩ := open_int Try.underlying29 (hval 0 29 v0 rfl rfl) h0
  obtain ⟨ysl, hysl, wysl⟩ := open_slsh 4 (show shOf Try.prog 4 22 = some (.sl true 2 shLk) from by kernel_rfl) Try.underlying22 (hval 1 22 v1 rfl rfl) h1
  obtain ⟨l, el, wl⟩ := lks_of wysl
  rw [el] at hysl
  obtain ⟨q, rfl, rfl, rfl, wq⟩ := open_int Try.underlying29 (hval 2 29 v2 rfl rfl) h2
  refine ((law_LinkLater p l q wl (u64_wf wp).1 (u64_wf wp).2 (u64_wf wq).1 (u64_wf wq).2).top (RepL.cons (.lit _) (RepL.cons hysl (RepL.cons (.lit _) (RepL.nil _))))).mono fun r W' ⟨he, hb⟩ => ?_
  subst he
  exact ⟨_, rfl, law_post Try.laidOut (fn := Try.f4) hW' rfl (by kernel_rfl) _ Try.underlying4 rfl rfl hb⟩
theorem LinkLater_holds : Rows.LinkLaterSaid :=
  OpenClaim.holds_of_wide 4 Try.f4 rfl rfl rfl rfl rfl rfl rfl ⟨rfl, rfl, rfl, rfl, rfl⟩ rfl rfl rfl rfl rfl CellLinkLater.named Try.func4 CellLinkLater.closed CellLinkLater.inst CellLinkLater.wrap
    (fun os started H enc _ => LinkLater_lifted os started H enc)
#print axioms LinkLater_holds
end Go.Proofs.Ytnfagphepkeedaa
