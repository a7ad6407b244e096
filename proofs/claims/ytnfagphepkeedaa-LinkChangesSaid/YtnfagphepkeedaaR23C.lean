/-
  Chapter 23: LinkChanges, the row: the law returns true at every input, and leaves what was there.
-/
import Derived.Test.YtnfagphepkeedaaB2
import Derived.Test.YtnfagphepkeedaaB3
set_option linter.all false
set_option linter.unusedSimpArgs false
set_option linter.unusedVariables false
set_option linter.unnecessarySimpa false
namespace Go.Proofs.Ytnfagphepkeedaa
open Go.RowKit Go.ChangeShapes Go.WideShapes Go.ChangeAt

set_option maxRecDepth 100000 in
theorem LinkChanges_lifted (os : Os) (started : os.Started) (H : Type) (enc : TypeId × Value → H) :
    ReturnsInHanded {} Try.checked os 5 .any (Rows.linkChangesSpec.pre6 enc Try.prog Try.f5 Rows.linkChangesRow.domain false) (Rows.linkChangesSpec.post enc Try.prog Try.f5 false true false false) := by
  refine returnsInHanded_of_change (C := Try.checked) Try.own started (by kernel_rfl) Try.func5
    (ChangeSpec.witness6 (enc := enc) (C := Try.checked) false ⟨#[], #[.slice none 0 0, .agg #[.int .u64 0, .slice none 0 0], .int .u64 0], []⟩ 8 (by kernel_rfl) (by kernel_rfl) (by kernel_rfl) (by kernel_rfl)) ?_
  intro W base args ds gs before hval0 hW hcnd _
  have hval : ∀ (j : Nat) t v, Try.f5.params[j]? = some t → args[j]? = some v → Value.okWide Try.prog W .any base t v := hval0
  have hW' := hW
  obtain ⟨p, q, hA0, hV, rfl, hfz, hnd⟩ := hW
  have hA : DataW.TrodAll enc Try.prog W 0 (fun _ => true) true Try.f5.params.toList args.toList ds p := hA0
  rw [Try.params5] at hA hval
  obtain ⟨v0, vs0, d0, ds0, p0, q0, hargs, rfl, rfl, h0, r0⟩ := trodAll_cons hA
  obtain ⟨v1, vs1, d1, ds1, p1, q1, rfl, rfl, rfl, h1, r1⟩ := trodAll_cons r0
  obtain ⟨v2, vs2, d2, ds2, p2, q2, rfl, rfl, rfl, h2, r2⟩ := trodAll_cons r1
  obtain ⟨rfl, rfl, rfl⟩ := trodAll_nil r2
  obtain ⟨al⟩ := args
  simp only at hargs
  subst hargs
  obtain ⟨rfl, rfl⟩ := trodVars_none hV
  obtain ⟨ysl, hysl, wysl⟩ := open_slsh 4 (show shOf Try.prog 4 22 = some (.sl true 2 shLk) from by kernel_rfl) Try.underlying22 (hval 0 22 v0 rfl rfl) h0
  obtain ⟨l, el, wl⟩ := lks_of wysl
  rw [el] at hysl
  obtain ⟨ysx, hysx, wysx⟩ := open_stsh 4 (show shOf Try.prog 4 32 = some shLk from by kernel_rfl) Try.underlying32 (hval 1 32 v1 rfl rfl) h1
  obtain ⟨x, ex, wx⟩ := lk_of wysx
  rw [ex] at hysx
  obtain ⟨p, rfl, rfl, rfl, wp⟩ := open_int Try.underlying29 (hval 2 29 v2 rfl rfl) h2
  refine ((law_LinkChanges l x p).top (RepL.cons hysl (RepL.cons hysx (RepL.cons (.lit _) (RepL.nil _))))).mono fun r W' ⟨he, hb⟩ => ?_
  subst he
  exact ⟨_, rfl, law_post Try.laidOut (fn := Try.f5) hW' rfl (by kernel_rfl) _ Try.underlying4 rfl rfl hb⟩
theorem LinkChanges_holds : Rows.LinkChangesSaid :=
  OpenClaim.holds_of_wide 5 Try.f5 rfl rfl rfl rfl rfl rfl rfl ⟨rfl, rfl, rfl, rfl, rfl⟩ rfl rfl rfl rfl rfl CellLinkChanges.named Try.func5 CellLinkChanges.closed CellLinkChanges.inst CellLinkChanges.wrap
    (fun os started H enc _ => LinkChanges_lifted os started H enc)
#print axioms LinkChanges_holds
end Go.Proofs.Ytnfagphepkeedaa
