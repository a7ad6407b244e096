/-
  Chapter 24: EntryCopies, the row: the law returns true at every input, and leaves what was there.
-/
import Derived.Test.YtnfagphepkeedaaB2
set_option linter.all false
set_option linter.unusedSimpArgs false
set_option linter.unusedVariables false
set_option linter.unnecessarySimpa false
namespace Go.Proofs.Ytnfagphepkeedaa
open Go.RowKit Go.ChangeShapes Go.WideShapes Go.ChangeAt

set_option maxRecDepth 100000 in
theorem EntryCopies_lifted (os : Os) (started : os.Started) (H : Type) (enc : TypeId × Value → H) :
    ReturnsInHanded {} Try.checked os 3 .any (Rows.entryCopiesSpec.pre6 enc Try.prog Try.f3 Rows.entryCopiesRow.domain false) (Rows.entryCopiesSpec.post enc Try.prog Try.f3 false true false false) := by
  refine returnsInHanded_of_change (C := Try.checked) Try.own started (by kernel_rfl) Try.func3
    (ChangeSpec.witness6 (enc := enc) (C := Try.checked) false ⟨#[], #[.agg #[.slice none 0 0, .slice none 0 0], .agg #[.slice none 0 0, .slice none 0 0]], []⟩ 8 (by kernel_rfl) (by kernel_rfl) (by kernel_rfl) (by kernel_rfl)) ?_
  intro W base args ds gs before hval0 hW hcnd _
  have hval : ∀ (j : Nat) t v, Try.f3.params[j]? = some t → args[j]? = some v → Value.okWide Try.prog W .any base t v := hval0
  have hW' := hW
  obtain ⟨p, q, hA0, hV, rfl, hfz, hnd⟩ := hW
  have hA : DataW.TrodAll enc Try.prog W 0 (fun _ => true) true Try.f3.params.toList args.toList ds p := hA0
  rw [Try.params3] at hA hval
  obtain ⟨v0, vs0, d0, ds0, p0, q0, hargs, rfl, rfl, h0, r0⟩ := trodAll_cons hA
  obtain ⟨v1, vs1, d1, ds1, p1, q1, rfl, rfl, rfl, h1, r1⟩ := trodAll_cons r0
  obtain ⟨rfl, rfl, rfl⟩ := trodAll_nil r1
  obtain ⟨al⟩ := args
  simp only at hargs
  subst hargs
  obtain ⟨rfl, rfl⟩ := trodVars_none hV
  obtain ⟨ysa, hysa, wysa⟩ := open_stsh 6 (show shOf Try.prog 6 25 = some shEn from by kernel_rfl) Try.underlying25 (hval 0 25 v0 rfl rfl) h0
  obtain ⟨a, ea, wa⟩ := en_of wysa
  rw [ea] at hysa
  obtain ⟨ysb, hysb, wysb⟩ := open_stsh 6 (show shOf Try.prog 6 25 = some shEn from by kernel_rfl) Try.underlying25 (hval 1 25 v1 rfl rfl) h1
  obtain ⟨b, eb, wb⟩ := en_of wysb
  rw [eb] at hysb
  refine ((law_EntryCopies a b wa wb).top (RepL.cons hysa (RepL.cons hysb (RepL.nil _)))).mono fun r W' ⟨he, hb⟩ => ?_
  subst he
  exact ⟨_, rfl, law_post Try.laidOut (fn := Try.f3) hW' rfl (by kernel_rfl) _ Try.underlying4 rfl rfl hb⟩
theorem EntryCopies_holds : Rows.EntryCopiesSaid :=
  OpenClaim.holds_of_wide 3 Try.f3 rfl rfl rfl rfl rfl rfl rfl ⟨rfl, rfl, rfl, rfl, rfl⟩ rfl rfl rfl rfl rfl CellEntryCopies.named Try.func3 CellEntryCopies.closed CellEntryCopies.inst CellEntryCopies.wrap
    (fun os started H enc _ => EntryCopies_lifted os started H enc)
#print axioms EntryCopies_holds
end Go.Proofs.Ytnfagphepkeedaa
