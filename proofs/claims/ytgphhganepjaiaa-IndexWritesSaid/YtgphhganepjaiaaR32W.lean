/-
  Chapter 32: IndexWrites, the row: the law returns true at every input, and leaves what was there.
-/
import Derived.Test.YtgphhganepjaiaaL32B
import Derived.Test.YtgphhganepjaiaaTopM
import Derived.Test.YtgphhganepjaiaaCellIndexWrites
set_option linter.all false
set_option linter.unusedSimpArgs false
set_option linter.unusedVariables false
set_option linter.unnecessarySimpa false
namespace Go.Proofs.Ytgphhganepjaiaa
open Go.RowKit Go.ChangeShapes Go.WideShapes Go.ChangeAt

set_option maxRecDepth 100000 in
theorem IndexWrites_lifted (os : Os) (started : os.Started) (H : Type) (enc : TypeId × Value → H) :
    ReturnsInHanded {} Try.checked os 27 .any (Rows.indexWritesSpec.pre6 enc Try.prog Try.f27 Rows.indexWritesRow.domain false) (Rows.indexWritesSpec.post enc Try.prog Try.f27 false true false false) := by
  refine returnsInHanded_of_change (C := Try.checked) Try.own started (by kernel_rfl) Try.func27
    (ChangeSpec.witness6 (enc := enc) (C := Try.checked) false ⟨#[], #[.slice none 0 0, .slice none 0 0, .slice none 0 0], []⟩ 8 (by kernel_rfl) (by kernel_rfl) (by kernel_rfl) (by kernel_rfl)) ?_
  intro W base args ds gs before hval0 hW hcnd _
  have hval : ∀ (j : Nat) t v, Try.f27.params[j]? = some t → args[j]? = some v → Value.okWide Try.prog W .any base t v := hval0
  have hW' := hW
  obtain ⟨p, q, hA0, hV, rfl, hfz, hnd⟩ := hW
  have hA : DataW.TrodAll enc Try.prog W 0 (fun _ => true) true Try.f27.params.toList args.toList ds p := hA0
  rw [Try.params27] at hA hval
  obtain ⟨v0, vs0, d0, ds0, p0, q0, hargs, rfl, rfl, h0, r0⟩ := trodAll_cons hA
  obtain ⟨v1, vs1, d1, ds1, p1, q1, rfl, rfl, rfl, h1, r1⟩ := trodAll_cons r0
  obtain ⟨v2, vs2, d2, ds2, p2, q2, rfl, rfl, rfl, h2, r2⟩ := trodAll_cons r1
  obtain ⟨rfl, rfl, rfl⟩ := trodAll_nil r2
  obtain ⟨al⟩ := args
  simp only at hargs
  subst hargs
  obtain ⟨rfl, rfl⟩ := trodVars_none hV
  obtain ⟨ysl, hysl, wysl⟩ := open_slsh 4 (show shOf Try.prog 4 61 = some (.sl true 3 shMark) from by kernel_rfl) Try.underlying61 (hval 0 61 v0 rfl rfl) h0
  obtain ⟨l, el, wl⟩ := mks_of wysl
  rw [el] at hysl
  obtain ⟨yso, hyso, wyso⟩ := open_slsh 4 (show shOf Try.prog 4 61 = some (.sl true 3 shMark) from by kernel_rfl) Try.underlying61 (hval 1 61 v1 rfl rfl) h1
  obtain ⟨o, eo, wo⟩ := mks_of wyso
  rw [eo] at hyso
  obtain ⟨m, hm, wm⟩ := open_sl Try.underlying37 Try.underlying5 (by kernel_rfl) (hval 2 37 v2 rfl rfl) h2
  refine ((law_IndexWrites l o m wl (bys_wf wm)).top (RepL.cons hysl (RepL.cons hyso (RepL.cons hm.rep (RepL.nil _))))).mono fun r W' ⟨he, hb⟩ => ?_
  subst he
  exact ⟨_, rfl, law_post Try.laidOut (fn := Try.f27) hW' rfl (by kernel_rfl) _ Try.underlying4 rfl rfl hb⟩
theorem IndexWrites_holds : Rows.IndexWritesSaid :=
  OpenClaim.holds_of_wide 27 Try.f27 rfl rfl rfl rfl rfl rfl rfl ⟨rfl, rfl, rfl, rfl, rfl⟩ rfl rfl rfl rfl rfl CellIndexWrites.named Try.func27 CellIndexWrites.closed CellIndexWrites.inst CellIndexWrites.wrap
    (fun os started H enc _ => IndexWrites_lifted os started H enc)
#print axioms IndexWrites_holds
end Go.Proofs.Ytgphhganepjaiaa
