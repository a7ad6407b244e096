/-
  Chapter 5: ZigzagSigns, the row.
-/
import Derived.Test.YtgphhganepjaiaaL05
import Derived.Test.YtgphhganepjaiaaCellZigzagSigns
set_option linter.all false
set_option linter.unusedSimpArgs false
set_option linter.unusedVariables false
set_option linter.unnecessarySimpa false
namespace Go.Proofs.Ytgphhganepjaiaa
open Go.RowKit Go.ChangeShapes Go.WideShapes Go.ChangeAt

set_option maxRecDepth 100000 in
theorem ZigzagSigns_lifted (os : Os) (started : os.Started) (H : Type) (enc : TypeId × Value → H) :
    ReturnsInHanded {} Try.checked os 18 .any (Rows.zigzagSignsSpec.pre6 enc Try.prog Try.f18 Rows.zigzagSignsRow.domain false) (Rows.zigzagSignsSpec.post enc Try.prog Try.f18 false true false false) := by
  refine returnsInHanded_of_change (C := Try.checked) Try.own started (by kernel_rfl) Try.func18
    (ChangeSpec.witness6 (enc := enc) (C := Try.checked) false ⟨#[], #[.int .i64 0, .int .u64 0, .slice none 0 0], []⟩ 8 (by kernel_rfl) (by kernel_rfl) (by kernel_rfl) (by kernel_rfl)) ?_
  intro W base args ds gs before hval0 hW hcnd _
  have hval : ∀ (j : Nat) t v, Try.f18.params[j]? = some t → args[j]? = some v → Value.okWide Try.prog W .any base t v := hval0
  have hW' := hW
  obtain ⟨p, q, hA0, hV, rfl, hfz, hnd⟩ := hW
  have hA : DataW.TrodAll enc Try.prog W 0 (fun _ => true) true Try.f18.params.toList args.toList ds p := hA0
  rw [Try.params18] at hA hval
  obtain ⟨v0, vs0, d0, ds0, p0, q0, hargs, rfl, rfl, h0, r0⟩ := trodAll_cons hA
  obtain ⟨v1, vs1, d1, ds1, p1, q1, rfl, rfl, rfl, h1, r1⟩ := trodAll_cons r0
  obtain ⟨v2, vs2, d2, ds2, p2, q2, rfl, rfl, rfl, h2, r2⟩ := trodAll_cons r1
  obtain ⟨rfl, rfl, rfl⟩ := trodAll_nil r2
  obtain ⟨al⟩ := args
  simp only at hargs
  subst hargs
  obtain ⟨rfl, rfl⟩ := trodVars_none hV
  obtain ⟨n, rfl, rfl, rfl, wn⟩ := open_int Try.underlying2 (hval 0 2 v0 rfl rfl) h0
  obtain ⟨x, rfl, rfl, rfl, wx⟩ := open_int Try.underlying22 (hval 1 22 v1 rfl rfl) h1
  obtain ⟨l, hl, wl⟩ := open_sl Try.underlying37 Try.underlying5 (by kernel_rfl) (hval 2 37 v2 rfl rfl) h2
  refine ((law_ZigzagSigns n x l (i64_wf wn).1 (i64_wf wn).2 (u64_wf wx).1 (u64_wf wx).2 (bys_wf wl)).top (RepL.cons (.lit _) (RepL.cons (.lit _) (RepL.cons hl.rep (RepL.nil _))))).mono fun r W' ⟨he, hb⟩ => ?_
  subst he
  exact ⟨_, rfl, law_post Try.laidOut (fn := Try.f18) hW' rfl (by kernel_rfl) _ Try.underlying4 rfl rfl hb⟩
theorem ZigzagSigns_holds : Rows.ZigzagSignsSaid :=
  OpenClaim.holds_of_wide 18 Try.f18 rfl rfl rfl rfl rfl rfl rfl ⟨rfl, rfl, rfl, rfl, rfl⟩ rfl rfl rfl rfl rfl CellZigzagSigns.named Try.func18 CellZigzagSigns.closed CellZigzagSigns.inst CellZigzagSigns.wrap
    (fun os started H enc _ => ZigzagSigns_lifted os started H enc)
#print axioms ZigzagSigns_holds
end Go.Proofs.Ytgphhganepjaiaa
