/-
  Chapter 5: ZigzagBack, the row.
-/
import Derived.Test.YtgphhganepjaiaaL05B
import Derived.Test.YtgphhganepjaiaaCellZigzagBack
set_option linter.all false
set_option linter.unusedSimpArgs false
set_option linter.unusedVariables false
set_option linter.unnecessarySimpa false
namespace Go.Proofs.Ytgphhganepjaiaa
open Go.RowKit Go.ChangeShapes Go.WideShapes Go.ChangeAt

set_option maxRecDepth 100000 in
theorem ZigzagBack_lifted (os : Os) (started : os.Started) (H : Type) (enc : TypeId × Value → H) :
    ReturnsInHanded {} Try.checked os 22 .any (Rows.zigzagBackSpec.pre6 enc Try.prog Try.f22 Rows.zigzagBackRow.domain false) (Rows.zigzagBackSpec.post enc Try.prog Try.f22 false true false false) := by
  refine returnsInHanded_of_change (C := Try.checked) Try.own started (by kernel_rfl) Try.func22
    (ChangeSpec.witness6 (enc := enc) (C := Try.checked) false ⟨#[], #[.slice none 0 0, .slice none 0 0, .int .u8 0], []⟩ 8 (by kernel_rfl) (by kernel_rfl) (by kernel_rfl) (by kernel_rfl)) ?_
  intro W base args ds gs before hval0 hW hcnd _
  have hval : ∀ (j : Nat) t v, Try.f22.params[j]? = some t → args[j]? = some v → Value.okWide Try.prog W .any base t v := hval0
  have hW' := hW
  obtain ⟨p, q, hA0, hV, rfl, hfz, hnd⟩ := hW
  have hA : DataW.TrodAll enc Try.prog W 0 (fun _ => true) true Try.f22.params.toList args.toList ds p := hA0
  rw [Try.params22] at hA hval
  obtain ⟨v0, vs0, d0, ds0, p0, q0, hargs, rfl, rfl, h0, r0⟩ := trodAll_cons hA
  obtain ⟨v1, vs1, d1, ds1, p1, q1, rfl, rfl, rfl, h1, r1⟩ := trodAll_cons r0
  obtain ⟨v2, vs2, d2, ds2, p2, q2, rfl, rfl, rfl, h2, r2⟩ := trodAll_cons r1
  obtain ⟨rfl, rfl, rfl⟩ := trodAll_nil r2
  obtain ⟨al⟩ := args
  simp only at hargs
  subst hargs
  obtain ⟨rfl, rfl⟩ := trodVars_none hV
  obtain ⟨l, hl, wl⟩ := open_sl Try.underlying28 Try.underlying22 (by kernel_rfl) (hval 0 28 v0 rfl rfl) h0
  obtain ⟨m, hm, wm⟩ := open_sl Try.underlying37 Try.underlying5 (by kernel_rfl) (hval 1 37 v1 rfl rfl) h1
  obtain ⟨k, rfl, rfl, rfl, wk⟩ := open_int Try.underlying5 (hval 2 5 v2 rfl rfl) h2
  refine ((law_ZigzagBack l m k (u64s_wf wl) (bys_wf wm) (u8_wf wk).1 (u8_wf wk).2).top (RepL.cons hl.rep (RepL.cons hm.rep (RepL.cons (.lit _) (RepL.nil _))))).mono fun r W' ⟨he, hb⟩ => ?_
  subst he
  exact ⟨_, rfl, law_post Try.laidOut (fn := Try.f22) hW' rfl (by kernel_rfl) _ Try.underlying4 rfl rfl hb⟩
theorem ZigzagBack_holds : Rows.ZigzagBackSaid :=
  OpenClaim.holds_of_wide 22 Try.f22 rfl rfl rfl rfl rfl rfl rfl ⟨rfl, rfl, rfl, rfl, rfl⟩ rfl rfl rfl rfl rfl CellZigzagBack.named Try.func22 CellZigzagBack.closed CellZigzagBack.inst CellZigzagBack.wrap
    (fun os started H enc _ => ZigzagBack_lifted os started H enc)
#print axioms ZigzagBack_holds
end Go.Proofs.Ytgphhganepjaiaa
