/-
  Chapter 08: FrameTells, the row: the law returns true at every input, and leaves what was there.
-/
import Derived.Test.YtpjkmidjjodplaaTopF
import Derived.Test.YtpjkmidjjodplaaCellFrameTells
set_option linter.all false
set_option linter.unusedSimpArgs false
set_option linter.unusedVariables false
set_option linter.unnecessarySimpa false
namespace Go.Proofs.Ytpjkmidjjodplaa
open Go.RowKit Go.ChangeShapes Go.WideShapes Go.ChangeAt

set_option maxRecDepth 100000 in
theorem FrameTells_lifted (os : Os) (started : os.Started) (H : Type) (enc : TypeId × Value → H) :
    ReturnsInHanded {} Try.checked os 13 .any (Rows.frameTellsSpec.pre6 enc Try.prog Try.f13 Rows.frameTellsRow.domain false) (Rows.frameTellsSpec.post enc Try.prog Try.f13 false true false false) := by
  refine returnsInHanded_of_change (C := Try.checked) Try.own started (by kernel_rfl) Try.func13
    (ChangeSpec.witness6 (enc := enc) (C := Try.checked) false ⟨#[], #[.slice none 0 0, .slice none 0 0, .agg #[.int .u32 0, .int .u32 0]], []⟩ 8 (by kernel_rfl) (by kernel_rfl) (by kernel_rfl) (by kernel_rfl)) ?_
  intro W base args ds gs before hval0 hW hcnd _
  have hval : ∀ (j : Nat) t v, Try.f13.params[j]? = some t → args[j]? = some v → Value.okWide Try.prog W .any base t v := hval0
  have hW' := hW
  obtain ⟨p, q, hA0, hV, rfl, hfz, hnd⟩ := hW
  have hA : DataW.TrodAll enc Try.prog W 0 (fun _ => true) true Try.f13.params.toList args.toList ds p := hA0
  rw [Try.params13] at hA hval
  obtain ⟨v0, vs0, d0, ds0, p0, q0, hargs, rfl, rfl, h0, r0⟩ := trodAll_cons hA
  obtain ⟨v1, vs1, d1, ds1, p1, q1, rfl, rfl, rfl, h1, r1⟩ := trodAll_cons r0
  obtain ⟨v2, vs2, d2, ds2, p2, q2, rfl, rfl, rfl, h2, r2⟩ := trodAll_cons r1
  obtain ⟨rfl, rfl, rfl⟩ := trodAll_nil r2
  obtain ⟨al⟩ := args
  simp only at hargs
  subst hargs
  obtain ⟨rfl, rfl⟩ := trodVars_none hV
  obtain ⟨p, hp, wp⟩ := open_sl Try.underlying25 Try.underlying5 (by kernel_rfl) (hval 0 25 v0 rfl rfl) h0
  obtain ⟨r, hr, wr⟩ := open_sl Try.underlying25 Try.underlying5 (by kernel_rfl) (hval 1 25 v1 rfl rfl) h1
  obtain ⟨xx, yx, rfl, rfl, rfl, wxx, wyx⟩ := open_arr2 Try.underlying83 Try.underlying82 (by kernel_rfl) (by kernel_rfl) (hval 2 83 v2 rfl rfl) h2
  obtain ⟨nx, rfl, hnx⟩ := nat_u32 wxx
  obtain ⟨kx, rfl, hkx⟩ := nat_u32 wyx
  refine ((law_FrameTells p r nx kx (bys_wf wp) (bys_wf wr) hnx hkx).top (RepL.cons hp.rep (RepL.cons hr.rep (RepL.cons (rep_arr2 .u32 _ _) (RepL.nil _))))).mono fun r W' ⟨he, hb⟩ => ?_
  subst he
  exact ⟨_, rfl, law_post Try.laidOut (fn := Try.f13) hW' rfl (by kernel_rfl) _ Try.underlying4 rfl rfl hb⟩
theorem FrameTells_holds : Rows.FrameTellsSaid :=
  OpenClaim.holds_of_wide 13 Try.f13 rfl rfl rfl rfl rfl rfl rfl ⟨rfl, rfl, rfl, rfl, rfl⟩ rfl rfl rfl rfl rfl CellFrameTells.named Try.func13 CellFrameTells.closed CellFrameTells.inst CellFrameTells.wrap
    (fun os started H enc _ => FrameTells_lifted os started H enc)
#print axioms FrameTells_holds
end Go.Proofs.Ytpjkmidjjodplaa
