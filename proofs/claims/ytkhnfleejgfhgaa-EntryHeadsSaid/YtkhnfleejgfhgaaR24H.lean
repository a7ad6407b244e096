/-
  Chapter 24: EntryHeads, the row: the law returns true at every input, and leaves what was there.
-/
import Derived.Test.YtkhnfleejgfhgaaL24
import Derived.Test.YtkhnfleejgfhgaaTopL
import Derived.Test.YtkhnfleejgfhgaaCellEntryHeads
set_option linter.all false
set_option linter.unusedSimpArgs false
set_option linter.unusedVariables false
set_option linter.unnecessarySimpa false
namespace Go.Proofs.Ytkhnfleejgfhgaa
open Go.RowKit Go.ChangeShapes Go.WideShapes Go.ChangeAt

set_option maxRecDepth 100000 in
theorem EntryHeads_lifted (os : Os) (started : os.Started) (H : Type) (enc : TypeId × Value → H) :
    ReturnsInHanded {} Try.checked os 15 .any (Rows.entryHeadsSpec.pre6 enc Try.prog Try.f15 Rows.entryHeadsRow.domain false) (Rows.entryHeadsSpec.post enc Try.prog Try.f15 false true false false) := by
  refine returnsInHanded_of_change (C := Try.checked) Try.own started (by kernel_rfl) Try.func15
    (ChangeSpec.witness6 (enc := enc) (C := Try.checked) false ⟨#[], #[.int .u64 0, .agg #[.slice none 0 0, .slice none 0 0], .slice none 0 0], []⟩ 8 (by kernel_rfl) (by kernel_rfl) (by kernel_rfl) (by kernel_rfl)) ?_
  intro W base args ds gs before hval0 hW hcnd _
  have hval : ∀ (j : Nat) t v, Try.f15.params[j]? = some t → args[j]? = some v → Value.okWide Try.prog W .any base t v := hval0
  have hW' := hW
  obtain ⟨p, q, hA0, hV, rfl, hfz, hnd⟩ := hW
  have hA : DataW.TrodAll enc Try.prog W 0 (fun _ => true) true Try.f15.params.toList args.toList ds p := hA0
  rw [Try.params15] at hA hval
  obtain ⟨v0, vs0, d0, ds0, p0, q0, hargs, rfl, rfl, h0, r0⟩ := trodAll_cons hA
  obtain ⟨v1, vs1, d1, ds1, p1, q1, rfl, rfl, rfl, h1, r1⟩ := trodAll_cons r0
  obtain ⟨v2, vs2, d2, ds2, p2, q2, rfl, rfl, rfl, h2, r2⟩ := trodAll_cons r1
  obtain ⟨rfl, rfl, rfl⟩ := trodAll_nil r2
  obtain ⟨al⟩ := args
  simp only at hargs
  subst hargs
  obtain ⟨rfl, rfl⟩ := trodVars_none hV
  obtain ⟨p, rfl, rfl, rfl, wp⟩ := open_int Try.underlying40 (hval 0 40 v0 rfl rfl) h0
  obtain ⟨yse, hyse, wyse⟩ := open_stsh 6 (show shOf Try.prog 6 29 = some shEn from by kernel_rfl) Try.underlying29 (hval 1 29 v1 rfl rfl) h1
  obtain ⟨e, ee, we⟩ := en_of wyse
  rw [ee] at hyse
  obtain ⟨r, hr, wr⟩ := open_sl Try.underlying24 Try.underlying5 (by kernel_rfl) (hval 2 24 v2 rfl rfl) h2
  refine ((law_EntryHeads p e r we (bys_wf wr) (u64_wf wp).1 (u64_wf wp).2).top (RepL.cons (.lit _) (RepL.cons hyse (RepL.cons hr.rep (RepL.nil _))))).mono fun r W' ⟨he, hb⟩ => ?_
  subst he
  exact ⟨_, rfl, law_post Try.laidOut (fn := Try.f15) hW' rfl (by kernel_rfl) _ Try.underlying4 rfl rfl hb⟩
theorem EntryHeads_holds : Rows.EntryHeadsSaid :=
  OpenClaim.holds_of_wide 15 Try.f15 rfl rfl rfl rfl rfl rfl rfl ⟨rfl, rfl, rfl, rfl, rfl⟩ rfl rfl rfl rfl rfl CellEntryHeads.named Try.func15 CellEntryHeads.closed CellEntryHeads.inst CellEntryHeads.wrap
    (fun os started H enc _ => EntryHeads_lifted os started H enc)
#print axioms EntryHeads_holds
end Go.Proofs.Ytkhnfleejgfhgaa
