/-
  Chapter 24: EntryDeals, the row: the law returns true at every input, and leaves what was there.
-/
import Derived.Test.YtkhnfleejgfhgaaL24D
import Derived.Test.YtkhnfleejgfhgaaTopE
import Derived.Test.YtkhnfleejgfhgaaCellEntryDeals
set_option linter.all false
set_option linter.unusedSimpArgs false
set_option linter.unusedVariables false
set_option linter.unnecessarySimpa false
namespace Go.Proofs.Ytkhnfleejgfhgaa
open Go.RowKit Go.ChangeShapes Go.WideShapes Go.ChangeAt

set_option maxRecDepth 100000 in
theorem EntryDeals_lifted (os : Os) (started : os.Started) (H : Type) (enc : TypeId × Value → H) :
    ReturnsInHanded {} Try.checked os 3 .any (Rows.entryDealsSpec.pre6 enc Try.prog Try.f3 Rows.entryDealsRow.domain false) (Rows.entryDealsSpec.post enc Try.prog Try.f3 false true false false) := by
  refine returnsInHanded_of_change (C := Try.checked) Try.own started (by kernel_rfl) Try.func3
    (ChangeSpec.witness6 (enc := enc) (C := Try.checked) false ⟨#[], #[.slice none 0 0, .slice none 0 0, .slice none 0 0], []⟩ 8 (by kernel_rfl) (by kernel_rfl) (by kernel_rfl) (by kernel_rfl)) ?_
  intro W base args ds gs before hval0 hW hcnd _
  have hval : ∀ (j : Nat) t v, Try.f3.params[j]? = some t → args[j]? = some v → Value.okWide Try.prog W .any base t v := hval0
  have hW' := hW
  obtain ⟨p, q, hA0, hV, rfl, hfz, hnd⟩ := hW
  have hA : DataW.TrodAll enc Try.prog W 0 (fun _ => true) true Try.f3.params.toList args.toList ds p := hA0
  rw [Try.params3] at hA hval
  obtain ⟨v0, vs0, d0, ds0, p0, q0, hargs, rfl, rfl, h0, r0⟩ := trodAll_cons hA
  obtain ⟨v1, vs1, d1, ds1, p1, q1, rfl, rfl, rfl, h1, r1⟩ := trodAll_cons r0
  obtain ⟨v2, vs2, d2, ds2, p2, q2, rfl, rfl, rfl, h2, r2⟩ := trodAll_cons r1
  obtain ⟨rfl, rfl, rfl⟩ := trodAll_nil r2
  obtain ⟨al⟩ := args
  simp only at hargs
  subst hargs
  obtain ⟨rfl, rfl⟩ := trodVars_none hV
  obtain ⟨ysl, hysl, wysl⟩ := open_slsh 6 (show shOf Try.prog 6 22 = some (.sl true 2 shEn) from by kernel_rfl) Try.underlying22 (hval 0 22 v0 rfl rfl) h0
  obtain ⟨l, el, wl⟩ := ens_of wysl
  rw [el] at hysl
  obtain ⟨ysn, hysn, wysn⟩ := open_slsh 4 (show shOf Try.prog 4 23 = some (.sl false 1 (.int .i64)) from by kernel_rfl) Try.underlying23 (hval 1 23 v1 rfl rfl) h1
  obtain ⟨n, en, wn⟩ := i64s_of wysn
  rw [en] at hysn
  obtain ⟨d, hd, wd⟩ := open_sl Try.underlying24 Try.underlying5 (by kernel_rfl) (hval 2 24 v2 rfl rfl) h2
  refine ((law_EntryDeals l n d wl wn (bys_wf wd)).top (RepL.cons hysl (RepL.cons hysn (RepL.cons hd.rep (RepL.nil _))))).mono fun r W' ⟨he, hb⟩ => ?_
  subst he
  exact ⟨_, rfl, law_post Try.laidOut (fn := Try.f3) hW' rfl (by kernel_rfl) _ Try.underlying4 rfl rfl hb⟩
theorem EntryDeals_holds : Rows.EntryDealsSaid :=
  OpenClaim.holds_of_wide 3 Try.f3 rfl rfl rfl rfl rfl rfl rfl ⟨rfl, rfl, rfl, rfl, rfl⟩ rfl rfl rfl rfl rfl CellEntryDeals.named Try.func3 CellEntryDeals.closed CellEntryDeals.inst CellEntryDeals.wrap
    (fun os started H enc _ => EntryDeals_lifted os started H enc)
#print axioms EntryDeals_holds
end Go.Proofs.Ytkhnfleejgfhgaa
