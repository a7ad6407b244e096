/-
  From a law told over abstract values to calls in a world; how arguments are told.
-/
import Derived.Test.YtkhnfleejgfhgaaA3
import Derived.Test.YtkhnfleejgfhgaaBase
set_option linter.all false
set_option linter.unusedSimpArgs false
set_option linter.unusedVariables false
set_option linter.unnecessarySimpa false
namespace Go.Proofs.Ytkhnfleejgfhgaa
open Go.RowKit Go.ChangeShapes Go.WideShapes Go.ChangeAt

/-- All cells of a world lie still. -/
def G0 (W : World) : Gh := ⟨fun b i => W.cell? ⟨b, i, none⟩, fun _ => none, fun _ _ => none⟩
theorem wd0 (W : World) : Wd (G0 W) [] W :=
  ⟨fun b i v h => h, fun i _ => ⟨rfl, fun _ => rfl⟩, fun i xs h => by simp at h, fun j k n h => by simp at h, fun i j b h => by simp [blk] at h⟩
theorem Does.top {P : Program} {f : FuncId} {args : List AV} (h : Does P f args [] (.lit (.bool true)) []) {W : World} {vs : Array Value} (hr : RepL (G0 W) args vs.toList) :
    Calls P f vs W fun r W' => r = .returned (.bool true) ∧ Below W.heap.size W W' := by
  refine (h.2 (G0 W) W vs (wd0 W) hr).mono fun r W' ⟨v, G', e, hv, hl⟩ => ?_
  cases hv
  exact ⟨e, hl.kept.below (fun i _ j => by simp [blk]) (Nat.le_refl _)⟩
theorem RdI.rep {k : IntKind} {W : World} {F : Nat → Prop} {v : Value} {l : List Int} (h : RdI k W F v l) : Rep (G0 W) (.sl .none 1 (ints k l)) v := by
  obtain ⟨A, c, rfl, hc, _, hA⟩ := h
  have hlen := ints_length k l
  obtain ⟨b, o, hb, hcell⟩ : ∃ b o, (0 < l.length → A = some ⟨b, o, none⟩) ∧ ∀ i, i < l.length → W.cell? ⟨b, o + i, none⟩ = some (.int k (l.getD i 0)) := by
    rcases Nat.eq_zero_or_pos l.length with h0 | h0
    · exact ⟨0, 0, fun h => by omega, fun i hi => by omega⟩
    · obtain ⟨b, o, h1, _, h2⟩ := hA h0
      exact ⟨b, o, fun _ => h1, h2⟩
  rw [← hlen]
  refine .sl (b := b) (o := o) (fun i _ => .int k (l.getD i 0)) (by rw [hlen]; exact hc) (fun h => hb (by rw [hlen] at h; exact h)) (fun i x hx => ?_) (fun i j hi hj => ?_) (fun _ _ _ _ => rfl) (fun i j x y hx hy => ?_) trivial
  · simp only [ints, List.getElem?_map, Option.map_eq_some_iff] at hx
    obtain ⟨z, _, rfl⟩ := hx; rfl
  · obtain rfl : j = 0 := by omega
    rw [hlen] at hi
    simpa [G0] using hcell i hi
  · simp only [ints, List.getElem?_map, Option.map_eq_some_iff] at hx
    obtain ⟨z, hz, rfl⟩ := hx
    simp only [AV.cells] at hy
    cases j with
    | zero =>
      simp at hy; subst hy
      have : l.getD i 0 = z := by simp [hz]
      rw [this]; exact .lit _
    | succ j => simp at hy
end Go.Proofs.Ytkhnfleejgfhgaa
