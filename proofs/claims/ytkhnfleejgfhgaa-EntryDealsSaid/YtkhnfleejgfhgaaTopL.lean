/-
  Arguments that are links, or entries.
-/
import Derived.Test.YtkhnfleejgfhgaaTopF
import Derived.Test.YtkhnfleejgfhgaaK43
set_option linter.all false
set_option linter.unusedSimpArgs false
set_option linter.unusedVariables false
set_option linter.unnecessarySimpa false
namespace Go.Proofs.Ytkhnfleejgfhgaa

def shLk : Sh := .pair (.int .u64) (.pair (.sl false 1 (.int .u64)) .nil)
theorem ty_lk {y : List AV} (h : shLk.Ty y) : ∃ x : Lk, y = [uA x.st, slA .u64 x.bk] ∧ x.ok := by
  obtain ⟨a, b, rfl, ⟨p, rfl, hp⟩, c, d, rfl, ⟨ys, rfl, hy⟩, rfl⟩ := h
  obtain ⟨l, e1, hl⟩ := ty_ints' hy
  have := u64_wf hp
  exact ⟨⟨p, l⟩, by rw [e1]; rfl, ⟨by simp only; omega, by simp only; omega, fun x hx => by have := u64_wf (hl x hx); omega⟩⟩
theorem lks_of {ys : List (List AV)} (h : ∀ y ∈ ys, y.length = 2 ∧ shLk.Ty y) : ∃ l : List Lk, ys.map (elA true) = lks l ∧ Lks l := by
  obtain ⟨l, rfl, hl⟩ := ex_list (g := fun x : Lk => [uA x.st, slA .u64 x.bk]) (ok := Lk.ok) (fun y hy => (h y hy).2) fun y hy => ty_lk hy
  exact ⟨l, by simp [lks, lkA, elA], hl⟩
def shEn : Sh := .pair (.sl true 2 shLk) (.pair (.sl false 1 (.int .u8)) .nil)
theorem ty_en {y : List AV} (h : shEn.Ty y) : ∃ e : En, y = [slL e.lk, slA .u8 e.data] ∧ e.ok := by
  obtain ⟨a, b, rfl, ⟨zs, rfl, hz⟩, c, d, rfl, ⟨ys, rfl, hy⟩, rfl⟩ := h
  obtain ⟨l, e1, hl⟩ := ty_ints' hy
  obtain ⟨k, e2, hk⟩ := lks_of hz
  exact ⟨⟨k, l⟩, by rw [e1, e2]; rfl, ⟨hk, bys_wf hl⟩⟩
theorem en_of {xs : List AV} (h : shEn.Ty xs) : ∃ e : En, AV.agg xs = enA e ∧ e.ok := by
  obtain ⟨e, rfl, he⟩ := ty_en h
  exact ⟨e, rfl, he⟩
end Go.Proofs.Ytkhnfleejgfhgaa
