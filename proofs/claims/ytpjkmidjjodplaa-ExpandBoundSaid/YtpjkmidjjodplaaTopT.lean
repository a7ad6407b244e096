/-
  Arguments that are tokens.
-/
import Derived.Test.YtpjkmidjjodplaaTop2
import Derived.Test.YtpjkmidjjodplaaK23
set_option linter.all false
set_option linter.unusedSimpArgs false
set_option linter.unusedVariables false
set_option linter.unnecessarySimpa false
namespace Go.Proofs.Ytpjkmidjjodplaa

def shTok : Sh := .pair (.sl false 1 (.int .u8)) (.pair (.int .i64) (.pair (.int .i64) .nil))
theorem ty_ints {k : IntKind} {ys : List (List AV)} (h : ∀ y ∈ ys, y.length = 1 ∧ (Sh.int k).Ty y) : ∃ l : List Int, ys.map (elA false) = ints k l ∧ ∀ n ∈ l, (Lit.int k n).wf = true := by
  obtain ⟨l, rfl, hl⟩ := ex_list (g := fun n : Int => [AV.lit (.int k n)]) (ok := fun n => (Lit.int k n).wf = true) (fun y hy => (h y hy).2) fun y hy => hy
  exact ⟨l, by simp [ints, elA], hl⟩
theorem ty_tk {y : List AV} (h : shTok.Ty y) : ∃ t : Tk, y = [slA .u8 t.lit, iA t.off, iA t.len] ∧ (Bys t.lit ∧ -9223372036854775808 ≤ t.off ∧ t.off < 9223372036854775808 ∧ -9223372036854775808 ≤ t.len ∧ t.len < 9223372036854775808) := by
  obtain ⟨a, b, rfl, ⟨ys, rfl, hy⟩, c, d, rfl, ⟨q, rfl, hq⟩, e, f, rfl, ⟨r, rfl, hr⟩, rfl⟩ := h
  obtain ⟨l, e1, hl⟩ := ty_ints hy
  have := i64_wf hq
  have := i64_wf hr
  exact ⟨⟨l, q, r⟩, by rw [e1]; rfl, bys_wf hl, by simp only; omega, by simp only; omega, by simp only; omega, by simp only; omega⟩
/-- Tokens as arguments: their bytes are bytes, their numbers fit. -/
theorem tks_of {ys : List (List AV)} (h : ∀ y ∈ ys, y.length = 3 ∧ shTok.Ty y) : ∃ l : List Tk, ys.map (elA true) = tks l ∧ Tks l := by
  obtain ⟨l, rfl, hl⟩ := ex_list (g := fun t : Tk => [slA .u8 t.lit, iA t.off, iA t.len]) (ok := Tk.ok) (fun y hy => (h y hy).2) fun y hy => by
    obtain ⟨t, e, h1, h2, h3, h4, h5⟩ := ty_tk hy
    exact ⟨t, e, ⟨h1, h2, h3, h4, h5⟩⟩
  exact ⟨l, by simp [tks, elA], hl⟩
end Go.Proofs.Ytpjkmidjjodplaa
