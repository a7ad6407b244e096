/-
  Arguments that are rows of bytes, or two numbers.
-/
import Derived.Test.YtkhnfleejgfhgaaTop2
import Derived.Test.YtkhnfleejgfhgaaL08F
set_option linter.all false
set_option linter.unusedSimpArgs false
set_option linter.unusedVariables false
set_option linter.unnecessarySimpa false
namespace Go.Proofs.Ytkhnfleejgfhgaa

theorem u32_wf {x : Int} (h : (Lit.int .u32 x).wf = true) : 0 ≤ x ∧ x < 4294967296 := by
  simp [Lit.wf, IntKind.min, IntKind.max, IntKind.signed, IntKind.bits] at h
  omega
theorem nat_u32 {x : Int} (h : (Lit.int .u32 x).wf = true) : ∃ n : Nat, x = (n : Int) ∧ n < 4294967296 := by
  have := u32_wf h
  exact ⟨x.toNat, by omega, by omega⟩
theorem rep_arr2 {G : Gh} (k : IntKind) (a b : Int) : Rep G (.agg [.lit (.int k a), .lit (.int k b)]) (.agg #[.int k a, .int k b]) := by
  refine .agg (by simp) (fun j v hv => ?_) (fun j x v hx hv => ?_)
  · match j, hv with
    | 0, hv => simp at hv; subst hv; rfl
    | 1, hv => simp at hv; subst hv; rfl
    | j + 2, hv => simp at hv
  · match j, hx, hv with
    | 0, hx, hv => simp at hx hv; subst hx hv; exact .lit _
    | 1, hx, hv => simp at hx hv; subst hx hv; exact .lit _
    | j + 2, hx, hv => simp at hx
theorem ty_ints' {k : IntKind} {ys : List (List AV)} (h : ∀ y ∈ ys, y.length = 1 ∧ (Sh.int k).Ty y) : ∃ l : List Int, ys.map (elA false) = ints k l ∧ ∀ n ∈ l, (Lit.int k n).wf = true := by
  obtain ⟨l, rfl, hl⟩ := ex_list (g := fun n : Int => [AV.lit (.int k n)]) (ok := fun n => (Lit.int k n).wf = true) (fun y hy => (h y hy).2) fun y hy => hy
  exact ⟨l, by simp [ints, elA], hl⟩
/-- Rows of bytes as arguments. -/
theorem bss_of {ys : List (List AV)} (h : ∀ y ∈ ys, y.length = 1 ∧ (Sh.sl false 1 (.int .u8)).Ty y) : ∃ l : List (List Int), ys.map (elA false) = bss l ∧ Byss l := by
  obtain ⟨l, rfl, hl⟩ := ex_list (g := fun b : List Int => [slA .u8 b]) (ok := fun b => Bys b) (fun y hy => (h y hy).2) fun y hy => by
    obtain ⟨zs, rfl, hz⟩ := hy
    obtain ⟨b, e, hb⟩ := ty_ints' hz
    exact ⟨b, by rw [e], bys_wf hb⟩
  exact ⟨l, by simp [bss, elA], hl⟩
end Go.Proofs.Ytkhnfleejgfhgaa
