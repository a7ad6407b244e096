/-
  Contracts of chapter 12: written tokens expanded, by the code and by the reference. (A scope with more labels than one.)
-/
import Derived.Test.YtpjkmidjjodplaaK25
import Derived.Test.YtpjkmidjjodplaaK28
set_option linter.all false
set_option linter.unusedSimpArgs false
set_option linter.unusedVariables false
set_option linter.unnecessarySimpa false
namespace Go.Proofs.Ytpjkmidjjodplaa
open Go.RowKit

/-- Within a scope with labels: what is borne at each. -/
def qScopes {α : Type} (m : Nat) (lab : α → Nat) (tmF : α → List AV) (SF : α → List AObj) (ok : α → Prop) (Q : QT) : QT
  | .goto l', tm, S => ∃ a, lab a = l' ∧ ok a ∧ Wk m tm S (tmF a) (SF a)
  | e, tm, S => Q e tm S
def qScopeds {α : Type} (m : Nat) (lab : α → Nat) (tmF : α → List AV) (SF : α → List AObj) (ok : α → Prop) (μ : α → Nat) (a : α) (Q : QT) : QT
  | .goto l', tm, S => ∃ a', lab a' = l' ∧ ok a' ∧ μ a' < μ a ∧ Wk m tm S (tmF a') (SF a')
  | e, tm, S => Q e tm S
section
variable {P : Program} {m : Nat} {tm : List AV} {S : List AObj} {Q : QT} {α : Type} {lab : α → Nat} {tmF : α → List AV} {SF : α → List AObj} {ok : α → Prop} {μ : α → Nat} {a : α}
@[go_sem] theorem qScopes_normal : qScopes m lab tmF SF ok Q .normal tm S = Q .normal tm S := (rfl)
@[go_sem] theorem qScopes_ret : qScopes m lab tmF SF ok Q .ret tm S = Q .ret tm S := (rfl)
@[go_sem] theorem qScopes_exit (id : Nat) : qScopes m lab tmF SF ok Q (.exit id) tm S = Q (.exit id) tm S := (rfl)
@[go_sem] theorem qScopes_goto (l' : Nat) : qScopes m lab tmF SF ok Q (.goto l') tm S = (∃ a, lab a = l' ∧ ok a ∧ Wk m tm S (tmF a) (SF a)) := (rfl)
@[go_sem] theorem qScopeds_normal : qScopeds m lab tmF SF ok μ a Q .normal tm S = Q .normal tm S := (rfl)
@[go_sem] theorem qScopeds_ret : qScopeds m lab tmF SF ok μ a Q .ret tm S = Q .ret tm S := (rfl)
@[go_sem] theorem qScopeds_exit (id : Nat) : qScopeds m lab tmF SF ok μ a Q (.exit id) tm S = Q (.exit id) tm S := (rfl)
@[go_sem] theorem qScopeds_goto (l' : Nat) : qScopeds m lab tmF SF ok μ a Q (.goto l') tm S = (∃ a', lab a' = l' ∧ ok a' ∧ μ a' < μ a ∧ Wk m tm S (tmF a') (SF a')) := (rfl)
theorem scope_ofs {c : C} (lab : α → Nat) (rs : α → C) (hf : ∀ a, findC c (lab a) = some (rs a)) (tmF : α → List AV) (SF : α → List AObj) (ok : α → Prop) (μ : α → Nat)
    (first : (∀ a, ok a → aw P m (rs a) (tmF a) (SF a) (qScopes m lab tmF SF ok Q)) → aw P m c tm S (qScopes m lab tmF SF ok Q)) (pass : ∀ a, ok a → aw P m (rs a) (tmF a) (SF a) (qScopeds m lab tmF SF ok μ a Q)) : aw P m (.scope c) tm S Q := by
  refine scope_rule (fun n l' tm S => ∃ a, lab a = l' ∧ ok a ∧ tm = tmF a ∧ S = SF a ∧ n = μ a) (aw_mono (first fun a ha => aw_mono (pass a ha) fun e tm' S' hq => ?_) fun e tm' S' hq => ?_) fun n l' tm S ⟨a, hl, ha, h1, h2, h3⟩ => ⟨rs a, by rw [← hl]; exact hf a, ?_⟩
  · cases e with
    | goto l' => obtain ⟨a', h1, h2, _, h4⟩ := hq; exact ⟨a', h1, h2, h4⟩
    | _ => exact hq
  · cases e with
    | goto l' => obtain ⟨a, h1, h2, h3⟩ := hq; exact ⟨_, _, h3, μ a, a, h1, h2, rfl, rfl, rfl⟩
    | _ => exact hq
  · subst h1 h2 h3
    refine aw_mono (pass a ha) fun e tm' S' hq => ?_
    cases e with
    | goto l' => obtain ⟨a', h1, h2, h3, h4⟩ := hq; exact ⟨_, _, h4, μ a', ⟨a', h1, h2, rfl, rfl, rfl⟩, h3⟩
    | _ => exact hq
end
end Go.Proofs.Ytpjkmidjjodplaa
