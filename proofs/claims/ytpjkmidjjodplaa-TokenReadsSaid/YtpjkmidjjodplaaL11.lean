/-
  Chapter 11: TokenBack, TokenOnce, TokenWrites.
-/
import Derived.Test.YtpjkmidjjodplaaK28
import Derived.Test.YtpjkmidjjodplaaTop
set_option linter.all false
set_option linter.unusedSimpArgs false
set_option linter.unusedVariables false
set_option linter.unnecessarySimpa false
namespace Go.Proofs.Ytpjkmidjjodplaa
open Go.RowKit

theorem toksB_bys {l : List Tk} (h : ∀ t ∈ l, t.right = true) (hb : ∀ t ∈ l, Bys t.lit) : Bys (toksB l) := by
  intro y hy
  simp only [toksB, List.mem_flatMap] at hy
  obtain ⟨t, ht, hy⟩ := hy
  exact tokB_bys (h t ht) (hb t ht) y hy
theorem roomT_300 {l : List Tk} (h : ∀ t ∈ l, t.lit.length ≤ 300) : roomT l ≤ 320 * l.length := by
  induction l with
  | nil => simp [roomT]
  | cons x l ih =>
    have h1 := h x (List.mem_cons_self ..)
    have h2 := ih fun t ht => h t (List.mem_cons_of_mem _ ht)
    simp only [roomT, List.length_cons]; omega
theorem getT_own {l : List Tk} (h : ∀ t ∈ l, t.right = true) (hb : ∀ t ∈ l, Bys t.lit) (hn : (toksB l).length ≤ 140737488355328) : getT (toksB l) = (l, (0, 0)) := by
  have hok : ROk (RS.new (toksB l)) := ROk.new (toksB_bys h hb) hn
  have := rest_own tokF_ok (fun acc x _ => tokB_pos x) l [] (RS.new (toksB l)) hok rfl trivial (tok_wf.2 fun t ht => ⟨h t ht, hb t ht⟩) (by rw [new_rest, tok_encs])
  unfold getT
  rw [this]
  simp only [List.nil_append]
  rw [if_pos (show ((RS.new (toksB l)).adv ((encs tokF.enc [] l).length : Int)).code = 0 from rfl)]
theorem getT_is {b : List Int} (hb : Bys b) (hn : b.length ≤ 140737488355328) : (getT b).1.length ≤ b.length ∧ (∀ t ∈ (getT b).1, t.right = true ∧ Bys t.lit) ∧ ((getT b).2.1 = 0 → toksB (getT b).1 = b) ∧ (¬ (getT b).2.1 = 0 → (getT b).1 = []) := by
  have hok : ROk (RS.new b) := ROk.new hb hn
  rcases rest_is tokF_ok hok rfl with ⟨h1, h2⟩ | ⟨h1, h2, h3, h4⟩
  · have e : getT b = ([], ((tokF.rest (RS.new b) []).1.code, (tokF.rest (RS.new b) []).1.fat)) := by unfold getT; rw [if_neg h1]
    rw [e]
    exact ⟨by simp, by simp, fun h => absurd h h1, fun _ => rfl⟩
  · have e : getT b = ((tokF.rest (RS.new b) []).2, (0, 0)) := by unfold getT; rw [if_pos h1]
    rw [e]
    rw [tok_encs, new_rest] at h3
    exact ⟨h4, tok_wf.1 h2, fun _ => h3.symm, fun h => absurd rfl h⟩
end Go.Proofs.Ytpjkmidjjodplaa
