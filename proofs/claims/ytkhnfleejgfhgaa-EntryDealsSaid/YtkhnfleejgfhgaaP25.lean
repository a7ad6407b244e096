/-
  Plain laws of chapter 24: entries dealt, one by one. No program.
-/
import Derived.Test.YtkhnfleejgfhgaaP22
set_option linter.all false
set_option linter.unusedSimpArgs false
set_option linter.unusedVariables false
set_option linter.unnecessarySimpa false
namespace Go.Proofs.Ytkhnfleejgfhgaa

def preS (ns : List Int) (k : Nat) : Int := (ns.take k).foldl (· + ·) 0
theorem preS_succ (ns : List Int) (k : Nat) (h : k < ns.length) : preS ns (k + 1) = preS ns k + ns.getD k 0 := by
  have e : ns.take (k + 1) = ns.take k ++ [ns.getD k 0] := by rw [List.take_add_one]; simp [h]
  unfold preS
  rw [e, List.foldl_append]
  rfl
/-- As far as k entries were dealt. -/
structure Dl (hs : List En) (ns d : List Int) (k : Nat) (sum : Int) (acc : List En) : Prop where
  len : hs.length = ns.length
  k1 : k ≤ ns.length
  s0 : 0 ≤ sum
  s1 : sum ≤ d.length
  sp : sum = preS ns k
  al : acc.length = k
  each : ∀ j, j < k → 0 ≤ ns.getD j 0 ∧ 0 ≤ preS ns j ∧ preS ns (j + 1) ≤ d.length ∧ acc.getD j en0 = ⟨(hs.getD j en0).lk, (d.drop (preS ns j).toNat).take (ns.getD j 0).toNat⟩
  go : dealGo (hs.drop k) (ns.drop k) (d.drop sum.toNat) acc = dealE hs ns d
theorem Dl.start {hs : List En} {ns : List Int} (d : List Int) (h : hs.length = ns.length) : Dl hs ns d 0 0 [] :=
  ⟨h, by omega, Int.le_refl _, by omega, rfl, rfl, fun j hj => by omega, by unfold dealE; rw [if_pos h]; rfl⟩
theorem drop_en {hs : List En} {k : Nat} (h : k < hs.length) : hs.drop k = hs.getD k en0 :: hs.drop (k + 1) := by rw [List.drop_eq_getElem_cons h]; simp [h]
theorem drop_in {ns : List Int} {k : Nat} (h : k < ns.length) : ns.drop k = ns.getD k 0 :: ns.drop (k + 1) := by rw [List.drop_eq_getElem_cons h]; simp [h]
theorem Dl.step {hs : List En} {ns d : List Int} {k : Nat} {sum : Int} {acc : List En} (h : Dl hs ns d k sum acc) (hk : k < ns.length) (n0 : 0 ≤ ns.getD k 0) (n1 : ns.getD k 0 ≤ (d.length : Int) - sum) :
    Dl hs ns d (k + 1) (sum + ns.getD k 0) (acc ++ [⟨(hs.getD k en0).lk, (d.drop sum.toNat).take (ns.getD k 0).toNat⟩]) := by
  obtain ⟨h1, h2, h3, h4, h5, h6, h7, h8⟩ := h
  have hp := preS_succ ns k hk
  rw [drop_en (by omega), drop_in hk, dealGo, if_neg (by rw [List.length_drop]; omega), List.drop_drop] at h8
  refine ⟨h1, hk, by omega, by omega, by rw [hp, h5], by simp [h6], fun j hj => ?_, ?_⟩
  · by_cases hjk : j < k
    · obtain ⟨e1, e2, e3, e4⟩ := h7 j hjk
      refine ⟨e1, e2, e3, ?_⟩
      rw [← e4, List.getD_eq_getElem?_getD, List.getElem?_append_left (by omega), List.getD_eq_getElem?_getD]
    · obtain rfl : j = k := by omega
      refine ⟨n0, by omega, by omega, ?_⟩
      rw [List.getD_eq_getElem?_getD, List.getElem?_append_right (by omega), h6, Nat.sub_self, ← h5]
      rfl
  · rw [← h8]
    congr 2
    omega
theorem Dl.bad {hs : List En} {ns d : List Int} {k : Nat} {sum : Int} {acc : List En} (h : Dl hs ns d k sum acc) (hk : k < ns.length) (hn : ns.getD k 0 < 0 ∨ (d.length : Int) - sum < ns.getD k 0) : dealE hs ns d = ([], false) := by
  obtain ⟨h1, h2, h3, h4, h5, h6, h7, h8⟩ := h
  rw [drop_en (by omega), drop_in hk, dealGo, if_pos (by rw [List.length_drop]; omega)] at h8
  exact h8.symm
theorem Dl.done {hs : List En} {ns d : List Int} {sum : Int} {acc : List En} (h : Dl hs ns d ns.length sum acc) : dealE hs ns d = if sum = d.length then (acc, true) else ([], false) := by
  obtain ⟨h1, h2, h3, h4, h5, h6, h7, h8⟩ := h
  rw [List.drop_eq_nil_of_le (by omega)] at h8
  simp only [dealGo] at h8
  rw [← h8]
  by_cases e : sum = d.length
  · rw [if_pos e, if_pos (by rw [List.length_drop]; omega)]
  · rw [if_neg e, if_neg (by rw [List.length_drop]; omega)]
end Go.Proofs.Ytkhnfleejgfhgaa
