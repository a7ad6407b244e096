/-
  Contracts of chapters 3 and 7: sums of bytes, by the code and by the reference; bytes some of whose digits are turned; a number's bytes.
-/
import Derived.Test.YtkhnfleejgfhgaaQ4
import Derived.Test.YtkhnfleejgfhgaaP13
set_option linter.all false
set_option linter.unusedSimpArgs false
set_option linter.unusedVariables false
set_option linter.unnecessarySimpa false
namespace Go.Proofs.Ytkhnfleejgfhgaa
open Go.RowKit

abbrev wA (n : Nat) : AV := .lit (.int .u32 (n : Int))
theorem u32_nat (n : Nat) (h : n < 4294967296) : IntKind.u32.wrap (n : Int) = n := IntWalk.u32_in _ (by omega)
theorem step_eq (c : Nat) : cstep c = if c % 2 = 1 then (c / 2) ^^^ 2197175160 else c / 2 := rfl
/-- What each half of a byte makes of the state, as far as it is filled in. -/
def tabN (k : Nat) : List AV := (List.range 16).map fun i => wA (if i < k then csteps 4 i else 0)
theorem tabN_len (k : Nat) : (tabN k).length = 16 := by simp [tabN]
theorem tabN_set (k : Nat) : (tabN k).set k (wA (csteps 4 k)) = tabN (k + 1) := by
  refine List.ext_getElem? fun i => ?_
  rw [List.getElem?_set]
  by_cases h : k = i
  · subst h
    rw [if_pos rfl]
    by_cases hk : k < 16
    · rw [if_pos (by simpa [tabN] using hk)]; simp [tabN, hk]
    · rw [if_neg (by simpa [tabN] using hk)]; simp [tabN, hk]
  · rw [if_neg h]
    by_cases hk : i < 16
    · have : (i < k + 1) = (i < k) := by rw [eq_iff_iff]; omega
      simp [tabN, hk, this]
    · simp [tabN, hk]
@[simp] theorem tabN_ren (ρ : Nat → Nat) (k : Nat) : (tabN k).map (fun x => x.ren ρ) = tabN k := by simp [tabN, ints_nil, ren_lit, ren_ref, ren_any, ren_agg, ren_tup, ren_sl, ren_fn, tren_none, tren_full, tren_row, oren_cells, oren_row, oren_dead, ixs_z, ixs_1, ixs_2, ixs_3, ren_ints, List.map_cons, List.map_nil]
def tab : List AV := tabN 16
theorem tab_get (i : Nat) (h : i < 16) : tab[i]? = some (wA (csteps 4 i)) := by
  simp [tab, tabN, h]
theorem csteps_snoc (n : Nat) : ∀ c, csteps (n + 1) c = cstep (csteps n c) := by
  intro c
  have := csteps_add n 1 c
  rw [this]; rfl
theorem splice_eq (xs : List AV) (o : Nat) (cs : List AV) (h : o + cs.length ≤ xs.length) : splice xs o cs = xs.take o ++ cs ++ xs.drop (o + cs.length) := by
  refine List.ext_getElem? fun j => ?_
  rw [splice_get xs o cs h, List.append_assoc, List.getElem?_append, List.length_take, show min o xs.length = o by omega]
  by_cases h1 : j < o
  · rw [if_neg (by omega), if_pos h1, List.getElem?_take, if_pos h1]
  · rw [if_neg h1, List.getElem?_append]
    by_cases h2 : j - o < cs.length
    · rw [if_pos (by omega), if_pos h2]
    · rw [if_neg (by omega), if_neg h2, List.getElem?_drop]; congr 1; omega
@[simp] theorem tab_ren (ρ : Nat → Nat) : tab.map (fun x => x.ren ρ) = tab := tabN_ren ρ 16
theorem nats_take (l : List Int) (k : Nat) (h : k < l.length) : nats (l.take (k + 1)) = nats (l.take k) ++ [(l.getD k 0).toNat] := by
  rw [take_snoc l k h, nats_append]; rfl
theorem tab_len : tab.length = 16 := tabN_len 16
theorem tab_splice {xs : List AV} (h : xs.length = 16) : splice xs 0 tab = tab := by
  rw [splice_eq xs 0 tab (by rw [tab_len, h]; omega), tab_len, List.drop_eq_nil_of_le (by omega)]; simp
theorem half_eq (b : Nat) (hb : b < 4294967296) : bitsI .xor .u32 ((b / 16 : Nat) : Int) ((csteps 4 (b % 16) : Nat) : Int) = ((csteps 4 b : Nat) : Int) := by
  have := csteps_lt 4 (c := b % 16) (by omega)
  rw [xor32 (b / 16) (csteps 4 (b % 16)) (by omega) (by omega), ← csteps_half]
theorem xor_lt {a b : Nat} (ha : a < 4294967296) (hb : b < 4294967296) : a ^^^ b < 4294967296 := by
  have : a ^^^ b < 2 ^ 32 := Nat.xor_lt_two_pow (by omega) (by omega)
  omega
abbrev sumA (l : List Int) : AV := .lit (.int .u32 (crcI l))
theorem sum_u64 {l : List Int} (hl : Bys l) : IntKind.u64.wrap (crcI l) = crcI l := by
  have := crcI_range hl
  exact IntWalk.u64_in _ (by omega)
theorem turnN_get (l : List Nat) (at_ : Int) (d k : Nat) (h : k < l.length) : (turnN l at_ d).getD k 0 = tbyte (l.getD k 0) (fun j => isT at_ d (8 * k + j)) 8 := by
  simp [turnN, h]
theorem turnB_take (l : List Int) (at_ : Int) (d k : Nat) (h : k < l.length) : (turnB l at_ d).take (k + 1) = (turnB l at_ d).take k ++ [((tbyte (l.getD k 0).toNat (fun j => isT at_ d (8 * k + j)) 8 : Nat) : Int)] := by
  rw [take_snoc _ k (by rw [turnB_len]; exact h)]
  congr 2
  have : (turnB l at_ d).getD k 0 = (((turnN (nats l) at_ d).getD k 0 : Nat) : Int) := by
    unfold turnB
    simp only [List.getD_eq_getElem?_getD, List.getElem?_map]
    cases (turnN (nats l) at_ d)[k]? <;> rfl
  rw [this, turnN_get _ _ _ _ (by rw [nats_len]; exact h), nats_getD]
end Go.Proofs.Ytkhnfleejgfhgaa
