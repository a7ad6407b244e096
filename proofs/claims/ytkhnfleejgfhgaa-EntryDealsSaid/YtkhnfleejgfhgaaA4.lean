/-
  Words over any program: rows that are given and grow; values told less exactly within.
-/
import Derived.Test.YtkhnfleejgfhgaaA3
set_option linter.all false
set_option linter.unusedSimpArgs false
set_option linter.unusedVariables false
set_option linter.unnecessarySimpa false
namespace Go.Proofs.Ytkhnfleejgfhgaa
open Go.RowKit

section
variable {P : Program} {f : FuncId} {args args₀ : List AV} {S : List AObj} {K : KT}
/-- A row that is given, and grows. -/
theorem Ct.o1 {o o' : AObj} {r₀ r : AV} (h : Does P f args₀ [o] r₀ [o']) (i : Nat) (ha : ∀ N, args₀.map (fun x => x.ren (ixs [i] N)) = args) (ho : ∀ ρ, o.ren ρ = o) (ho' : ∀ ρ, o'.ren ρ = o') (hd : o ≠ .dead) (hr : ∀ N, r₀.ren (ixs [i] N) = r) :
    Ct P f args [(i, o)] (fun _ => r) [(i, o')] (fun _ => []) :=
  Ct.mk h [i] (by simp) rfl (by simp) (by simpa using hd) (fun n N => ha N) (fun n N => by simpa using hr N) (fun n N => by simp [ho]) (.inl fun n N => by simp [ho']) (fun n N => rfl)
theorem CallK.o1 {r : AV} {i : Nat} {o o' : AObj} (h : Ct P f args [(i, o)] (fun _ => r) [(i, o')] (fun _ => [])) (hS : S[i]? = some o) (hK : K r [i] [(i, o')] []) : CallK P f args S K := CallK.of h (by simpa using hS) (by simp) hK
end
/-- A value told without whose any of its slices are, within it, too. -/
def untD : AV → AV
  | .sl _ k xs => .sl .none k (xs.map fun x => untD x)
  | .agg xs => .agg (xs.map fun x => untD x)
  | x => x
theorem untD_cells (x : AV) : (untD x).cells = x.cells.map fun x => untD x := by
  cases x <;> simp [untD, AV.cells]
theorem rep_untD {G : Gh} {x : AV} {v : Value} (r : Rep G x v) : Rep G (untD x) v := by
  induction r with
  | lit v => rw [untD]; exact .lit v; all_goals (intros; contradiction)
  | any v => rw [untD]; exact .any v; all_goals (intros; contradiction)
  | ref h => rw [untD]; exact .ref h; all_goals (intros; contradiction)
  | iptr vs h1 h2 h3 _ => rw [untD]; exact .iptr vs h1 h2 h3; all_goals (intros; contradiction)
  | @sl t k xs A c b o vs hc hA hk h1 h2 _ ht ih =>
    rw [untD]
    have hlen : (xs.map fun x => untD x).length = xs.length := by simp
    have := Rep.sl (G := G) (t := .none) (k := k) (xs := xs.map fun x => untD x) (A := A) (c := c) (b := b) (o := o) vs (by rw [hlen]; exact hc) (by rw [hlen]; exact hA) (fun i x hx => ?_) (by rw [hlen]; exact h1) (by rw [hlen]; exact h2) (fun i j x y hx hy => ?_) trivial
    · rw [hlen] at this; exact this
    · obtain ⟨z, hz, rfl⟩ := map_get hx
      rw [untD_cells, List.length_map]; exact hk i z hz
    · obtain ⟨z, hz, rfl⟩ := map_get hx
      rw [untD_cells] at hy
      obtain ⟨q, hq, rfl⟩ := map_get hy
      exact ih i j z q hz hq
  | agg h0 h2 _ ih =>
    rw [untD]
    refine .agg (by simpa using h0) h2 (fun j x v hx hv => ?_)
    obtain ⟨z, hz, rfl⟩ := map_get hx
    exact ih j z v hz hv
  | tup h0 h3 _ => rw [untD]; exact .tup h0 h3; all_goals (intros; contradiction)
  | fn hf hc h1 h2 _ _ => rw [untD]; exact .fn hf hc h1 h2; all_goals (intros; contradiction)
section
variable {P : Program} {f : FuncId} {args args' : List AV} {S : List AObj} {K : KT}
/-- A call with arguments that are told exactly, met by a contract on such as are told less exactly. -/
theorem CallK.pd {r : AV} (h : Ct P f args' [] (fun _ => r) [] (fun _ => [])) (he : args.map untD = args') (hK : K r [] [] []) : CallK P f args S K := by
  refine CallK.of (r := fun _ => r) (rd := []) (upd := []) (new := fun _ => []) (fun T n h1 h2 => ?_) (by simp) (by simp) hK
  have hd := h T n h1 h2
  refine ⟨hd.1, fun G w vs hw hr => hd.2 G w vs hw ⟨by rw [← he]; simpa using hr.1, fun j x v hx hv => ?_⟩⟩
  rw [← he] at hx
  obtain ⟨y, hy, rfl⟩ := map_get hx
  exact rep_untD (hr.2 j y v hy hv)
end
section
variable {P : Program} {f : FuncId} {args args' : List AV} {S : List AObj} {K : KT} {m : Nat} {fn : Func}
/-- A contract on such as are told less exactly. -/
theorem Ct.deep {rd : List (Nat × AObj)} {r : Nat → AV} {upd : List (Nat × AObj)} {new : Nat → List AObj} (h : Ct P f args' rd r upd new) (he : args.map untD = args') : Ct P f args rd r upd new := fun T n h1 h2 => by
  have hd := h T n h1 h2
  refine ⟨hd.1, fun G w vs hw hr => hd.2 G w vs hw ⟨by rw [← he]; simpa using hr.1, fun j x v hx hv => ?_⟩⟩
  rw [← he] at hx
  obtain ⟨y, hy, rfl⟩ := map_get hx
  exact rep_untD (hr.2 j y v hy hv)
/-- A slice told without whose the slices within it are. -/
def untE : AV → AV
  | .sl t k xs => .sl t k (xs.map fun x => untD x)
  | .agg xs => .agg (xs.map fun x => untD x)
  | x => x
theorem rep_untE {G : Gh} {x : AV} {v : Value} (r : Rep G x v) : Rep G (untE x) v := by
  cases r with
  | lit v => exact .lit v
  | any v => exact .any v
  | ref h => exact .ref h
  | iptr vs h1 h2 h3 => exact .iptr vs h1 h2 h3
  | @sl t k xs A c b o vs hc hA hk h1 h2 h3 ht =>
    have hlen : (xs.map fun x => untD x).length = xs.length := by simp
    have := Rep.sl (G := G) (t := t) (k := k) (xs := xs.map fun x => untD x) (A := A) (c := c) (b := b) (o := o) vs (by rw [hlen]; exact hc) (by rw [hlen]; exact hA) (fun i x hx => ?_) (by rw [hlen]; exact h1) (by rw [hlen]; exact h2) (fun i j x y hx hy => ?_) (by rw [hlen]; exact ht)
    · rw [hlen] at this; exact this
    · obtain ⟨z, hz, rfl⟩ := map_get hx
      rw [untD_cells, List.length_map]; exact hk i z hz
    · obtain ⟨z, hz, rfl⟩ := map_get hx
      rw [untD_cells] at hy
      obtain ⟨q, hq, rfl⟩ := map_get hy
      exact rep_untD (h3 i j z q hz hq)
  | agg h0 h2 h3 =>
    refine .agg (by simpa using h0) h2 (fun j x v hx hv => ?_)
    obtain ⟨z, hz, rfl⟩ := map_get hx
    exact rep_untD (h3 j z v hz hv)
  | tup h0 h3 => exact .tup h0 h3
  | fn hf hc h1 h2 => exact .fn hf hc h1 h2
theorem Wk.less {tm : List AV} {S : List AObj} (g : AV → AV) (hg : ∀ {G : Gh} {x : AV} {v : Value}, Rep G x v → Rep G (g x) v) (t : Nat) {x : AV} (ht : tm[t]? = some x) : Wk m tm S (tm.set t (g x)) S := fun G0 S0 w0 G a w _ hz => by
  have htl := (List.getElem?_eq_some_iff.1 ht).1
  refine ⟨G, hz.left, by simp [hz.size], fun t' y v hy hv => ?_, hz.defers, hz.wd0⟩
  by_cases e : t' = t
  · subst e
    simp [htl] at hy; subst hy
    exact hg (hz.rep t' x v ht hv)
  · rw [List.getElem?_set_ne (Ne.symm e)] at hy
    exact hz.rep t' y v hy hv
theorem Wk.untE {tm : List AV} {S : List AObj} (t : Nat) {x : AV} (ht : tm[t]? = some x) : Wk m tm S (tm.set t (Proofs.Ytkhnfleejgfhgaa.untE x)) S := Wk.less Proofs.Ytkhnfleejgfhgaa.untE rep_untE t ht
theorem FinK.untE {tm : List AV} {S S' : List AObj} {r : AV} (t : Nat) {x : AV} (ht : tm[t]? = some x) (h : FinK P m fn (tm.set t (Proofs.Ytkhnfleejgfhgaa.untE x)) S r S') : FinK P m fn tm S r S' := FinK.wk (Wk.untE t ht) h
theorem FinK.untD {tm : List AV} {S S' : List AObj} {r : AV} (t : Nat) {x : AV} (ht : tm[t]? = some x) (h : FinK P m fn (tm.set t (Proofs.Ytkhnfleejgfhgaa.untD x)) S r S') : FinK P m fn tm S r S' := FinK.wk (Wk.less Proofs.Ytkhnfleejgfhgaa.untD rep_untD t ht) h
theorem untD_lit (v : Value) : untD (.lit v) = .lit v := by simp [untD]
theorem untD_sl (t : Tag) (k : Nat) (xs : List AV) : untD (.sl t k xs) = .sl .none k (xs.map fun x => untD x) := by simp [untD]
theorem untD_agg (xs : List AV) : untD (.agg xs) = .agg (xs.map fun x => untD x) := by simp [untD]
theorem untE_sl (t : Tag) (k : Nat) (xs : List AV) : Proofs.Ytkhnfleejgfhgaa.untE (.sl t k xs) = .sl t k (xs.map fun x => untD x) := (rfl)
theorem untD_ints (k : IntKind) (l : List Int) : (ints k l).map (fun x => untD x) = ints k l := by simp [ints, untD]
end
/-- One value told less exactly than another: whose its slices are is forgotten, an empty slice is one of anything. -/
structure Wa (x y : AV) : Prop where
  len : x.cells.length = y.cells.length
  val : ∀ (G : Gh) (v : Value), Rep G x v → Rep G y v
  cel : ∀ (j : Nat) (a b : AV), x.cells[j]? = some a → y.cells[j]? = some b → ∀ (G : Gh) (v : Value), Rep G a v → Rep G b v
def WaL (xs ys : List AV) : Prop := xs.length = ys.length ∧ ∀ (j : Nat) (x y : AV), xs[j]? = some x → ys[j]? = some y → Wa x y
theorem Wa.refl (x : AV) : Wa x x := ⟨rfl, fun _ _ r => r, fun j a b ha hb G v r => by rw [ha] at hb; injection hb with hb; subst hb; exact r⟩
theorem WaL.nil : WaL [] [] := ⟨rfl, fun j x y h => by simp at h⟩
theorem WaL.cons {x y : AV} {xs ys : List AV} (h : Wa x y) (k : WaL xs ys) : WaL (x :: xs) (y :: ys) := by
  refine ⟨by simp [k.1], fun j a b ha hb => ?_⟩
  cases j with
  | zero => simp at ha hb; subst ha hb; exact h
  | succ j => simp at ha hb; exact k.2 j a b ha hb
theorem WaL.refl (xs : List AV) : WaL xs xs := ⟨rfl, fun j x y hx hy => by rw [hx] at hy; injection hy with hy; subst hy; exact .refl _⟩
theorem WaL.map {α : Type} {f g : α → AV} (h : ∀ x, Wa (f x) (g x)) (l : List α) : WaL (l.map f) (l.map g) := ⟨by simp, fun j x y hx hy => by
  obtain ⟨a, ha, rfl⟩ := map_get hx
  obtain ⟨b, hb, rfl⟩ := map_get hy
  rw [ha] at hb; injection hb with hb; subst hb; exact h a⟩
theorem WaL.app {xs ys xs' ys' : List AV} (h : WaL xs ys) (k : WaL xs' ys') : WaL (xs ++ xs') (ys ++ ys') := by
  refine ⟨by simp [h.1, k.1], fun j x y hx hy => ?_⟩
  rw [List.getElem?_append] at hx hy
  rw [h.1] at hx
  split at hx
  · rename_i hl; rw [if_pos hl] at hy; exact h.2 j x y hx hy
  · rename_i hl; rw [if_neg hl] at hy; exact k.2 _ x y hx hy
theorem one_cel {x y : AV} (hx : x.cells = [x]) (hy : y.cells = [y]) (h : ∀ (G : Gh) (v : Value), Rep G x v → Rep G y v) : Wa x y := by
  refine ⟨by rw [hx, hy]; rfl, h, fun j a b ha hb G v r => ?_⟩
  rw [hx] at ha
  rw [hy] at hb
  cases j with
  | zero => simp at ha hb; subst ha hb; exact h G v r
  | succ j => simp at ha
theorem Wa.sl {t t' : Tag} {k k' : Nat} {xs ys : List AV} (ht : t' = .none ∨ t' = t) (hk : k = k' ∨ xs = []) (hw : WaL xs ys) : Wa (.sl t k xs) (.sl t' k' ys) := by
  obtain ⟨hl, h⟩ := hw
  refine one_cel rfl rfl fun G v r => ?_
  cases r with
  | @sl _ _ _ A c b o vs hc hA hk1 h1 h2 h3 ht1 =>
    have htag : TagOk G t' A ys.length c := by
      rcases ht with rfl | rfl
      · trivial
      · rw [← hl]; exact ht1
    have main : Rep G (.sl t' k' ys) (.slice A ys.length c) := by
      rcases hk with rfl | rfl
      · refine .sl (b := b) (o := o) vs (by rw [← hl]; exact hc) (by rw [← hl]; exact hA) (fun i y hy => ?_) (by rw [← hl]; exact h1) (by rw [← hl]; exact h2) (fun i j y z hy hz => ?_) htag
        · have hi : i < xs.length := by rw [hl]; exact (List.getElem?_eq_some_iff.1 hy).1
          have hx := List.getElem?_eq_getElem hi
          rw [← (h i _ y hx hy).len]; exact hk1 i _ hx
        · have hi : i < xs.length := by rw [hl]; exact (List.getElem?_eq_some_iff.1 hy).1
          have hx := List.getElem?_eq_getElem hi
          have hw := h i _ y hx hy
          have hj : j < xs[i].cells.length := by rw [hw.len]; exact (List.getElem?_eq_some_iff.1 hz).1
          have hu := List.getElem?_eq_getElem hj
          exact hw.cel j _ z hu hz G _ (h3 i j _ _ hx hu)
      · obtain rfl : ys = [] := List.eq_nil_of_length_eq_zero (by rw [← hl]; rfl)
        exact .sl (b := b) (o := o) vs (by simp) (by simp) (by simp) (by simp) (by simp) (by simp) htag
    rw [← hl] at main; exact main
theorem Wa.agg {xs ys : List AV} (hw : WaL xs ys) : Wa (.agg xs) (.agg ys) := by
  obtain ⟨hl, h⟩ := hw
  refine ⟨hl, fun G v r => ?_, fun j a b ha hb G v r => (h j a b ha hb).val G v r⟩
  cases r with
  | @agg _ vs h0 h2 h3 =>
    refine .agg (by rw [← hl]; exact h0) h2 fun j y v hy hv => ?_
    have hj : j < xs.length := by rw [hl]; exact (List.getElem?_eq_some_iff.1 hy).1
    have hx := List.getElem?_eq_getElem hj
    exact (h j _ y hx hy).val G v (h3 j _ v hx hv)
theorem Wa.tup {xs ys : List AV} (hw : WaL xs ys) : Wa (.tup xs) (.tup ys) := by
  obtain ⟨hl, h⟩ := hw
  refine one_cel rfl rfl fun G v r => ?_
  cases r with
  | @tup _ vs h0 h3 =>
    refine .tup (by rw [← hl]; exact h0) fun j y v hy hv => ?_
    have hj : j < xs.length := by rw [hl]; exact (List.getElem?_eq_some_iff.1 hy).1
    have hx := List.getElem?_eq_getElem hj
    exact (h j _ y hx hy).val G v (h3 j _ v hx hv)
theorem Wa.slN {t : Tag} {k : Nat} {xs ys : List AV} (h : WaL xs ys) : Wa (.sl t k xs) (.sl .none k ys) := .sl (.inl rfl) (.inl rfl) h
theorem Wa.slS {t : Tag} {k : Nat} {xs ys : List AV} (h : WaL xs ys) : Wa (.sl t k xs) (.sl t k ys) := .sl (.inr rfl) (.inl rfl) h
theorem Wa.none {t : Tag} {k : Nat} {xs : List AV} : Wa (.sl t k xs) (.sl .none k xs) := .slN (WaL.refl xs)
theorem Wa.nil {t : Tag} {k k' : Nat} : Wa (.sl t k []) (.sl .none k' []) := .sl (.inl rfl) (.inr rfl) WaL.nil
section
variable {P : Program} {f : FuncId} {args args' : List AV} {S : List AObj} {m : Nat} {fn : Func} {tm : List AV}
theorem Ct.weak {rd : List (Nat × AObj)} {r : Nat → AV} {upd : List (Nat × AObj)} {new : Nat → List AObj} (h : Ct P f args' rd r upd new) (he : WaL args args') : Ct P f args rd r upd new := fun T n h1 h2 => by
  have hd := h T n h1 h2
  refine ⟨hd.1, fun G w vs hw hr => hd.2 G w vs hw ⟨by rw [← he.1]; exact hr.1, fun j y v hy hv => ?_⟩⟩
  have hj : j < args.length := by rw [he.1]; exact (List.getElem?_eq_some_iff.1 hy).1
  have hx := List.getElem?_eq_getElem hj
  exact (he.2 j _ y hx hy).val G v (hr.2 j _ v hx hv)
theorem Wk.wa (t : Nat) {x y : AV} (ht : tm[t]? = some x) (h : Wa x y) : Wk m tm S (tm.set t y) S := fun G0 S0 w0 G a w _ hz => by
  have htl := (List.getElem?_eq_some_iff.1 ht).1
  refine ⟨G, hz.left, by simp [hz.size], fun t' z u hx hu => ?_, hz.defers, hz.wd0⟩
  by_cases et : t' = t
  · subst et
    simp [htl] at hx; subst hx
    exact h.val _ _ (hz.rep t' x u ht hu)
  · rw [List.getElem?_set_ne (Ne.symm et)] at hx
    exact hz.rep t' z u hx hu
theorem FinK.wa {S' : List AObj} {r : AV} (t : Nat) {x y : AV} (ht : tm[t]? = some x) (h : Wa x y) (k : FinK P m fn (tm.set t y) S r S') : FinK P m fn tm S r S' := FinK.wk (Wk.wa t ht h) k
theorem Wk.wao (i : Nat) {xs ys : List AV} (hi : S[i]? = some (.cells xs)) (h : WaL xs ys) : Wk m tm S tm (S.set i (.cells ys)) := fun G0 S0 w0 G a w _ hz => by
  refine ⟨G, hz.left.trans (Left.reobj hz.left.wd hi h.1.symm fun k y v hy hx => ?_), hz.size, hz.rep, hz.defers, hz.wd0⟩
  have hk : k < xs.length := by rw [h.1]; exact (List.getElem?_eq_some_iff.1 hy).1
  have he := List.getElem?_eq_getElem hk
  exact (h.2 k _ y he hy).val _ _ (hx _ he)
theorem FinK.wao {S' : List AObj} {r : AV} (i : Nat) {xs ys : List AV} (hi : S[i]? = some (.cells xs)) (h : WaL xs ys) (k : FinK P m fn tm (S.set i (.cells ys)) r S') : FinK P m fn tm S r S' := FinK.wk (Wk.wao i hi h) k
end
end Go.Proofs.Ytkhnfleejgfhgaa
