/-
  What arguments of any shape are, told as abstract values: integers, slices, structs of these, one within the other.
-/
import Derived.Test.YtkhnfleejgfhgaaTop
set_option linter.all false
set_option linter.unusedSimpArgs false
set_option linter.unusedVariables false
set_option linter.unnecessarySimpa false
namespace Go.Proofs.Ytkhnfleejgfhgaa
open Go.RowKit Go.ChangeShapes Go.WideShapes Go.ChangeAt

/-- The shape of a type: an integer; a slice of elements of n cells (agg: are these structs); a struct's fields, one behind the other. -/
inductive Sh where
  | int (k : IntKind)
  | sl (agg : Bool) (n : Nat) (e : Sh)
  | nil
  | pair (a b : Sh)
def elA (agg : Bool) (y : List AV) : AV := if agg then .agg y else y.headD .any
def Sh.Ty : Sh → List AV → Prop
  | .int k, xs => ∃ n, xs = [.lit (.int k n)] ∧ (Lit.int k n).wf = true
  | .sl g n e, xs => ∃ ys : List (List AV), xs = [.sl .none n (ys.map (elA g))] ∧ ∀ y ∈ ys, y.length = n ∧ e.Ty y
  | .nil, xs => xs = []
  | .pair a b, xs => ∃ ys zs, xs = ys ++ zs ∧ a.Ty ys ∧ b.Ty zs
def Sh.flat : Sh → Bool
  | .int _ => true
  | .sl .. => true
  | _ => false
section
variable {P : Program}
def shFs (P : Program) (sub : TypeId → Option Sh) : List Field → Nat → Nat → Option Sh
  | [], off, tot => if off = tot then some .nil else none
  | f :: fs, off, tot => if f.offset = off then (sub f.type).bind fun a => (shFs P sub fs (off + P.cellsOf f.type) tot).map (Sh.pair a) else none
def isSt (P : Program) (t : TypeId) : Bool := match P.underlying t with | some (.struct _) => true | _ => false
def shOf (P : Program) : Nat → TypeId → Option Sh
  | 0, _ => none
  | f + 1, t => match P.underlying t with
    | some (.int k) => some (.int k)
    | some (.slice e) => match shOf P f e with
      | some s => if 1 ≤ P.cellsOf e ∧ (isSt P e = true ∨ s.flat = true ∧ P.cellsOf e = 1) then some (.sl (isSt P e) (P.cellsOf e) s) else none
      | none => none
    | some (.struct fs) => shFs P (shOf P f) fs.toList 0 (P.cellsOf t)
    | _ => none

variable {H : Type} {enc : TypeId × Value → H} {W : World} {sp : Nat → Bool} {held : Bool}
theorem flat_cells {s : Sh} (hf : s.flat = true) {y : List AV} (h : s.Ty y) : ∃ x, y = [x] ∧ x.cells = [x] := by
  cases s with
  | int k => obtain ⟨n, rfl, _⟩ := h; exact ⟨_, rfl, rfl⟩
  | sl g n e => obtain ⟨ys, rfl, _⟩ := h; exact ⟨_, rfl, rfl⟩
  | nil => cases hf
  | pair a b => cases hf
theorem elA_cells {g : Bool} {s : Sh} (hg : g = true ∨ s.flat = true) {y : List AV} (h : s.Ty y) : (elA g y).cells = y := by
  cases g with
  | true => simp [elA, AV.cells]
  | false =>
    rcases hg with hg | hg
    · cases hg
    · obtain ⟨x, rfl, hx⟩ := flat_cells hg h
      simpa [elA] using hx
theorem repL_app {G : Gh} {xs ys : List AV} {vs us : List Value} (h : RepL G xs vs) (k : RepL G ys us) : RepL G (xs ++ ys) (vs ++ us) := h.append k
theorem shape_struct {n : Nat} {sub : TypeId → Option Sh}
    (ih : ∀ (t : TypeId) (s : Sh) (cs : List Value) (x : DataW H × List MemPlace), sub t = some s → DataW.trod enc P W 0 sp held n t cs = some x → ∃ xs, RepL (G0 W) xs cs ∧ (∀ v ∈ cs, v.oneCell' = true) ∧ s.Ty xs) :
    ∀ (fs : List Field) (off tot : Nat) (s : Sh) (cs : List Value) (zs : List (DataW H × List MemPlace)), shFs P sub fs off tot = some s → cs.length = tot → zs.length = fs.length →
      (∀ (i : Nat) (f : Field), fs[i]? = some f → DataW.trod enc P W 0 sp held n f.type ((cs.drop f.offset).take (P.cellsOf f.type)) = zs[i]?) →
      ∃ xs, RepL (G0 W) xs (cs.drop off) ∧ (∀ v ∈ cs.drop off, v.oneCell' = true) ∧ s.Ty xs := by
  intro fs
  induction fs with
  | nil =>
    intro off tot s cs zs hs hl _ _
    simp only [shFs] at hs
    split at hs
    · rename_i ho
      injection hs with hs; subst hs
      have : cs.drop off = [] := List.drop_eq_nil_of_le (by omega)
      rw [this]
      exact ⟨[], RepL.nil _, by simp, rfl⟩
    · cases hs
  | cons f fs ihf =>
    intro off tot s cs zs hs hl hz h
    simp only [shFs] at hs
    split at hs
    · rename_i ho
      cases ha : sub f.type with
      | none => simp [ha] at hs
      | some a =>
        simp only [ha, Option.bind_some, Option.map_eq_some_iff] at hs
        obtain ⟨b, hb, rfl⟩ := hs
        cases zs with
        | nil => simp at hz
        | cons z zs =>
          have h0 := h 0 f rfl
          simp only [List.getElem?_cons_zero] at h0
          obtain ⟨xs, r1, r2, r3⟩ := ih _ a _ z ha h0
          obtain ⟨ys, q1, q2, q3⟩ := ihf (off + P.cellsOf f.type) tot b cs zs hb hl (by simpa using hz) (fun i g hg => by simpa using h (i + 1) g (by simpa using hg))
          rw [ho] at r1 r2
          have e : cs.drop off = (cs.drop off).take (P.cellsOf f.type) ++ cs.drop (off + P.cellsOf f.type) := by
            rw [← List.drop_drop, List.take_append_drop]
          rw [e]
          exact ⟨xs ++ ys, r1.append q1, fun v hv => by rcases List.mem_append.1 hv with hv | hv; exact r2 v hv; exact q2 v hv, xs, ys, rfl, r3, q3⟩
    · cases hs
theorem cells_get {a : Addr} {n : Nat} {cs : List Value} (h : W.cells? 0 a n = some cs) : cs.length = n ∧ ∀ i, i < n → W.cell? (a.add i) = cs[i]? := by
  obtain ⟨h1, h2, h3⟩ := World.cells?_some h
  exact ⟨h2, h3⟩
/-- What is read of such a shape is so told. -/
theorem shape_rep : ∀ (f : Nat) (t : TypeId) (s : Sh) (n : Nat) (cs : List Value) (x : DataW H × List MemPlace), shOf P f t = some s → DataW.trod enc P W 0 sp held n t cs = some x →
    ∃ xs, RepL (G0 W) xs cs ∧ (∀ v ∈ cs, v.oneCell' = true) ∧ s.Ty xs := by
  intro f
  induction f with
  | zero => intro t s n cs x h; simp [shOf] at h
  | succ f ih =>
    intro t s n cs x hs hd
    simp only [shOf] at hs
    cases hu : P.underlying t with
    | none => simp [hu] at hs
    | some u =>
      rw [hu] at hs
      cases u with
      | int k =>
        injection hs with hs; subst hs
        obtain ⟨m, rfl, _, hw⟩ := DataW.trod_int hu hd
        exact ⟨[.lit (.int k m)], (RepL.nil _).cons (.lit _), by simp [Value.oneCell'], m, rfl, hw⟩
      | struct fs =>
        obtain ⟨xs, m, _, _, hl, hn, hf⟩ := DataW.trod_struct hu hd
        have := shape_struct (sub := shOf P f) (n := m) (fun t s cs x h1 h2 => ih t s m cs x h1 h2) fs.toList 0 (P.cellsOf t) s cs xs hs hl (by simpa using hn) (fun i f hi => hf i f (by simpa using hi))
        simpa using this
      | slice e =>
        simp only at hs
        cases he : shOf P f e with
        | none => simp [he] at hs
        | some se =>
          rw [he] at hs
          simp only at hs
          split at hs
          · rename_i hc
            injection hs with hs; subst hs
            obtain ⟨hc1, hc2⟩ := hc
            have hg : isSt P e = true ∨ se.flat = true := by rcases hc2 with h | h; exact .inl h; exact .inr h.1
            rcases DataW.trod_slice hu hd with ⟨rfl, _⟩ | ⟨a, len, cap, elems, rest, m, _, rfl, _, _, hle, _, hlen, hel, _, _⟩
            · refine ⟨[.sl .none (P.cellsOf e) []], (RepL.nil _).cons ?_, by simp [Value.oneCell'], [], rfl, by simp⟩
              exact .sl (A := none) (c := 0) (b := 0) (o := 0) (fun _ _ => undef) (by simp) (by simp) (by simp) (by simp) (by simp) (by simp) trivial
            · have each : ∀ i, i < len → ∃ (ce : List Value) (y : List AV), ce.length = P.cellsOf e ∧ (∀ j, j < P.cellsOf e → W.cell? ((a.add (i * P.cellsOf e)).add j) = ce[j]?) ∧ RepL (G0 W) y ce ∧ (∀ v ∈ ce, v.oneCell' = true) ∧ se.Ty y := by
                intro i hi
                have h1 := hel i hi
                have h2 : elems[i]? = some elems[i] := by simp
                rw [h2, Option.bind_eq_some_iff] at h1
                obtain ⟨ce, h3, h4⟩ := h1
                obtain ⟨k1, k2⟩ := cells_get h3
                obtain ⟨y, y1, y2, y3⟩ := ih e se m ce _ he h4
                exact ⟨ce, y, k1, k2, y1, y2, y3⟩
              -- choose them
              have pick : ∃ (cf : Nat → List Value) (yf : Nat → List AV), ∀ i, i < len → (cf i).length = P.cellsOf e ∧ (∀ j, j < P.cellsOf e → W.cell? ((a.add (i * P.cellsOf e)).add j) = (cf i)[j]?) ∧ RepL (G0 W) (yf i) (cf i) ∧ (∀ v ∈ cf i, v.oneCell' = true) ∧ se.Ty (yf i) := by
                refine ⟨fun i => if h : i < len then (each i h).choose else [], fun i => if h : i < len then (each i h).choose_spec.choose else [], fun i hi => ?_⟩
                simp only [dif_pos hi]
                exact (each i hi).choose_spec.choose_spec
              obtain ⟨cf, yf, hall⟩ := pick
              have hyl : ∀ i, i < len → (yf i).length = P.cellsOf e := fun i hi => by
                obtain ⟨p1, _, p3, _⟩ := hall i hi
                rw [p3.1, p1]
              have hlenY : ((List.range len).map yf).length = len := by simp
              have hty : ∀ y ∈ (List.range len).map yf, y.length = P.cellsOf e ∧ se.Ty y := by
                intro y hy
                simp only [List.mem_map, List.mem_range] at hy
                obtain ⟨i, hi, rfl⟩ := hy
                exact ⟨hyl i hi, (hall i hi).2.2.2.2⟩
              refine ⟨[.sl .none (P.cellsOf e) (((List.range len).map yf).map (elA (isSt P e)))], (RepL.nil _).cons ?_, by simp [Value.oneCell'], (List.range len).map yf, rfl, hty⟩
              have hL : (((List.range len).map yf).map (elA (isSt P e))).length = len := by simp
              have hget : ∀ i x, (((List.range len).map yf).map (elA (isSt P e)))[i]? = some x → i < len ∧ x = elA (isSt P e) (yf i) := by
                intro i x hx
                have hi : i < len := by
                  rcases Nat.lt_or_ge i len with h | h
                  · exact h
                  · rw [List.getElem?_eq_none (by simpa using h)] at hx; cases hx
                simp [hi] at hx
                exact ⟨hi, hx.symm⟩
              have hspot : 0 < len → a.spot = none := by
                intro h0
                obtain ⟨p1, p2, _⟩ := hall 0 h0
                have := p2 0 (by omega)
                rw [List.getElem?_eq_getElem (by omega)] at this
                have := spot_none this
                simpa [Addr.add] using this
              have hcell : ∀ i j, i < len → j < P.cellsOf e → W.cell? ⟨a.block, a.off + i * P.cellsOf e + j, none⟩ = (cf i)[j]? := by
                intro i j hi hj
                have hs := hspot (by omega)
                obtain ⟨_, p2, _⟩ := hall i hi
                rw [← p2 j hj]
                obtain ⟨b, o, s⟩ := a
                simp only at hs
                subst hs
                rw [add_none, add_none]
              have main : Rep (G0 W) (.sl .none (P.cellsOf e) (((List.range len).map yf).map (elA (isSt P e)))) (.slice (some a) (((List.range len).map yf).map (elA (isSt P e))).length cap) := by
                refine .sl (b := a.block) (o := a.off) (fun i j => (cf i).getD j undef) (by rw [hL]; exact hle) (fun h => ?_) (fun i x hx => ?_) (fun i j hi hj => ?_) (fun i j hi hj => ?_) (fun i j x y hx hy => ?_) trivial
                · have hs := hspot (by rw [hL] at h; exact h)
                  obtain ⟨b, o, s⟩ := a
                  simp only at hs
                  subst hs; rfl
                · obtain ⟨hi, rfl⟩ := hget i x hx
                  rw [elA_cells hg (hall i hi).2.2.2.2]; exact hyl i hi
                · rw [hL] at hi
                  have hc := hcell i j hi hj
                  have p1 := (hall i hi).1
                  rw [List.getElem?_eq_getElem (by omega)] at hc
                  have e2 : (cf i).getD j undef = (cf i)[j]'(by omega) := by simp [show j < (cf i).length by omega]
                  rw [e2]; exact hc
                · rw [hL] at hi
                  have p1 := (hall i hi).1
                  have e2 : (cf i).getD j undef = (cf i)[j]'(by omega) := by simp [show j < (cf i).length by omega]
                  rw [e2]; exact (hall i hi).2.2.2.1 _ (List.getElem_mem _)
                · obtain ⟨hi, rfl⟩ := hget i x hx
                  rw [elA_cells hg (hall i hi).2.2.2.2] at hy
                  have p3 := (hall i hi).2.2.1
                  have hj : j < (yf i).length := (List.getElem?_eq_some_iff.1 hy).1
                  have hj2 : j < (cf i).length := by rw [← p3.1]; exact hj
                  have e2 : (cf i).getD j undef = (cf i)[j] := by simp [hj2]
                  rw [e2]
                  exact p3.2 j y _ hy (List.getElem?_eq_getElem hj2)
              rw [hL] at main
              exact main
          · cases hs
      | _ => simp at hs
/-- An argument of a shape. -/
theorem open_sh {r : Reach} {b0 : Nat} {t : TypeId} {s : Sh} {v : Value} {d : DataW H} {ps : List MemPlace} (f : Nat) (hs : shOf P f t = some s) (hval : Value.okWide P W r b0 t v) (hd : DataW.Trod enc P W 0 sp held t v d ps) :
    ∃ xs, RepL (G0 W) xs v.cells.toList ∧ (∀ u ∈ v.cells.toList, u.oneCell' = true) ∧ s.Ty xs := by
  obtain ⟨fuel, hf⟩ := hd
  exact shape_rep f t s fuel _ _ hs hf
/-- A slice argument. -/
theorem open_slsh {r : Reach} {b0 : Nat} {t e : TypeId} {g : Bool} {n : Nat} {se : Sh} {v : Value} {d : DataW H} {ps : List MemPlace} (f : Nat) (hs : shOf P f t = some (.sl g n se)) (ht : P.underlying t = some (.slice e)) (hval : Value.okWide P W r b0 t v) (hd : DataW.Trod enc P W 0 sp held t v d ps) :
    ∃ ys : List (List AV), Rep (G0 W) (.sl .none n (ys.map (elA g))) v ∧ ∀ y ∈ ys, y.length = n ∧ se.Ty y := by
  obtain ⟨xs, h1, h2, ys, rfl, h3⟩ := open_sh f hs hval hd
  obtain ⟨a, len, cap, rfl⟩ := okWide_slice ht hval
  refine ⟨ys, h1.2 0 _ _ rfl ?_, h3⟩
  simp [Value.cells]
/-- A struct argument. -/
theorem open_stsh {r : Reach} {b0 : Nat} {t : TypeId} {fs : Array Field} {s : Sh} {v : Value} {d : DataW H} {ps : List MemPlace} (f : Nat) (hs : shOf P f t = some s) (ht : P.underlying t = some (.struct fs)) (hval : Value.okWide P W r b0 t v) (hd : DataW.Trod enc P W 0 sp held t v d ps) :
    ∃ xs, Rep (G0 W) (.agg xs) v ∧ s.Ty xs := by
  obtain ⟨xs, h1, h2, h3⟩ := open_sh f hs hval hd
  obtain ⟨cs, rfl, _⟩ := okWide_struct ht hval
  refine ⟨xs, .agg (by simpa [Value.cells] using h1.1) (fun j u hu => h2 u ?_) (fun j x u hx hu => h1.2 j x u hx (by simpa [Value.cells] using hu)), h3⟩
  simp only [Value.cells]
  exact Array.mem_toList_iff.2 (Array.mem_of_getElem? hu)
theorem ex_list {β : Type} {A : List AV → Prop} {g : β → List AV} {ok : β → Prop} : ∀ {ys : List (List AV)}, (∀ y ∈ ys, A y) → (∀ y, A y → ∃ m, y = g m ∧ ok m) → ∃ l : List β, ys = l.map g ∧ ∀ m ∈ l, ok m := by
  intro ys
  induction ys with
  | nil => intro _ _; exact ⟨[], rfl, by simp⟩
  | cons y ys ih =>
    intro h hg
    obtain ⟨l, rfl, hl⟩ := ih (fun y hy => h y (List.mem_cons_of_mem _ hy)) hg
    obtain ⟨m, rfl, hm⟩ := hg y (h y (List.mem_cons_self ..))
    exact ⟨m :: l, rfl, fun x hx => by rcases List.mem_cons.1 hx with rfl | hx; exact hm; exact hl x hx⟩
end
end Go.Proofs.Ytkhnfleejgfhgaa
