/-
  What a call leaves as it was (Kept), over any program. Abstract values, a ghost of what lies still in memory, and how a world bears an abstract store: over any program. A contract in a small store serves in any greater one, and what a call leaves may be told in a smaller one: over any program. What single steps leave in a world that bears a store: a new object, a cell that is stored, a new row that lies still, a row that grows: over any program. The operations that this program's text has, told over abstract values and an abstract store; what each means. Over any program. The operations do what is told of them: those that leave the memory, loads, stores, new objects. Over any program. The operations do what is told of them: stores, new objects, numbers, choices. Over any program. The operations do what is told of them: parts of slices, of structs, of arrays, of strings; structs and slices that are built. Over any program. The operations do what is told of them: structs and slices that are built, append, make, calls. Over any program. The operations do what is told of them: append, bytes of a string, make, calls, structs that are compared. Over any program.
-/
import Derived.WalkKit
import Derived.WalkSpells
import Derived.WalkLawsBesides
import Derived.ProofKit
import Derived.OpenShut
import Derived.Laws.IdiomStrings
set_option linter.all false
set_option linter.unusedSimpArgs false
set_option linter.unusedVariables false
set_option linter.unnecessarySimpa false
section
section
namespace Go.Proofs.Ytnfagphepkeedaa
open Go.RowKit

/-- The blocks that K names are as they were, the others may have turned, new ones may be there. -/
structure Kept (K : Nat → Prop) (w w' : World) : Prop where
  os : w'.os = w.os
  tape : w'.tape = w.tape
  output : w'.output = w.output
  size : w.heap.size ≤ w'.heap.size
  block : ∀ i, i < w.heap.size → K i → w'.heap[i]? = w.heap[i]?
/-- All that was there is as it was. -/
abbrev Ext (w w' : World) : Prop := Kept (fun _ => True) w w'

section
variable {K K' : Nat → Prop} {w w' w'' : World}
theorem Kept.refl (K : Nat → Prop) (w : World) : Kept K w w := ⟨rfl, rfl, rfl, Nat.le_refl _, fun _ _ _ => rfl⟩
theorem Kept.trans (h : Kept K w w') (h' : Kept K w' w'') : Kept K w w'' :=
  ⟨h'.os.trans h.os, h'.tape.trans h.tape, h'.output.trans h.output, Nat.le_trans h.size h'.size, fun i hi hk => (h'.block i (Nat.lt_of_lt_of_le hi h.size) hk).trans (h.block i hi hk)⟩
theorem Kept.mono (h : Kept K w w') (hK : ∀ i, i < w.heap.size → K' i → K i) : Kept K' w w' := ⟨h.os, h.tape, h.output, h.size, fun i hi hk => h.block i hi (hK i hi hk)⟩
theorem Kept.any (h : Kept (fun _ => True) w w') : Kept K w w' := h.mono fun _ _ _ => trivial
theorem Below.ext (h : Below w.heap.size w w') : Ext w w' := ⟨h.os, h.tape, h.output, h.size, fun i hi _ => h.block i hi⟩
theorem Kept.below {B : Nat} (h : Kept K w w') (hB : ∀ i, i < B → K i) (hs : B ≤ w.heap.size) : Below B w w' := ⟨h.os, h.tape, h.output, h.size, fun i hi => h.block i (by omega) (hB i hi)⟩
theorem Kept.alloc (h : Kept K w w') (o : Obj) : Kept K w (w'.alloc o) :=
  ⟨h.os, h.tape, h.output, Nat.le_trans h.size (by simp), fun i hi hk => (Below.heap_alloc w' o i (Nat.lt_of_lt_of_le hi h.size)).trans (h.block i hi hk)⟩
theorem Kept.drew (h : Kept K w w') : Kept K w w'.drew := ⟨h.os, h.tape, h.output, h.size, h.block⟩
theorem Kept.grown (h : Kept K w w') {row : Option Nat} (hg : w'.grownBy w'' row) (hr : ∀ k, row = some k → k < w.heap.size → ¬ K k) : Kept K w w'' :=
  ⟨hg.os.trans h.os, hg.tape.trans h.tape, hg.output.trans h.output, Nat.le_trans h.size hg.size, fun i hi hk => (hg.block i (Nat.lt_of_lt_of_le hi h.size) (fun e => hr i e.symm hi hk)).trans (h.block i hi hk)⟩
theorem Kept.cell (h : Kept K w w') {p : Addr} {u : Value} (hc : w.cell? p = some u) (hk : K p.block) : w'.cell? p = some u :=
  (World.cell?_of_block (w := w) (h.block p.block (World.block_lt_of_cell? w p hc) hk)).trans hc
theorem Kept.heap (h : Kept K w w') {i : Nat} {o : Obj} (hc : w.heap[i]? = some o) (hk : K i) : w'.heap[i]? = some o :=
  (h.block i (Array.getElem?_eq_some_iff.1 hc).1 hk).trans hc
end
end Go.Proofs.Ytnfagphepkeedaa
end
section
namespace Go.Proofs.Ytnfagphepkeedaa

/-- May one append onto a slice: not known; its capacity is its length; it is the present one of row j. -/
inductive Tag where
  | none
  | full
  | row (j : Nat)

inductive AV where
  | lit (v : Value)
  | any
  | ref (i off : Nat)
  | iptr (cs : List AV)
  | sl (t : Tag) (k : Nat) (xs : List AV)
  | agg (xs : List AV)
  | tup (xs : List AV)
  | fn (f : FuncId) (first cap : List AV)
  /-- the slice of the row that may turn, j, when it had n elements; a pointer to one of its cells; a slice of which a row is made that may turn. -/
  | ms (j n : Nat)
  | mref (j n off : Nat)
  | slc (k : Nat) (xs : List AV)

def AV.cells : AV → List AV
  | .agg xs => xs
  | x => [x]
def AV.one : AV → Bool
  | .lit v => v.oneCell'
  | .ref .. | .iptr .. | .sl .. | .fn .. | .ms .. | .mref .. | .slc .. => true
  | _ => false

/-- What lies still: cells that do not turn any more; where the objects lie; what each row was at each length. -/
structure Gh where
  imm : Nat → Nat → Option Value
  loc : Nat → Option Nat
  hist : Nat → Nat → Option Value
structure Gh.Le (G G' : Gh) : Prop where
  imm : ∀ b i v, G.imm b i = some v → G'.imm b i = some v
  loc : ∀ i b, G.loc i = some b → G'.loc i = some b
  hist : ∀ j n v, G.hist j n = some v → G'.hist j n = some v
theorem Gh.Le.refl (G : Gh) : G.Le G := ⟨fun _ _ _ h => h, fun _ _ h => h, fun _ _ _ h => h⟩
theorem Gh.Le.trans {a b c : Gh} (h : a.Le b) (k : b.Le c) : a.Le c :=
  ⟨fun _ _ _ x => k.imm _ _ _ (h.imm _ _ _ x), fun _ _ x => k.loc _ _ (h.loc _ _ x), fun _ _ _ x => k.hist _ _ _ (h.hist _ _ _ x)⟩

def TagOk (G : Gh) (t : Tag) (A : Option Addr) (n c : Nat) : Prop :=
  match t with
  | .none => True
  | .full => c = n
  | .row j => G.hist j n = some (.slice A n c)

inductive Rep (G : Gh) : AV → Value → Prop
  | lit (v : Value) : Rep G (.lit v) v
  | any (v : Value) : Rep G .any v
  | ref {i o b : Nat} (h : G.loc i = some b) : Rep G (.ref i o) (.pointer (some ⟨b, o, none⟩))
  | iptr {cs : List AV} {b o : Nat} (vs : Nat → Value) (h1 : ∀ j, j < cs.length → G.imm b (o + j) = some (vs j)) (h2 : ∀ j, j < cs.length → (vs j).oneCell' = true)
      (h3 : ∀ (j : Nat) (x : AV), cs[j]? = some x → Rep G x (vs j)) : Rep G (.iptr cs) (.pointer (some ⟨b, o, none⟩))
  | sl {t : Tag} {k : Nat} {xs : List AV} {A : Option Addr} {c b o : Nat} (vs : Nat → Nat → Value) (hc : xs.length ≤ c) (hA : 0 < xs.length → A = some ⟨b, o, none⟩)
      (hk : ∀ (i : Nat) (x : AV), xs[i]? = some x → x.cells.length = k) (h1 : ∀ i j, i < xs.length → j < k → G.imm b (o + i * k + j) = some (vs i j)) (h2 : ∀ i j, i < xs.length → j < k → (vs i j).oneCell' = true)
      (h3 : ∀ (i j : Nat) (x y : AV), xs[i]? = some x → x.cells[j]? = some y → Rep G y (vs i j)) (ht : TagOk G t A xs.length c) : Rep G (.sl t k xs) (.slice A xs.length c)
  | agg {xs : List AV} {vs : Array Value} (h0 : xs.length = vs.size) (h2 : ∀ (j : Nat) (v : Value), vs[j]? = some v → v.oneCell' = true) (h3 : ∀ (j : Nat) (x : AV) (v : Value), xs[j]? = some x → vs[j]? = some v → Rep G x v) : Rep G (.agg xs) (.agg vs)
  | tup {xs : List AV} {vs : Array Value} (h0 : xs.length = vs.size) (h3 : ∀ (j : Nat) (x : AV) (v : Value), xs[j]? = some x → vs[j]? = some v → Rep G x v) : Rep G (.tup xs) (.tuple vs)
  | fn {f : FuncId} {fs cs : List AV} {fv cv : Array Value} (hf : fs.length = fv.size) (hc : cs.length = cv.size) (h1 : ∀ (j : Nat) (x : AV) (v : Value), fs[j]? = some x → fv[j]? = some v → Rep G x v)
      (h2 : ∀ (j : Nat) (x : AV) (v : Value), cs[j]? = some x → cv[j]? = some v → Rep G x v) : Rep G (.fn f fs cs) (.func (.func f) fv cv)
  | ms {j n : Nat} {A : Option Addr} {c : Nat} (h : G.hist j n = some (.slice A n c)) (h0 : 0 < n → ∃ b, A = some ⟨b, 0, none⟩) : Rep G (.ms j n) (.slice A n c)
  | mref {j n o b c : Nat} (h : G.hist j n = some (.slice (some ⟨b, 0, none⟩) n c)) : Rep G (.mref j n o) (.pointer (some ⟨b, o, none⟩))
  | slc {k : Nat} {xs : List AV} {v : Value} (h : Rep G (.sl .none k xs) v) : Rep G (.slc k xs) v

theorem TagOk.mono {G G' : Gh} (h : G.Le G') {t : Tag} {A : Option Addr} {n c : Nat} (ht : TagOk G t A n c) : TagOk G' t A n c := by
  cases t with
  | none => trivial
  | full => exact ht
  | row j => exact h.hist _ _ _ ht
theorem Rep.mono {G G' : Gh} (h : G.Le G') {x : AV} {v : Value} (r : Rep G x v) : Rep G' x v := by
  induction r with
  | lit v => exact .lit v
  | any v => exact .any v
  | ref hl => exact .ref (h.loc _ _ hl)
  | iptr vs h1 h2 _ ih => exact .iptr vs (fun j hj => h.imm _ _ _ (h1 j hj)) h2 ih
  | sl vs hc hA hk h1 h2 _ ht ih => exact .sl vs hc hA hk (fun i j hi hj => h.imm _ _ _ (h1 i j hi hj)) h2 ih (ht.mono h)
  | agg h0 h2 _ ih => exact .agg h0 h2 ih
  | tup h0 _ ih => exact .tup h0 ih
  | fn hf hc _ _ ih1 ih2 => exact .fn hf hc ih1 ih2
  | ms h1 h0 => exact .ms (h.hist _ _ _ h1) h0
  | mref h1 => exact .mref (h.hist _ _ _ h1)
  | slc _ ih => exact .slc ih
theorem Rep.oneC {G : Gh} {x : AV} {v : Value} (r : Rep G x v) (h : x.one = true) : v.oneCell' = true := by
  cases r with
  | slc h => cases h; rfl
  | _ => simp_all [AV.one, Value.oneCell']

def RepL (G : Gh) (xs : List AV) (vs : List Value) : Prop := xs.length = vs.length ∧ ∀ (j : Nat) (x : AV) (v : Value), xs[j]? = some x → vs[j]? = some v → Rep G x v
theorem RepL.mono {G G' : Gh} (h : G.Le G') {xs : List AV} {vs : List Value} (r : RepL G xs vs) : RepL G' xs vs := ⟨r.1, fun j x v hx hv => (r.2 j x v hx hv).mono h⟩
theorem RepL.nil (G : Gh) : RepL G [] [] := ⟨rfl, fun j x v h => by simp at h⟩
theorem RepL.cons {G : Gh} {x : AV} {v : Value} {xs : List AV} {vs : List Value} (h : Rep G x v) (r : RepL G xs vs) : RepL G (x :: xs) (v :: vs) := by
  refine ⟨by simp [r.1], fun j y u hy hu => ?_⟩
  cases j with
  | zero => simp at hy hu; subst hy hu; exact h
  | succ j => simp at hy hu; exact r.2 j y u hy hu
theorem RepL.append {G : Gh} {xs ys : List AV} {vs us : List Value} (h : RepL G xs vs) (k : RepL G ys us) : RepL G (xs ++ ys) (vs ++ us) := by
  refine ⟨by simp [h.1, k.1], fun j x v hx hv => ?_⟩
  rw [List.getElem?_append] at hx hv
  rw [h.1] at hx
  split at hx
  · rename_i hl; rw [if_pos hl] at hv; exact h.2 j x v hx hv
  · rename_i hl; rw [if_neg hl] at hv; exact k.2 _ x v hx hv

/-- An object of the abstract store: none (a place that is kept free); cells that may turn; a row of elements of k cells that has n of them now and may grow. -/
inductive AObj where
  | dead
  | cells (xs : List AV)
  | row (k n : Nat)
  /-- a row of n elements of k cells each, which may turn, and which may grow: its cells. -/
  | mrow (k n : Nat) (xs : List AV)

def blk (G : Gh) (S : List AObj) (i : Nat) : Option Nat :=
  match S[i]? with
  | some (.cells _) => G.loc i
  | some (.row _ n) => match G.hist i n with
    | some (.slice (some a) _ c) => if n < c then some a.block else none
    | _ => none
  | some (.mrow _ n _) => match G.hist i n with
    | some (.slice (some a) _ c) => if 0 < c then some a.block else none
    | _ => none
  | _ => none

/-- The cells of a row that may turn lie in its own block. -/
def MCells (G : Gh) (w : World) (k : Nat) (xs : List AV) (A : Option Addr) (c : Nat) : Prop :=
  0 < c → ∃ (b : Nat) (cs : Array Value) (t : TypeId), A = some ⟨b, 0, none⟩ ∧ w.heap[b]? = some (.cells cs t (0, 0)) ∧ cs.size = c * k ∧ (∀ (i : Nat) (x : AV) (v : Value), xs[i]? = some x → cs[i]? = some v → v.oneCell' = true ∧ Rep G x v) ∧ ∀ i, G.imm b i = none

structure Wd (G : Gh) (S : List AObj) (w : World) : Prop where
  imm : ∀ b i v, G.imm b i = some v → w.cell? ⟨b, i, none⟩ = some v
  dom : ∀ (i : Nat), (S[i]? = none ∨ S[i]? = some .dead) → G.loc i = none ∧ ∀ n, G.hist i n = none
  obj : ∀ (i : Nat) (xs : List AV), S[i]? = some (.cells xs) → ∃ (b : Nat) (cs : Array Value) (t : TypeId), G.loc i = some b ∧ w.heap[b]? = some (.cells cs t (0, 0)) ∧ cs.size = xs.length ∧
    (∀ (k : Nat) (x : AV) (v : Value), xs[k]? = some x → cs[k]? = some v → v.oneCell' = true ∧ Rep G x v) ∧ ∀ k, G.imm b k = none
  row : ∀ (j k n : Nat), S[j]? = some (.row k n) → 1 ≤ k ∧ ∃ A c, G.hist j n = some (.slice A n c) ∧ (∀ n' v', G.hist j n' = some v' → n' ≤ n) ∧ n ≤ c ∧
    (n < c → ∃ (b : Nat) (cs : Array Value) (t : TypeId), A = some ⟨b, 0, none⟩ ∧ w.heap[b]? = some (.cells cs t (0, 0)) ∧ cs.size = c * k ∧ ∀ i, n * k ≤ i → G.imm b i = none)
  mrow : ∀ (j k n : Nat) (xs : List AV), S[j]? = some (.mrow k n xs) → 1 ≤ k ∧ xs.length = n * k ∧ ∃ A c, G.hist j n = some (.slice A n c) ∧ (∀ n' v', G.hist j n' = some v' → n' ≤ n) ∧ n ≤ c ∧ c ≤ 9223372036854775807 ∧ MCells G w k xs A c
  sep : ∀ i j b, blk G S i = some b → blk G S j = some b → i = j

/-- The blocks that are no object's and no row's. -/
def Un (G : Gh) (S : List AObj) (b : Nat) : Prop := ∀ i, blk G S i ≠ some b
/-- What a step leaves: the ghost has grown, the world bears the new store, only the store's own blocks have turned, and its blocks are its own or new. -/
structure Left (G : Gh) (S : List AObj) (w : World) (G' : Gh) (S' : List AObj) (w' : World) : Prop where
  le : G.Le G'
  wd : Wd G' S' w'
  kept : Kept (Un G S) w w'
  own : ∀ i b, blk G' S' i = some b → w.heap.size ≤ b ∨ ∃ j, blk G S j = some b
  still : ∀ b k v, G'.imm b k = some v → G.imm b k = some v ∨ w.heap.size ≤ b ∨ ∃ j, blk G S j = some b

theorem Left.refl {G : Gh} {S : List AObj} {w : World} (h : Wd G S w) : Left G S w G S w := ⟨Gh.Le.refl _, h, Kept.refl _ _, fun i _ hb => .inr ⟨i, hb⟩, fun _ _ _ h => .inl h⟩
theorem Left.trans {G G' G'' : Gh} {S S' S'' : List AObj} {w w' w'' : World} (h : Left G S w G' S' w') (k : Left G' S' w' G'' S'' w'') : Left G S w G'' S'' w'' := by
  refine ⟨h.le.trans k.le, k.wd, ⟨k.kept.os.trans h.kept.os, k.kept.tape.trans h.kept.tape, k.kept.output.trans h.kept.output, Nat.le_trans h.kept.size k.kept.size, fun i hi hu => ?_⟩, fun i b hb => ?_, fun b i v hv => ?_⟩
  · rw [k.kept.block i (Nat.lt_of_lt_of_le hi h.kept.size) ?_]
    · exact h.kept.block i hi hu
    · intro j hj
      rcases h.own j i hj with h1 | ⟨j', h1⟩
      · omega
      · exact hu j' h1
  · rcases k.own i b hb with h1 | ⟨j, h1⟩
    · exact .inl (Nat.le_trans h.kept.size h1)
    · exact h.own j b h1
  · rcases k.still b i v hv with h1 | h1 | ⟨j, h1⟩
    · exact h.still b i v h1
    · exact .inr (.inl (Nat.le_trans h.kept.size h1))
    · exact .inr (h.own j b h1)

def Callable (P : Program) (f : FuncId) : Prop := ∃ fn, P.funcs[f]? = some fn ∧ fn.body.isNone = false ∧ (fn.name == "runtime.NumGoroutine") = false
/-- f, called with such arguments in such a store, returns r and leaves the store S'. -/
def Does (P : Program) (f : FuncId) (args : List AV) (S : List AObj) (r : AV) (S' : List AObj) : Prop :=
  Callable P f ∧ ∀ G w (vs : Array Value), Wd G S w → RepL G args vs.toList → Calls P f vs w fun e w' => ∃ v G', e = .returned v ∧ Rep G' r v ∧ Left G S w G' S' w'

end Go.Proofs.Ytnfagphepkeedaa
end
section
namespace Go.Proofs.Ytnfagphepkeedaa

def Tag.ren (ρ : Nat → Nat) : Tag → Tag
  | .row j => .row (ρ j)
  | t => t
def AV.ren (ρ : Nat → Nat) : AV → AV
  | .lit v => .lit v
  | .any => .any
  | .ref i o => .ref (ρ i) o
  | .iptr cs => .iptr (cs.map fun x => x.ren ρ)
  | .sl t k xs => .sl (t.ren ρ) k (xs.map fun x => x.ren ρ)
  | .agg xs => .agg (xs.map fun x => x.ren ρ)
  | .tup xs => .tup (xs.map fun x => x.ren ρ)
  | .fn f a b => .fn f (a.map fun x => x.ren ρ) (b.map fun x => x.ren ρ)
  | .ms j n => .ms (ρ j) n
  | .mref j n o => .mref (ρ j) n o
  | .slc k xs => .slc k (xs.map fun x => x.ren ρ)
def AObj.ren (ρ : Nat → Nat) : AObj → AObj
  | .dead => .dead
  | .cells xs => .cells (xs.map fun x => x.ren ρ)
  | .row k n => .row k n
  | .mrow k n xs => .mrow k n (xs.map fun x => x.ren ρ)

theorem AV.cells_ren (ρ : Nat → Nat) (x : AV) : (x.ren ρ).cells = x.cells.map fun x => x.ren ρ := by
  cases x <;> simp [AV.ren, AV.cells]

theorem map_get {α β : Type} {f : α → β} {l : List α} {j : Nat} {y : β} (h : (l.map f)[j]? = some y) : ∃ x, l[j]? = some x ∧ f x = y := by
  simpa using h

theorem Rep.ren {G G' : Gh} {ρ : Nat → Nat} (hi : ∀ b i v, G.imm b i = some v → G'.imm b i = some v) (hl : ∀ k b, G.loc k = some b → G'.loc (ρ k) = some b)
    (hh : ∀ k n v, G.hist k n = some v → G'.hist (ρ k) n = some v) {x : AV} {v : Value} (r : Rep G x v) : Rep G' (x.ren ρ) v := by
  induction r with
  | lit v => rw [AV.ren]; exact .lit v
  | any v => rw [AV.ren]; exact .any v
  | ref h => rw [AV.ren]; exact .ref (hl _ _ h)
  | iptr vs h1 h2 _ ih =>
    rw [AV.ren]
    refine .iptr vs (fun j hj => hi _ _ _ (h1 j (by simpa using hj))) (fun j hj => h2 j (by simpa using hj)) fun j x hx => ?_
    obtain ⟨y, hy, rfl⟩ := map_get hx
    exact ih j y hy
  | @sl t k xs A c b o vs hc hA hk h1 h2 _ ht ih =>
    rw [AV.ren]
    have hlen : (xs.map fun x => x.ren ρ).length = xs.length := by simp
    have ht' : TagOk G' (t.ren ρ) A xs.length c := by
      cases t with
      | none => trivial
      | full => exact ht
      | row j => exact hh _ _ _ ht
    rw [← hlen] at ht' hc hA ⊢
    refine .sl (b := b) (o := o) vs hc hA (fun i x hx => ?_) (fun i j hii hj => hi _ _ _ (h1 i j (by simpa using hii) hj)) (fun i j hii hj => h2 i j (by simpa using hii) hj) (fun i j x y hx hy => ?_) ht'
    · obtain ⟨z, hz, rfl⟩ := map_get hx
      rw [AV.cells_ren]; simpa using hk i z hz
    · obtain ⟨z, hz, rfl⟩ := map_get hx
      rw [AV.cells_ren] at hy
      obtain ⟨u, hu, rfl⟩ := map_get hy
      exact ih i j z u hz hu
  | agg h0 h2 _ ih =>
    rw [AV.ren]
    refine .agg (by simpa using h0) h2 fun j x v hx hv => ?_
    obtain ⟨y, hy, rfl⟩ := map_get hx
    exact ih j y v hy hv
  | tup h0 _ ih =>
    rw [AV.ren]
    refine .tup (by simpa using h0) fun j x v hx hv => ?_
    obtain ⟨y, hy, rfl⟩ := map_get hx
    exact ih j y v hy hv
  | fn hf hc _ _ ih1 ih2 =>
    rw [AV.ren]
    refine .fn (by simpa using hf) (by simpa using hc) (fun j x v hx hv => ?_) (fun j x v hx hv => ?_)
    · obtain ⟨y, hy, rfl⟩ := map_get hx
      exact ih1 j y v hy hv
    · obtain ⟨y, hy, rfl⟩ := map_get hx
      exact ih2 j y v hy hv
  | ms h h0 => rw [AV.ren]; exact .ms (hh _ _ _ h) h0
  | mref h => rw [AV.ren]; exact .mref (hh _ _ _ h)
  | slc _ ih => rw [AV.ren]; rw [AV.ren] at ih; exact .slc ih

def Gh.pull (G : Gh) (ρ : Nat → Nat) : Gh := ⟨G.imm, fun k => G.loc (ρ k), fun k => G.hist (ρ k)⟩

theorem Rep.pull {G : Gh} {ρ : Nat → Nat} {y : AV} {v : Value} (r : Rep G y v) : ∀ x : AV, x.ren ρ = y → Rep (G.pull ρ) x v := by
  induction r with
  | lit v => intro x hx; cases x <;> simp [AV.ren] at hx; subst hx; exact .lit _
  | any v => intro x hx; cases x <;> simp [AV.ren] at hx; exact .any v
  | ref h => intro x hx; cases x <;> simp [AV.ren] at hx; obtain ⟨rfl, rfl⟩ := hx; exact .ref h
  | iptr vs h1 h2 _ ih =>
    intro x hx
    cases x <;> simp [AV.ren] at hx
    subst hx
    exact .iptr vs (fun j hj => h1 j (by simpa using hj)) (fun j hj => h2 j (by simpa using hj)) fun j z hz => ih j _ (by simp [hz]) z rfl
  | @sl t k xs A c b o vs hc hA hk h1 h2 _ ht ih =>
    intro x hx
    cases x <;> simp [AV.ren] at hx
    rename_i t' k' xs'
    obtain ⟨rfl, rfl, rfl⟩ := hx
    have hlen : (xs'.map fun x => x.ren ρ).length = xs'.length := by simp
    rw [hlen]
    refine .sl (b := b) (o := o) vs (by simpa using hc) (by simpa using hA) (fun i z hz => ?_) (fun i j hii hj => h1 i j (by simpa using hii) hj) (fun i j hii hj => h2 i j (by simpa using hii) hj) (fun i j z u hz hu => ?_) ?_
    · have := hk i (z.ren ρ) (by simp [hz])
      rw [AV.cells_ren] at this; simpa using this
    · exact ih i j (z.ren ρ) (u.ren ρ) (by simp [hz]) (by rw [AV.cells_ren]; simp [hu]) u rfl
    · rw [hlen] at ht
      cases t' with
      | none => trivial
      | full => exact ht
      | row j => exact ht
  | agg h0 h2 _ ih =>
    intro x hx
    cases x <;> simp [AV.ren] at hx
    subst hx
    exact .agg (by simpa using h0) h2 fun j z v hz hv => ih j _ v (by simp [hz]) hv z rfl
  | tup h0 _ ih =>
    intro x hx
    cases x <;> simp [AV.ren] at hx
    subst hx
    exact .tup (by simpa using h0) fun j z v hz hv => ih j _ v (by simp [hz]) hv z rfl
  | fn hf hc _ _ ih1 ih2 =>
    intro x hx
    cases x <;> simp [AV.ren] at hx
    obtain ⟨rfl, rfl, rfl⟩ := hx
    exact .fn (by simpa using hf) (by simpa using hc) (fun j z v hz hv => ih1 j _ v (by simp [hz]) hv z rfl) (fun j z v hz hv => ih2 j _ v (by simp [hz]) hv z rfl)
  | ms h h0 => intro x hx; cases x <;> simp [AV.ren] at hx; obtain ⟨rfl, rfl⟩ := hx; exact .ms h h0
  | mref h => intro x hx; cases x <;> simp [AV.ren] at hx; obtain ⟨rfl, rfl, rfl⟩ := hx; exact .mref h
  | slc _ ih =>
    intro x hx
    cases x <;> simp [AV.ren] at hx
    rename_i k' xs'
    obtain ⟨rfl, rfl⟩ := hx
    exact .slc (ih (.sl .none k' xs') (by rw [AV.ren]; rfl))

theorem RepL.pull {G : Gh} {ρ : Nat → Nat} {xs : List AV} {vs : List Value} (h : RepL G (xs.map fun x => x.ren ρ) vs) : RepL (G.pull ρ) xs vs :=
  ⟨by simpa using h.1, fun j x v hx hv => (h.2 j (x.ren ρ) v (by simp [hx]) hv).pull x rfl⟩

/-- The k-th of some places; behind these places at which nothing lies. -/
def ixs (ids : List Nat) (N k : Nat) : Nat := ids.getD k (N + k)

/-- A part of a store, by its places, told anew. -/
theorem Wd.pull {G : Gh} {T S : List AObj} {w : World} (h : Wd G T w) (ids : List Nat) (hn : ids.Nodup) (_hl : S.length ≤ ids.length)
    (hT : ∀ (k : Nat) (o : AObj), S[k]? = some o → ∃ i, ids[k]? = some i ∧ T[i]? = some (o.ren (ixs ids T.length))) (hD : ∀ (k i : Nat), S.length ≤ k → ids[k]? = some i → T[i]? = some .dead) :
    Wd (G.pull (ixs ids T.length)) S w ∧ ∀ k, blk (G.pull (ixs ids T.length)) S k = none ∨ blk (G.pull (ixs ids T.length)) S k = blk G T (ixs ids T.length k) := by
  generalize hρ : ixs ids T.length = ρ at *
  have hix : ∀ {k i : Nat}, ids[k]? = some i → ρ k = i := fun {k i} e => by rw [← hρ]; simp [ixs, e]
  have hblk : ∀ k, blk (G.pull ρ) S k = none ∨ blk (G.pull ρ) S k = blk G T (ρ k) := by
    intro k
    cases ho : S[k]? with
    | none => left; simp [blk, ho]
    | some o =>
      right
      obtain ⟨i, hi, hTi⟩ := hT k o ho
      rw [hix hi]
      cases o <;> simp [blk, ho, hTi, AObj.ren, Gh.pull, hix hi]
  refine ⟨⟨h.imm, ?_, ?_, ?_, ?_, ?_⟩, hblk⟩
  · intro k hk
    have key : T[ρ k]? = none ∨ T[ρ k]? = some .dead := by
      cases hi : ids[k]? with
      | none =>
        left
        have hge : ids.length ≤ k := by simpa using hi
        rw [← hρ]; simp [ixs, hi]
      | some i =>
        right
        rw [hix hi]
        by_cases hkS : S.length ≤ k
        · exact hD k i hkS hi
        · obtain ⟨o, ho⟩ : ∃ o, S[k]? = some o := ⟨S[k]'(by omega), by simp⟩
          obtain ⟨i', hi', hTi⟩ := hT k o ho
          rw [hi] at hi'
          injection hi' with hi'
          subst hi'
          rcases hk with hk | hk
          · rw [hk] at ho; cases ho
          · rw [hk] at ho; injection ho with ho; subst ho; exact hTi
    exact ⟨(h.dom _ key).1, (h.dom _ key).2⟩
  · intro k xs hk
    obtain ⟨i, hi, hTi⟩ := hT k _ hk
    obtain ⟨b, cs, t, h1, h2, h3, h4, h5⟩ := h.obj i _ hTi
    refine ⟨b, cs, t, ?_, h2, by simpa using h3, fun j x v hx hv => ?_, h5⟩
    · show G.loc (ρ k) = some b
      rw [hix hi]; exact h1
    · obtain ⟨g1, g2⟩ := h4 j (x.ren ρ) v (by simp [hx]) hv
      exact ⟨g1, g2.pull x rfl⟩
  · intro j k n hj
    obtain ⟨i, hi, hTi⟩ := hT j _ hj
    obtain ⟨h0, A, c, h1, h2, h3⟩ := h.row i k n hTi
    exact ⟨h0, A, c, by show G.hist (ρ j) n = _; rw [hix hi]; exact h1, fun n' v' e => h2 n' v' (by rw [← hix hi]; exact e), h3⟩
  · intro j k n xs hj
    obtain ⟨i, hi, hTi⟩ := hT j _ hj
    obtain ⟨h0, hl, A, c, h1, h2, h3, hc6, h4⟩ := h.mrow i k n _ hTi
    refine ⟨h0, by simpa using hl, A, c, by show G.hist (ρ j) n = _; rw [hix hi]; exact h1, fun n' v' e => h2 n' v' (by rw [← hix hi]; exact e), h3, hc6, fun hc => ?_⟩
    obtain ⟨b, cs, t, g1, g2, g3, g4, g5⟩ := h4 hc
    refine ⟨b, cs, t, g1, g2, g3, fun q x v hx hv => ?_, g5⟩
    obtain ⟨p1, p2⟩ := g4 q (x.ren ρ) v (by simp [hx]) hv
    exact ⟨p1, p2.pull x rfl⟩
  · intro i j b hi hj
    have bound : ∀ {k : Nat} {b : Nat}, blk (G.pull ρ) S k = some b → ∃ o, S[k]? = some o := fun {k b} e => by
      cases ho : S[k]? with
      | none => simp [blk, ho] at e
      | some o => exact ⟨o, rfl⟩
    obtain ⟨oi, hoi⟩ := bound hi
    obtain ⟨oj, hoj⟩ := bound hj
    obtain ⟨pi, hpi, _⟩ := hT i oi hoi
    obtain ⟨pj, hpj, _⟩ := hT j oj hoj
    have e1 := (hblk i).resolve_left (by rw [hi]; simp)
    have e2 := (hblk j).resolve_left (by rw [hj]; simp)
    have := h.sep (ρ i) (ρ j) b (by rw [← e1]; exact hi) (by rw [← e2]; exact hj)
    rw [hix hpi, hix hpj] at this
    subst this
    exact (List.getElem?_inj (by
      rcases Nat.lt_or_ge i ids.length with hlt | hge
      · exact hlt
      · rw [List.getElem?_eq_none hge] at hpi; cases hpi) hn).1 (hpi.trans hpj.symm)

def updL (T : List AObj) (u : List (Nat × AObj)) : List AObj := u.foldl (fun T p => T.set p.1 p.2) T
@[simp] theorem updL_nil (T : List AObj) : updL T [] = T := rfl
@[simp] theorem updL_cons (T : List AObj) (p : Nat × AObj) (u : List (Nat × AObj)) : updL T (p :: u) = updL (T.set p.1 p.2) u := rfl
@[simp] theorem updL_length (T : List AObj) (u : List (Nat × AObj)) : (updL T u).length = T.length := by
  induction u generalizing T with
  | nil => rfl
  | cons p u ih => rw [updL_cons, ih]; simp
theorem updL_other (T : List AObj) (u : List (Nat × AObj)) (i : Nat) (h : i ∉ u.map (·.1)) : (updL T u)[i]? = T[i]? := by
  induction u generalizing T with
  | nil => rfl
  | cons p u ih =>
    simp only [List.map_cons, List.mem_cons, not_or] at h
    rw [updL_cons, ih _ h.2, List.getElem?_set_ne (Ne.symm h.1)]
theorem updL_at (T : List AObj) (u : List (Nat × AObj)) (hn : (u.map (·.1)).Nodup) (i : Nat) (o : AObj) (h : (i, o) ∈ u) (hi : i < T.length) : (updL T u)[i]? = some o := by
  induction u generalizing T with
  | nil => cases h
  | cons p u ih =>
    simp only [List.map_cons, List.nodup_cons] at hn
    rw [updL_cons]
    rcases List.mem_cons.1 h with rfl | h
    · rw [updL_other _ _ _ hn.1]; simp [hi]
    · exact ih _ hn.2 h (by simpa using hi)


theorem ixs_get {ids : List Nat} {N k i : Nat} (e : ids[k]? = some i) : ixs ids N k = i := by simp [ixs, e]
theorem nodup_get {ids : List Nat} (hn : ids.Nodup) {k k' i : Nat} (h : ids[k]? = some i) (h' : ids[k']? = some i) : k = k' :=
  (List.getElem?_inj (by
      rcases Nat.lt_or_ge k ids.length with hlt | hge
      · exact hlt
      · rw [List.getElem?_eq_none hge] at h; cases h) hn).1 (h.trans h'.symm)

/-- The ghost of the greater store behind a step of a part of it. -/
def Gh.push (G G' : Gh) (ids : List Nat) : Gh :=
  ⟨G'.imm, fun i => if i ∈ ids then G'.loc (ids.idxOf i) else G.loc i, fun i => if i ∈ ids then G'.hist (ids.idxOf i) else G.hist i⟩
theorem push_at {G G' : Gh} {ids : List Nat} (hn : ids.Nodup) {k i : Nat} (h : ids[k]? = some i) : (G.push G' ids).loc i = G'.loc k ∧ (G.push G' ids).hist i = G'.hist k := by
  have hm : i ∈ ids := List.mem_of_getElem? h
  have hk : ids.idxOf i = k := nodup_get hn (by rw [List.getElem?_eq_getElem (List.idxOf_lt_length_of_mem hm)]; simp) h
  simp [Gh.push, hm, hk]

theorem blk_lt {G : Gh} {T : List AObj} {w : World} (h : Wd G T w) {i b : Nat} (hb : blk G T i = some b) : b < w.heap.size := by
  unfold blk at hb
  split at hb
  · rename_i xs hi
    obtain ⟨b', cs, t, h1, h2, _⟩ := h.obj i xs hi
    rw [h1] at hb; injection hb with hb; subst hb
    exact (Array.getElem?_eq_some_iff.1 h2).1
  · rename_i k n hi
    obtain ⟨_, A, c, h1, h2, h3, h4⟩ := h.row i k n hi
    rw [h1] at hb
    split at hb
    · rename_i a _ c' heq
      split at hb
      · rename_i hlt
        injection heq with heq
        injection heq with e1 e2 e3
        subst e1 e3
        obtain ⟨b', cs, t, h5, h6, _⟩ := h4 hlt
        injection h5 with h5
        injection hb with hb
        rw [← hb, h5]
        exact (Array.getElem?_eq_some_iff.1 h6).1
      · cases hb
    · cases hb
  · rename_i k n xs hi
    obtain ⟨_, _, A, c, h1, h2, h3, _, h4⟩ := h.mrow i k n xs hi
    rw [h1] at hb
    split at hb
    · rename_i a _ c' heq
      split at hb
      · rename_i hlt
        injection heq with heq
        injection heq with e1 e2 e3
        subst e1 e3
        obtain ⟨b', cs, t, h5, h6, _⟩ := h4 hlt
        injection h5 with h5
        injection hb with hb
        rw [← hb, h5]
        exact (Array.getElem?_eq_some_iff.1 h6).1
      · cases hb
    · cases hb
  · cases hb
/-- A step of a part of a store is a step of the whole. -/
theorem Left.push {G : Gh} {T S S' : List AObj} {w w' : World} {G' : Gh} (h : Wd G T w) (ids : List Nat) (hn : ids.Nodup) (hl : ids.length = S'.length) (hSl : S.length ≤ S'.length)
    (hT : ∀ (k : Nat) (o : AObj), S[k]? = some o → ∃ i, ids[k]? = some i ∧ T[i]? = some (o.ren (ixs ids T.length))) (hD : ∀ (k i : Nat), S.length ≤ k → ids[k]? = some i → T[i]? = some .dead)
    (hs : Left (G.pull (ixs ids T.length)) S w G' S' w') :
    Left G T w (G.push G' ids) (updL T (ids.zip (S'.map fun o => o.ren (ixs ids T.length)))) w' ∧ ∀ x v, Rep G' x v → Rep (G.push G' ids) (x.ren (ixs ids T.length)) v := by
  have hpull := Wd.pull h ids hn (by omega) hT hD
  have hTlt : ∀ {k i : Nat}, ids[k]? = some i → i < T.length := fun {k i} e => by
    rcases Nat.lt_or_ge k S.length with hk | hk
    · obtain ⟨i', h1, h2⟩ := hT k _ (List.getElem?_eq_getElem hk)
      rw [e] at h1; injection h1 with h1; subst h1
      exact (List.getElem?_eq_some_iff.1 h2).1
    · exact (List.getElem?_eq_some_iff.1 (hD k i hk e)).1
  generalize hρ : ixs ids T.length = ρ at *
  have hix : ∀ {k i : Nat}, ids[k]? = some i → ρ k = i := fun {k i} e => by rw [← hρ]; exact ixs_get e
  have hge : ∀ {k : Nat}, ids[k]? = none → ρ k = T.length + k := fun {k} e => by rw [← hρ]; simp [ixs, e]
  have hzip : (ids.zip (S'.map fun o => o.ren ρ)).map (·.1) = ids := by rw [List.map_fst_zip]; simp [hl]
  have hat : ∀ (k i : Nat) (o : AObj), ids[k]? = some i → S'[k]? = some o → (updL T (ids.zip (S'.map fun o => o.ren ρ)))[i]? = some (o.ren ρ) := by
    intro k i o hk ho
    refine updL_at _ _ (by rw [hzip]; exact hn) i _ (List.mem_of_getElem? (i := k) ?_) (hTlt hk)
    rw [List.getElem?_zip_eq_some]
    exact ⟨hk, by simp [ho]⟩
  have hout : ∀ i, i ∉ ids → (updL T (ids.zip (S'.map fun o => o.ren ρ)))[i]? = T[i]? := fun i hi => updL_other _ _ _ (by rw [hzip]; exact hi)
  have hin : ∀ i, i ∈ ids → ∃ (k : Nat) (o : AObj), ids[k]? = some i ∧ S'[k]? = some o := by
    intro i hi
    obtain ⟨k, hk, rfl⟩ := List.getElem_of_mem hi
    exact ⟨k, S'[k]'(by omega), by simp, by simp⟩
  have hloc : ∀ k b, G'.loc k = some b → (G.push G' ids).loc (ρ k) = some b := by
    intro k b hb
    cases hk : ids[k]? with
    | none =>
      have : S'[k]? = none := by rw [List.getElem?_eq_none_iff] at hk ⊢; omega
      rw [(hs.wd.dom k (.inl this)).1] at hb; cases hb
    | some i => rw [hix hk, (push_at hn hk).1]; exact hb
  have hhist : ∀ k n v, G'.hist k n = some v → (G.push G' ids).hist (ρ k) n = some v := by
    intro k n v hb
    cases hk : ids[k]? with
    | none =>
      have : S'[k]? = none := by rw [List.getElem?_eq_none_iff] at hk ⊢; omega
      rw [(hs.wd.dom k (.inl this)).2] at hb; cases hb
    | some i => rw [hix hk, (push_at hn hk).2]; exact hb
  have himm : ∀ b i v, G'.imm b i = some v → (G.push G' ids).imm b i = some v := fun _ _ _ e => e
  have hren : ∀ {x : AV} {v : Value}, Rep G' x v → Rep (G.push G' ids) (x.ren ρ) v := fun r => r.ren himm hloc hhist
  have hle : G.Le (G.push G' ids) := by
    refine ⟨fun b i v hv => hs.le.imm b i v hv, fun i b hb => ?_, fun i n v hv => ?_⟩
    · by_cases hi : i ∈ ids
      · obtain ⟨k, o, hk, _⟩ := hin i hi
        rw [(push_at hn hk).1]
        exact hs.le.loc k b (by show G.loc (ρ k) = _; rw [hix hk]; exact hb)
      · simpa [Gh.push, hi] using hb
    · by_cases hi : i ∈ ids
      · obtain ⟨k, o, hk, _⟩ := hin i hi
        rw [(push_at hn hk).2]
        exact hs.le.hist k n v (by show G.hist (ρ k) n = _; rw [hix hk]; exact hv)
      · simpa [Gh.push, hi] using hv
  have hblkin : ∀ {k i : Nat} {b : Nat}, ids[k]? = some i → (blk (G.push G' ids) (updL T (ids.zip (S'.map fun o => o.ren ρ))) i = some b ↔ blk G' S' k = some b) := by
    intro k i b hk
    have hk' : k < S'.length := by
      rw [← hl]
      rcases Nat.lt_or_ge k ids.length with hlt | hge
      · exact hlt
      · rw [List.getElem?_eq_none hge] at hk; cases hk
    have ho := List.getElem?_eq_getElem hk'
    have e := hat k i _ hk ho
    unfold blk
    rw [e, ho]
    cases S'[k] with
    | dead => simp [AObj.ren]
    | cells xs => simp only [AObj.ren, (push_at hn hk).1]
    | row k n => simp only [AObj.ren, (push_at hn hk).2]
    | mrow k n xs => simp only [AObj.ren, (push_at hn hk).2]
  have hblkout : ∀ {i : Nat}, i ∉ ids → blk (G.push G' ids) (updL T (ids.zip (S'.map fun o => o.ren ρ))) i = blk G T i := by
    intro i hi
    unfold blk
    rw [hout i hi]
    cases T[i]? with
    | none => rfl
    | some o => cases o <;> simp [Gh.push, hi]
  have hpin : ∀ {k i : Nat} {b : Nat}, ids[k]? = some i → blk (G.pull ρ) S k = some b → blk G T i = some b := by
    intro k i b hk hb
    rw [← hix hk, ← hb]
    exact ((hpull.2 k).resolve_left (by rw [hb]; simp)).symm
  have hpk : ∀ {k : Nat} {b : Nat}, blk (G.pull ρ) S k = some b → ∃ i, ids[k]? = some i := by
    intro k b hb
    cases ho : S[k]? with
    | none => simp [blk, ho] at hb
    | some o => obtain ⟨i, hi, _⟩ := hT k o ho; exact ⟨i, hi⟩
  -- a block of the whole that is not one of the part's is left
  have hlt : ∀ {i b : Nat}, blk G T i = some b → b < w.heap.size := fun {i b} hb => blk_lt h hb
  have hsep : ∀ {i k b : Nat}, i ∉ ids → blk G T i = some b → blk (G.pull ρ) S k = some b → False := by
    intro i k b hi hb hb'
    obtain ⟨i', hi'⟩ := hpk hb'
    have := h.sep i i' b hb (hpin hi' hb')
    subst this
    exact hi (List.mem_of_getElem? hi')
  have hun : ∀ {i b : Nat}, i ∉ ids → blk G T i = some b → Un (G.pull ρ) S b := fun {i b} hi hb k hk => hsep hi hb hk
  have hstill : ∀ {i b k : Nat}, i ∉ ids → blk G T i = some b → G.imm b k = none → (G.push G' ids).imm b k = none := by
    intro i b k hi hb hk
    cases hc : (G.push G' ids).imm b k with
    | none => rfl
    | some u =>
      exfalso
      rcases hs.still b k u hc with h1 | h1 | ⟨j, h1⟩
      · have : G.imm b k = some u := h1
        rw [hk] at this; cases this
      · have := hlt hb; omega
      · exact hsep hi hb h1
  have hcross : ∀ {k i j b : Nat}, ids[k]? = some i → blk G' S' k = some b → j ∉ ids → blk G T j = some b → False := by
    intro k i j b hk hb hj hb'
    rcases hs.own k b hb with h1 | ⟨q, h1⟩
    · have := hlt hb'; omega
    · exact hsep hj hb' h1
  refine ⟨⟨hle, ⟨hs.wd.imm, ?_, ?_, ?_, ?_, ?_⟩, ?_, ?_, ?_⟩, fun x v r => hren r⟩
  · intro i hi
    by_cases hm : i ∈ ids
    · obtain ⟨k, o, hk, ho⟩ := hin i hm
      rw [hat k i o hk ho] at hi
      have hd : o = .dead := by
        rcases hi with hi | hi
        · cases hi
        · cases o <;> simp [AObj.ren] at hi ⊢
      subst hd
      rw [(push_at hn hk).1, (push_at hn hk).2]
      exact hs.wd.dom k (.inr ho)
    · rw [hout i hm] at hi
      simpa [Gh.push, hm] using h.dom i hi
  · intro i xs hi
    by_cases hm : i ∈ ids
    · obtain ⟨k, o, hk, ho⟩ := hin i hm
      rw [hat k i o hk ho] at hi
      cases o <;> simp [AObj.ren] at hi
      rename_i ys
      subst hi
      obtain ⟨b, cs, t, h1, h2, h3, h4, h5⟩ := hs.wd.obj k ys ho
      refine ⟨b, cs, t, by rw [(push_at hn hk).1]; exact h1, h2, by simpa using h3, fun j x v hx hv => ?_, h5⟩
      obtain ⟨y, hy, rfl⟩ := map_get hx
      exact ⟨(h4 j y v hy hv).1, hren (h4 j y v hy hv).2⟩
    · rw [hout i hm] at hi
      obtain ⟨b, cs, t, h1, h2, h3, h4, h5⟩ := h.obj i xs hi
      have hb : blk G T i = some b := by simp [blk, hi, h1]
      have e := hs.kept.block b (hlt hb) (hun hm hb)
      exact ⟨b, cs, t, by simpa [Gh.push, hm] using h1, by rw [e]; exact h2, h3, fun j x v hx hv => ⟨(h4 j x v hx hv).1, (h4 j x v hx hv).2.mono hle⟩, fun k => hstill hm hb (h5 k)⟩
  · intro i k n hi
    by_cases hm : i ∈ ids
    · obtain ⟨q, o, hq, ho⟩ := hin i hm
      rw [hat q i o hq ho] at hi
      cases o <;> simp [AObj.ren] at hi
      obtain ⟨rfl, rfl⟩ := hi
      obtain ⟨h0, A, c, h1, h2, h3, h4⟩ := hs.wd.row q _ _ ho
      exact ⟨h0, A, c, by rw [(push_at hn hq).2]; exact h1, fun n' v' e => h2 n' v' (by rw [← (push_at hn hq).2]; exact e), h3, h4⟩
    · rw [hout i hm] at hi
      obtain ⟨h0, A, c, h1, h2, h3, h4⟩ := h.row i k n hi
      refine ⟨h0, A, c, by simpa [Gh.push, hm] using h1, fun n' v' e => h2 n' v' (by simpa [Gh.push, hm] using e), h3, fun hlt' => ?_⟩
      obtain ⟨b, cs, t, g1, g2, g3, g4⟩ := h4 hlt'
      have hb : blk G T i = some b := by simp [blk, hi, h1, hlt', g1]
      have e := hs.kept.block b (hlt hb) (hun hm hb)
      exact ⟨b, cs, t, g1, by rw [e]; exact g2, g3, fun q hq1 => hstill hm hb (g4 q hq1)⟩
  · intro i k n xs hi
    by_cases hm : i ∈ ids
    · obtain ⟨q, o, hq, ho⟩ := hin i hm
      rw [hat q i o hq ho] at hi
      cases o <;> simp [AObj.ren] at hi
      rename_i ys
      obtain ⟨rfl, rfl, rfl⟩ := hi
      obtain ⟨h0, hl, A, c, h1, h2, h3, hc6, h4⟩ := hs.wd.mrow q _ _ _ ho
      refine ⟨h0, by simpa using hl, A, c, by rw [(push_at hn hq).2]; exact h1, fun n' v' e => h2 n' v' (by rw [← (push_at hn hq).2]; exact e), h3, hc6, fun hc => ?_⟩
      obtain ⟨b, cs, t, g1, g2, g3, g4, g5⟩ := h4 hc
      refine ⟨b, cs, t, g1, g2, g3, fun p x v hx hv => ?_, g5⟩
      obtain ⟨y, hy, rfl⟩ := map_get hx
      exact ⟨(g4 p y v hy hv).1, hren (g4 p y v hy hv).2⟩
    · rw [hout i hm] at hi
      obtain ⟨h0, hl, A, c, h1, h2, h3, hc6, h4⟩ := h.mrow i k n xs hi
      refine ⟨h0, hl, A, c, by simpa [Gh.push, hm] using h1, fun n' v' e => h2 n' v' (by simpa [Gh.push, hm] using e), h3, hc6, fun hlt' => ?_⟩
      obtain ⟨b, cs, t, g1, g2, g3, g4, g5⟩ := h4 hlt'
      have hb : blk G T i = some b := by simp [blk, hi, h1, hlt', g1]
      have e := hs.kept.block b (hlt hb) (hun hm hb)
      exact ⟨b, cs, t, g1, by rw [e]; exact g2, g3, fun p x v hx hv => ⟨(g4 p x v hx hv).1, (g4 p x v hx hv).2.mono hle⟩, fun q => hstill hm hb (g5 q)⟩
  · intro i j b hi hj
    by_cases hm : i ∈ ids <;> by_cases hm' : j ∈ ids
    · obtain ⟨k, o, hk, ho⟩ := hin i hm
      obtain ⟨k', o', hk', ho'⟩ := hin j hm'
      have := hs.wd.sep k k' b ((hblkin hk).1 hi) ((hblkin hk').1 hj)
      subst this
      rw [hk] at hk'; injection hk'
    · obtain ⟨k, o, hk, ho⟩ := hin i hm
      exact (hcross hk ((hblkin hk).1 hi) hm' (by rw [← hblkout hm']; exact hj)).elim
    · obtain ⟨k, o, hk, ho⟩ := hin j hm'
      exact (hcross hk ((hblkin hk).1 hj) hm (by rw [← hblkout hm]; exact hi)).elim
    · exact h.sep i j b (by rw [← hblkout hm]; exact hi) (by rw [← hblkout hm']; exact hj)
  · exact hs.kept.mono fun b _ hu k hk => by
      obtain ⟨i, hi⟩ := hpk hk
      exact hu i (hpin hi hk)
  · intro i b hi
    by_cases hm : i ∈ ids
    · obtain ⟨k, o, hk, ho⟩ := hin i hm
      rcases hs.own k b ((hblkin hk).1 hi) with h1 | ⟨j, h1⟩
      · exact .inl h1
      · obtain ⟨i', hi'⟩ := hpk h1
        exact .inr ⟨i', hpin hi' h1⟩
    · exact .inr ⟨i, by rw [← hblkout hm]; exact hi⟩
  · intro b k v hv
    rcases hs.still b k v hv with h1 | h1 | ⟨j, h1⟩
    · exact .inl h1
    · exact .inr (.inl h1)
    · obtain ⟨i', hi'⟩ := hpk h1
      exact .inr (.inr ⟨i', hpin hi' h1⟩)

theorem Does.embed {P : Program} {f : FuncId} {args : List AV} {S : List AObj} {r : AV} {S' : List AObj} (hd : Does P f args S r S') (T : List AObj) (ids : List Nat) (hn : ids.Nodup) (hl : ids.length = S'.length) (hSl : S.length ≤ S'.length)
    (hT : ∀ (k : Nat) (o : AObj), S[k]? = some o → ∃ i, ids[k]? = some i ∧ T[i]? = some (o.ren (ixs ids T.length))) (hD : ∀ (k i : Nat), S.length ≤ k → ids[k]? = some i → T[i]? = some .dead) :
    Does P f (args.map fun x => x.ren (ixs ids T.length)) T (r.ren (ixs ids T.length)) (updL T (ids.zip (S'.map fun o => o.ren (ixs ids T.length)))) := by
  refine ⟨hd.1, ?_⟩
  intro G w vs hw hr
  refine (hd.2 (G.pull (ixs ids T.length)) w vs (Wd.pull hw ids hn (by omega) hT hD).1 hr.pull).mono ?_
  rintro e w' ⟨v, G', rfl, hv, hs⟩
  have := Left.push hw ids hn hl hSl hT hD hs
  exact ⟨v, _, rfl, this.2 r v hv, this.1⟩

end Go.Proofs.Ytnfagphepkeedaa
end
section
namespace Go.Proofs.Ytnfagphepkeedaa

theorem imm_lt {G : Gh} {T : List AObj} {w : World} (h : Wd G T w) {b i : Nat} {v : Value} (hv : G.imm b i = some v) : b < w.heap.size :=
  World.block_lt_of_cell? w _ (h.imm b i v hv)

/-- A world that has one block more, all else of the memory as it was. -/
structure More (w w' : World) (o : Obj) : Prop where
  os : w'.os = w.os
  tape : w'.tape = w.tape
  output : w'.output = w.output
  heap : w'.heap = w.heap.push o
theorem More.alloc (w : World) (o : Obj) : More w (w.alloc o) o := ⟨rfl, rfl, rfl, rfl⟩
theorem More.drew (w : World) (o : Obj) : More w (w.drew.alloc o) o := ⟨rfl, rfl, rfl, rfl⟩
theorem More.old {w w' : World} {o : Obj} (h : More w w' o) {i : Nat} (hi : i < w.heap.size) : w'.heap[i]? = w.heap[i]? := by
  rw [h.heap, Array.getElem?_push_lt hi]; simp [hi]
theorem More.new {w w' : World} {o : Obj} (h : More w w' o) : w'.heap[w.heap.size]? = some o := by
  rw [h.heap]; simp
theorem More.size {w w' : World} {o : Obj} (h : More w w' o) : w'.heap.size = w.heap.size + 1 := by rw [h.heap]; simp
theorem More.kept {w w' : World} {o : Obj} (h : More w w' o) (K : Nat → Prop) : Kept K w w' := ⟨h.os, h.tape, h.output, by rw [h.size]; omega, fun _ hi _ => h.old hi⟩
theorem More.cell {w w' : World} {o : Obj} (h : More w w' o) {a : Addr} {v : Value} (hc : w.cell? a = some v) : w'.cell? a = some v :=
  (World.cell?_of_block (w := w) (h.old (World.block_lt_of_cell? w _ hc))).trans hc

def Gh.newLoc (G : Gh) (id b : Nat) : Gh := ⟨G.imm, fun i => if i = id then some b else G.loc i, G.hist⟩
def Gh.newImm (G : Gh) (b : Nat) (vs : List Value) : Gh := ⟨fun b' i => if b' = b then vs[i]? else G.imm b' i, G.loc, G.hist⟩
def Gh.newHist (G : Gh) (id n : Nat) (v : Value) : Gh := ⟨G.imm, G.loc, fun j m => if j = id ∧ m = n then some v else G.hist j m⟩

/-- What a store bears stays where the memory has one block more (and nothing of the ghost has turned). -/
theorem Wd.more {G : Gh} {T : List AObj} {w w' : World} {o : Obj} (h : Wd G T w) (hm : More w w' o) : Wd G T w' := by
  refine ⟨fun b i v hv => hm.cell (h.imm b i v hv), h.dom, fun i xs hi => ?_, fun j k n hj => ?_, fun j k n xs hj => ?_, h.sep⟩
  · obtain ⟨b, cs, t, h1, h2, h3, h4, h5⟩ := h.obj i xs hi
    exact ⟨b, cs, t, h1, by rw [hm.old (Array.getElem?_eq_some_iff.1 h2).1]; exact h2, h3, h4, h5⟩
  · obtain ⟨h0, A, c, h1, h2, h3, h4⟩ := h.row j k n hj
    refine ⟨h0, A, c, h1, h2, h3, fun hlt => ?_⟩
    obtain ⟨b, cs, t, g1, g2, g3, g4⟩ := h4 hlt
    exact ⟨b, cs, t, g1, by rw [hm.old (Array.getElem?_eq_some_iff.1 g2).1]; exact g2, g3, g4⟩
  · obtain ⟨h0, hl, A, c, h1, h2, h3, hc6, h4⟩ := h.mrow j k n xs hj
    refine ⟨h0, hl, A, c, h1, h2, h3, hc6, fun hlt => ?_⟩
    obtain ⟨b, cs, t, g1, g2, g3, g4⟩ := h4 hlt
    exact ⟨b, cs, t, g1, by rw [hm.old (Array.getElem?_eq_some_iff.1 g2).1]; exact g2, g3, g4⟩
theorem Left.more {G : Gh} {T : List AObj} {w w' : World} {o : Obj} (h : Wd G T w) (hm : More w w' o) : Left G T w G T w' :=
  ⟨Gh.Le.refl _, h.more hm, hm.kept _, fun i _ hb => .inr ⟨i, hb⟩, fun _ _ _ h => .inl h⟩
theorem Wd.drawn {G : Gh} {T : List AObj} {w w' : World} (h : Wd G T w) (hh : w'.heap = w.heap) : Wd G T w' := by
  refine ⟨fun b i v hv => (World.cell?_of_block (w := w) (by rw [hh])).trans (h.imm b i v hv), h.dom, fun i xs hi => ?_, fun j k n hj => ?_, fun j k n xs hj => ?_, h.sep⟩
  · rw [hh]; exact h.obj i xs hi
  · rw [hh]; exact h.row j k n hj
  · obtain ⟨h0, hl, A, c, h1, h2, h3, hc6, h4⟩ := h.mrow j k n xs hj
    exact ⟨h0, hl, A, c, h1, h2, h3, hc6, fun hlt => by rw [hh]; exact h4 hlt⟩

/-- More is claimed of blocks that were not there before, and that are no object's. -/
theorem Wd.claim {G : Gh} {T : List AObj} {w : World} (h : Wd G T w) (b : Nat) (vs : List Value) (hc : ∀ (i : Nat) (v : Value), vs[i]? = some v → w.cell? ⟨b, i, none⟩ = some v)
    (hn : ∀ i, G.imm b i = none) (hb : ∀ i, blk G T i ≠ some b) : Wd (G.newImm b vs) T w ∧ G.Le (G.newImm b vs) := by
  have hle : G.Le (G.newImm b vs) := by
    refine ⟨fun b' i v hv => ?_, fun _ _ h => h, fun _ _ _ h => h⟩
    by_cases e : b' = b
    · subst e; rw [hn i] at hv; cases hv
    · simpa [Gh.newImm, e] using hv
  have hblk : ∀ i, blk (G.newImm b vs) T i = blk G T i := fun i => rfl
  refine ⟨⟨fun b' i v hv => ?_, h.dom, fun i xs hi => ?_, fun j k n hj => ?_, fun j k n xs hj => ?_, fun i j b' hi hj => h.sep i j b' hi hj⟩, hle⟩
  · by_cases e : b' = b
    · subst e; simp [Gh.newImm] at hv; exact hc i v hv
    · simp [Gh.newImm, e] at hv; exact h.imm b' i v hv
  · obtain ⟨b', cs, t, h1, h2, h3, h4, h5⟩ := h.obj i xs hi
    refine ⟨b', cs, t, h1, h2, h3, fun k x v hx hv => ⟨(h4 k x v hx hv).1, (h4 k x v hx hv).2.mono hle⟩, fun k => ?_⟩
    have : b' ≠ b := by rintro rfl; exact hb i (by simp [blk, hi, h1])
    simpa [Gh.newImm, this] using h5 k
  · obtain ⟨h0, A, c, h1, h2, h3, h4⟩ := h.row j k n hj
    refine ⟨h0, A, c, h1, h2, h3, fun hlt => ?_⟩
    obtain ⟨b', cs, t, g1, g2, g3, g4⟩ := h4 hlt
    refine ⟨b', cs, t, g1, g2, g3, fun i hi => ?_⟩
    have : b' ≠ b := by rintro rfl; exact hb j (by simp [blk, hj, h1, hlt, g1])
    simpa [Gh.newImm, this] using g4 i hi
  · obtain ⟨h0, hl, A, c, h1, h2, h3, hc6, h4⟩ := h.mrow j k n xs hj
    refine ⟨h0, hl, A, c, h1, h2, h3, hc6, fun hlt => ?_⟩
    obtain ⟨b', cs, t, g1, g2, g3, g4, g5⟩ := h4 hlt
    refine ⟨b', cs, t, g1, g2, g3, fun q x v hx hv => ⟨(g4 q x v hx hv).1, (g4 q x v hx hv).2.mono hle⟩, fun i => ?_⟩
    have : b' ≠ b := by rintro rfl; exact hb j (by simp [blk, hj, h1, hlt, g1])
    simpa [Gh.newImm, this] using g5 i

theorem MCells.mono {G G' : Gh} {w : World} {k : Nat} {xs : List AV} {A : Option Addr} {c : Nat} (h : MCells G w k xs A c) (hle : G.Le G') (hi : G'.imm = G.imm) : MCells G' w k xs A c := fun hc => by
  obtain ⟨b, cs, t, g1, g2, g3, g4, g5⟩ := h hc
  exact ⟨b, cs, t, g1, g2, g3, fun q x v hx hv => ⟨(g4 q x v hx hv).1, (g4 q x v hx hv).2.mono hle⟩, fun i => by rw [hi]; exact g5 i⟩
/-- A new object at a place that was kept free. -/
theorem Left.new {G : Gh} {T : List AObj} {w w' : World} {id : Nat} {xs : List AV} {vs : List Value} {t : TypeId} (h : Wd G T w) (hid : T[id]? = some .dead) (hr : RepL G xs vs) (ho : ∀ v ∈ vs, v.oneCell' = true)
    (hm : More w w' (.cells vs.toArray t)) : Left G T w (G.newLoc id w.heap.size) (T.set id (.cells xs)) w' := by
  have hlt : id < T.length := (List.getElem?_eq_some_iff.1 hid).1
  have hd := h.dom id (.inr hid)
  have hw := h.more hm
  have hle : G.Le (G.newLoc id w.heap.size) := by
    refine ⟨fun _ _ _ h => h, fun i b hb => ?_, fun _ _ _ h => h⟩
    by_cases e : i = id
    · subst e; rw [hd.1] at hb; cases hb
    · simpa [Gh.newLoc, e] using hb
  have hold : ∀ {i : Nat}, i ≠ id → (T.set id (.cells xs))[i]? = T[i]? := fun {i} e => by rw [List.getElem?_set_ne (Ne.symm e)]
  have hnew : (T.set id (.cells xs))[id]? = some (.cells xs) := by simp [hlt]
  have hbnew : blk (G.newLoc id w.heap.size) (T.set id (.cells xs)) id = some w.heap.size := by simp [blk, hnew, Gh.newLoc]
  have hbold : ∀ {i : Nat}, i ≠ id → blk (G.newLoc id w.heap.size) (T.set id (.cells xs)) i = blk G T i := by
    intro i e
    unfold blk
    rw [hold e]
    simp [Gh.newLoc, e]
  refine ⟨hle, ⟨hw.imm, fun i hi => ?_, fun i ys hi => ?_, fun j k n hj => ?_, fun j k n ys hj => ?_, fun i j b hi hj => ?_⟩, hm.kept _, fun i b hb => ?_, fun _ _ _ h => .inl h⟩
  · by_cases e : i = id
    · subst e; rw [hnew] at hi; simp at hi
    · rw [hold e] at hi; simpa [Gh.newLoc, e] using h.dom i hi
  · by_cases e : i = id
    · subst e
      rw [hnew] at hi; injection hi with hi; injection hi with hi; subst hi
      refine ⟨w.heap.size, vs.toArray, t, by simp [Gh.newLoc], hm.new, by simpa using hr.1.symm, fun k x v hx hv => ⟨ho v ?_, (hr.2 k x v hx (by simpa using hv)).mono hle⟩, fun k => ?_⟩
      · exact List.mem_of_getElem? (by simpa using hv)
      · cases hc : G.imm w.heap.size k with
        | none => exact hc
        | some u => have := imm_lt h hc; omega
    · rw [hold e] at hi
      obtain ⟨b, cs, t, h1, h2, h3, h4, h5⟩ := hw.obj i ys hi
      exact ⟨b, cs, t, by simpa [Gh.newLoc, e] using h1, h2, h3, fun k x v hx hv => ⟨(h4 k x v hx hv).1, (h4 k x v hx hv).2.mono hle⟩, h5⟩
  · have e : j ≠ id := by rintro rfl; rw [hnew] at hj; cases hj
    rw [hold e] at hj
    exact hw.row j k n hj
  · have e : j ≠ id := by rintro rfl; rw [hnew] at hj; cases hj
    rw [hold e] at hj
    obtain ⟨h0, hl, A, c, h1, h2, h3, hc6, h4⟩ := hw.mrow j k n ys hj
    exact ⟨h0, hl, A, c, h1, h2, h3, hc6, h4.mono hle rfl⟩
  · by_cases e : i = id <;> by_cases e' : j = id
    · rw [e, e']
    · rw [e, hbnew] at hi; injection hi with hi
      rw [hbold e'] at hj
      have := blk_lt h hj; omega
    · rw [e', hbnew] at hj; injection hj with hj
      rw [hbold e] at hi
      have := blk_lt h hi; omega
    · rw [hbold e] at hi; rw [hbold e'] at hj; exact h.sep i j b hi hj
  · by_cases e : i = id
    · rw [e, hbnew] at hb; injection hb with hb; left; omega
    · rw [hbold e] at hb; exact .inr ⟨i, hb⟩


/-- A world one of whose blocks has turned. -/
structure Turn (w w' : World) (b : Nat) (o : Obj) : Prop where
  os : w'.os = w.os
  tape : w'.tape = w.tape
  output : w'.output = w.output
  size : w'.heap.size = w.heap.size
  other : ∀ i, i ≠ b → w'.heap[i]? = w.heap[i]?
  here : w'.heap[b]? = some o
theorem Turn.cell {w w' : World} {b : Nat} {o : Obj} (h : Turn w w' b o) {a : Addr} {v : Value} (ha : a.block ≠ b) (hc : w.cell? a = some v) : w'.cell? a = some v :=
  (World.cell?_of_block (w := w) (h.other _ ha)).trans hc
theorem Turn.kept {w w' : World} {b : Nat} {o : Obj} (h : Turn w w' b o) {K : Nat → Prop} (hK : ¬ K b) : Kept K w w' :=
  ⟨h.os, h.tape, h.output, by rw [h.size]; omega, fun i _ hk => h.other i (by rintro rfl; exact hK hk)⟩
theorem cell_at {w : World} {b : Nat} {cs : Array Value} {t : TypeId} {fz : Nat × Nat} (h : w.heap[b]? = some (.cells cs t fz)) (i : Nat) : w.cell? ⟨b, i, none⟩ = cs[i]? := cell_of_row w b i cs t fz h

theorem Left.turn {G : Gh} {T : List AObj} {w w' : World} {i b : Nat} {xs xs' : List AV} {cs : Array Value} {t : TypeId} (h : Wd G T w) (hi : T[i]? = some (.cells xs)) (hb : G.loc i = some b)
    (hm : Turn w w' b (.cells cs t (0, 0))) (hs : cs.size = xs'.length) (hc : ∀ (k : Nat) (x : AV) (v : Value), xs'[k]? = some x → cs[k]? = some v → v.oneCell' = true ∧ Rep G x v) :
    Left G T w G (T.set i (.cells xs')) w' := by
  have hlt : i < T.length := (List.getElem?_eq_some_iff.1 hi).1
  have hold : ∀ {j : Nat}, j ≠ i → (T.set i (.cells xs'))[j]? = T[j]? := fun {j} e => by rw [List.getElem?_set_ne (Ne.symm e)]
  have hnew : (T.set i (.cells xs'))[i]? = some (.cells xs') := by simp [hlt]
  have hbi : blk G T i = some b := by simp [blk, hi, hb]
  have hblk : ∀ j, blk G (T.set i (.cells xs')) j = blk G T j := by
    intro j
    by_cases e : j = i
    · subst e; simp [blk, hnew, hi]
    · simp [blk, hold e]
  have hfar : ∀ {j b' : Nat}, j ≠ i → blk G T j = some b' → b' ≠ b := fun {j b'} e hj he => e (h.sep j i b (he ▸ hj) hbi)
  have himm : ∀ k, G.imm b k = none := by
    obtain ⟨b', _, _, h1, _, _, _, h5⟩ := h.obj i xs hi
    rw [hb] at h1; injection h1 with h1; subst h1; exact h5
  refine ⟨Gh.Le.refl _, ⟨fun b' k v hv => ?_, fun j hj => ?_, fun j ys hj => ?_, fun j k n hj => ?_, fun j k n ys hj => ?_, fun j j' b' hj hj' => ?_⟩, hm.kept fun hu => hu i hbi, fun j b' hj => ?_, fun _ _ _ h => .inl h⟩
  · refine hm.cell (fun e => ?_) (h.imm b' k v hv)
    have e' : b' = b := e
    subst e'; rw [himm k] at hv; cases hv
  · by_cases e : j = i
    · subst e; rw [hnew] at hj; simp at hj
    · rw [hold e] at hj; exact h.dom j hj
  · by_cases e : j = i
    · subst e
      rw [hnew] at hj; injection hj with hj; injection hj with hj; subst hj
      exact ⟨b, cs, t, hb, hm.here, hs, hc, himm⟩
    · rw [hold e] at hj
      obtain ⟨b', cs', t', h1, h2, h3⟩ := h.obj j ys hj
      exact ⟨b', cs', t', h1, by rw [hm.other b' (hfar e (by simp [blk, hj, h1]))]; exact h2, h3⟩
  · have e : j ≠ i := by rintro rfl; rw [hnew] at hj; cases hj
    rw [hold e] at hj
    obtain ⟨h0, A, c, h1, h2, h3, h4⟩ := h.row j k n hj
    refine ⟨h0, A, c, h1, h2, h3, fun hlt => ?_⟩
    obtain ⟨b', cs', t', g1, g2, g3⟩ := h4 hlt
    exact ⟨b', cs', t', g1, by rw [hm.other b' (hfar e (by simp [blk, hj, h1, hlt, g1]))]; exact g2, g3⟩
  · have e : j ≠ i := by rintro rfl; rw [hnew] at hj; cases hj
    rw [hold e] at hj
    obtain ⟨h0, hl, A, c, h1, h2, h3, hc6, h4⟩ := h.mrow j k n ys hj
    refine ⟨h0, hl, A, c, h1, h2, h3, hc6, fun hlt => ?_⟩
    obtain ⟨b', cs', t', g1, g2, g3⟩ := h4 hlt
    exact ⟨b', cs', t', g1, by rw [hm.other b' (hfar e (by simp [blk, hj, h1, hlt, g1]))]; exact g2, g3⟩
  · rw [hblk] at hj hj'; exact h.sep j j' b' hj hj'
  · rw [hblk] at hj; exact .inr ⟨j, hj⟩

/-- A new row at a place (kept free, or a shorter row's) whose slice is all of its capacity. -/
theorem Left.rowFull {G : Gh} {T : List AObj} {w : World} {id k n : Nat} {A : Option Addr} (h : Wd G T w) (hid : T[id]? = some .dead) (hk : 1 ≤ k) :
    Left G T w (G.newHist id n (.slice A n n)) (T.set id (.row k n)) w ∧ (G.newHist id n (.slice A n n)).hist id n = some (.slice A n n) := by
  have hlt : id < T.length := (List.getElem?_eq_some_iff.1 hid).1
  have hd := h.dom id (.inr hid)
  have hle : G.Le (G.newHist id n (.slice A n n)) := by
    refine ⟨fun _ _ _ h => h, fun _ _ h => h, fun j m v hv => ?_⟩
    by_cases e : j = id
    · subst e; rw [hd.2] at hv; cases hv
    · simpa [Gh.newHist, e] using hv
  have hold : ∀ {i : Nat}, i ≠ id → (T.set id (.row k n))[i]? = T[i]? := fun {i} e => by rw [List.getElem?_set_ne (Ne.symm e)]
  have hnew : (T.set id (.row k n))[id]? = some (.row k n) := by simp [hlt]
  have hhist : (G.newHist id n (.slice A n n)).hist id n = some (.slice A n n) := by simp [Gh.newHist]
  have hbnew : blk (G.newHist id n (.slice A n n)) (T.set id (.row k n)) id = none := by
    simp only [blk, hnew, hhist]; cases A <;> simp
  have hbold : ∀ {i : Nat}, i ≠ id → blk (G.newHist id n (.slice A n n)) (T.set id (.row k n)) i = blk G T i := by
    intro i e
    unfold blk
    rw [hold e]
    simp [Gh.newHist, e]
  refine ⟨⟨hle, ⟨h.imm, fun i hi => ?_, fun i ys hi => ?_, fun j k' n' hj => ?_, fun j k' n' ys hj => ?_, fun i j b hi hj => ?_⟩, Kept.refl _ _, fun i b hb => ?_, fun _ _ _ h => .inl h⟩, hhist⟩
  · by_cases e : i = id
    · subst e; rw [hnew] at hi; simp at hi
    · rw [hold e] at hi; simpa [Gh.newHist, e] using h.dom i hi
  · have e : i ≠ id := by rintro rfl; rw [hnew] at hi; cases hi
    rw [hold e] at hi
    obtain ⟨b, cs, t, h1, h2, h3, h4, h5⟩ := h.obj i ys hi
    exact ⟨b, cs, t, h1, h2, h3, fun k x v hx hv => ⟨(h4 k x v hx hv).1, (h4 k x v hx hv).2.mono hle⟩, h5⟩
  · by_cases e : j = id
    · subst e
      rw [hnew] at hj; injection hj with hj; injection hj with e1 e2; subst e1 e2
      refine ⟨hk, A, n, hhist, fun n' v' hv => ?_, Nat.le_refl _, fun hlt => by omega⟩
      by_cases e : n' = n
      · omega
      · simp [Gh.newHist, e] at hv; rw [hd.2] at hv; cases hv
    · rw [hold e] at hj
      obtain ⟨h0, A', c, h1, h2, h3⟩ := h.row j k' n' hj
      exact ⟨h0, A', c, by simpa [Gh.newHist, e] using h1, fun n' v' hv => h2 n' v' (by simpa [Gh.newHist, e] using hv), h3⟩
  · have e : j ≠ id := by rintro rfl; rw [hnew] at hj; cases hj
    rw [hold e] at hj
    obtain ⟨h0, hl, A', c, h1, h2, h3, hc6, h4⟩ := h.mrow j k' n' ys hj
    exact ⟨h0, hl, A', c, by simpa [Gh.newHist, e] using h1, fun n' v' hv => h2 n' v' (by simpa [Gh.newHist, e] using hv), h3, hc6, h4.mono hle rfl⟩
  · have e : i ≠ id := by rintro rfl; rw [hbnew] at hi; cases hi
    have e' : j ≠ id := by rintro rfl; rw [hbnew] at hj; cases hj
    rw [hbold e] at hi; rw [hbold e'] at hj; exact h.sep i j b hi hj
  · have e : i ≠ id := by rintro rfl; rw [hbnew] at hb; cases hb
    rw [hbold e] at hb; exact .inr ⟨i, hb⟩

/-- A row that lies in a new block: at a place kept free, or at a shorter row's. -/
theorem Left.rowNew {G : Gh} {T : List AObj} {w w' : World} {id k n c : Nat} {vs : List Value} {cs : Array Value} {t : TypeId} (h : Wd G T w) (hid : T[id]? = some .dead ∨ ∃ m, m < n ∧ T[id]? = some (.row k m)) (hk : 1 ≤ k)
    (hm : More w w' (.cells cs t (0, 0))) (hn : n ≤ c) (hcs : cs.size = c * k) (hvs : vs.length = n * k) (hc : ∀ (i : Nat) (v : Value), vs[i]? = some v → cs[i]? = some v) :
    Left G T w ((G.newImm w.heap.size vs).newHist id n (.slice (some ⟨w.heap.size, 0, none⟩) n c)) (T.set id (.row k n)) w' := by
  have hlt : id < T.length := by rcases hid with h | ⟨m, _, h⟩ <;> exact (List.getElem?_eq_some_iff.1 h).1
  have hw := h.more hm
  have hnone : ∀ i, G.imm w.heap.size i = none := fun i => by
    cases hc : G.imm w.heap.size i with
    | none => rfl
    | some u => have := imm_lt h hc; omega
  have hbn : ∀ i, blk G T i ≠ some w.heap.size := fun i hi => by have := blk_lt h hi; omega
  obtain ⟨hw1, hle1⟩ := hw.claim w.heap.size vs (fun i v hv => by rw [cell_at hm.new]; exact hc i v hv) hnone hbn
  have hhn : G.hist id n = none := by
    rcases hid with h0 | ⟨m, hmn, h0⟩
    · exact (h.dom id (.inr h0)).2 n
    · obtain ⟨_, A, c', _, h2, _⟩ := h.row id k m h0
      cases hv : G.hist id n with
      | none => rfl
      | some u => have := h2 n u hv; omega
  generalize hG1 : G.newImm w.heap.size vs = G1 at *
  have hG1h : G1.hist = G.hist := by rw [← hG1]; rfl
  have hG1l : G1.loc = G.loc := by rw [← hG1]; rfl
  generalize hG2 : G1.newHist id n (.slice (some ⟨w.heap.size, 0, none⟩) n c) = G2
  have hh2 : ∀ j m, j ≠ id → G2.hist j m = G.hist j m := fun j m e => by rw [← hG2, ← hG1h]; simp [Gh.newHist, e]
  have hhid : ∀ m, m ≠ n → G2.hist id m = G.hist id m := fun m e => by rw [← hG2, ← hG1h]; simp [Gh.newHist, e]
  have hl2 : G2.loc = G.loc := by rw [← hG2, ← hG1l]; rfl
  have hi2 : G2.imm = G1.imm := by rw [← hG2]; rfl
  have hle2 : G1.Le G2 := by
    refine ⟨fun _ _ _ h => by rw [hi2]; exact h, fun _ _ h => by rw [hl2, ← hG1l]; exact h, fun j m v hv => ?_⟩
    rw [hG1h] at hv
    by_cases e : j = id
    · subst e
      by_cases e' : m = n
      · subst e'; rw [hhn] at hv; cases hv
      · rw [hhid m e']; exact hv
    · rw [hh2 j m e]; exact hv
  have hhist : G2.hist id n = some (.slice (some ⟨w.heap.size, 0, none⟩) n c) := by rw [← hG2]; simp [Gh.newHist]
  have hold : ∀ {i : Nat}, i ≠ id → (T.set id (.row k n))[i]? = T[i]? := fun {i} e => by rw [List.getElem?_set_ne (Ne.symm e)]
  have hnew : (T.set id (.row k n))[id]? = some (.row k n) := by simp [hlt]
  have hbnew : ∀ {b : Nat}, blk G2 (T.set id (.row k n)) id = some b → b = w.heap.size := by
    intro b hb
    simp only [blk, hnew, hhist] at hb
    split at hb
    · injection hb with hb; exact hb.symm
    · cases hb
  have hbold : ∀ {i : Nat}, i ≠ id → blk G2 (T.set id (.row k n)) i = blk G T i := by
    intro i e
    unfold blk
    rw [hold e, hl2]
    simp only [hh2 i _ e]
  refine ⟨hle1.trans hle2, ⟨fun b i v hv => hw1.imm b i v (by rw [← hi2]; exact hv), fun i hi => ?_, fun i ys hi => ?_, fun j k' n' hj => ?_, fun j k' n' ys hj => ?_, fun i j b hi hj => ?_⟩, hm.kept _, fun i b hb => ?_, fun b i v hv => ?_⟩
  · by_cases e : i = id
    · subst e; rw [hnew] at hi; simp at hi
    · rw [hold e] at hi
      refine ⟨by rw [hl2]; exact (h.dom i hi).1, fun m => by rw [hh2 i m e]; exact (h.dom i hi).2 m⟩
  · have e : i ≠ id := by rintro rfl; rw [hnew] at hi; cases hi
    rw [hold e] at hi
    obtain ⟨b, cs, t, h1, h2, h3, h4, h5⟩ := hw1.obj i ys hi
    exact ⟨b, cs, t, by rw [hl2, ← hG1l]; exact h1, h2, h3, fun k x v hx hv => ⟨(h4 k x v hx hv).1, (h4 k x v hx hv).2.mono hle2⟩, fun k => by rw [hi2]; exact h5 k⟩
  · by_cases e : j = id
    · subst e
      rw [hnew] at hj; injection hj with hj; injection hj with e1 e2; subst e1 e2
      refine ⟨hk, _, c, hhist, fun n' v' hv => ?_, hn, fun _ => ⟨w.heap.size, cs, t, rfl, hm.new, hcs, fun i hi => ?_⟩⟩
      · by_cases e : n' = n
        · omega
        · rw [hhid n' e] at hv
          rcases hid with h0 | ⟨m, hmn, h0⟩
          · rw [(h.dom j (.inr h0)).2] at hv; cases hv
          · obtain ⟨_, A, c', _, h2, _⟩ := h.row j k m h0
            have := h2 n' v' hv; omega
      · rw [hi2, ← hG1]
        simp only [Gh.newImm, if_true]
        exact List.getElem?_eq_none (by omega)
    · rw [hold e] at hj
      obtain ⟨h0, A', c', h1, h2, h3, h4⟩ := hw1.row j k' n' hj
      rw [hG1h] at h1 h2
      exact ⟨h0, A', c', by rw [hh2 j _ e]; exact h1, fun n' v' hv => h2 n' v' (by rw [← hh2 j _ e]; exact hv), h3, fun hl => by
        obtain ⟨b, cs, t, g1, g2, g3, g4⟩ := h4 hl
        exact ⟨b, cs, t, g1, g2, g3, fun i hi => by rw [hi2]; exact g4 i hi⟩⟩
  · have e : j ≠ id := by rintro rfl; rw [hnew] at hj; cases hj
    rw [hold e] at hj
    obtain ⟨h0, hl, A', c', h1, h2, h3, hc6, h4⟩ := hw1.mrow j k' n' ys hj
    rw [hG1h] at h1 h2
    exact ⟨h0, hl, A', c', by rw [hh2 j _ e]; exact h1, fun n' v' hv => h2 n' v' (by rw [← hh2 j _ e]; exact hv), h3, hc6, h4.mono hle2 hi2⟩
  · by_cases e : i = id <;> by_cases e' : j = id
    · rw [e, e']
    · subst e
      have := hbnew hi; subst this
      rw [hbold e'] at hj; exact (hbn _ hj).elim
    · subst e'
      have := hbnew hj; subst this
      rw [hbold e] at hi; exact (hbn _ hi).elim
    · rw [hbold e] at hi; rw [hbold e'] at hj; exact h.sep i j b hi hj
  · by_cases e : i = id
    · subst e; left; rw [hbnew hb]; omega
    · rw [hbold e] at hb; exact .inr ⟨i, hb⟩
  · rw [hi2, ← hG1] at hv
    by_cases e : b = w.heap.size
    · right; left; omega
    · left; simpa [Gh.newImm, e] using hv


def Gh.moreImm (G : Gh) (b at_ : Nat) (vs : List Value) : Gh := ⟨fun b' i => if b' = b ∧ at_ ≤ i then vs[i - at_]? else G.imm b' i, G.loc, G.hist⟩

/-- A row that grows in its own block. -/
theorem Left.rowGrow {G : Gh} {T : List AObj} {w w' : World} {j k n n' b c : Nat} {vs : List Value} {cs : Array Value} {t : TypeId} (h : Wd G T w) (hj : T[j]? = some (.row k n)) (hh : G.hist j n = some (.slice (some ⟨b, 0, none⟩) n c))
    (hn : n < n') (hc : n' ≤ c) (hm : Turn w w' b (.cells cs t (0, 0))) (hcs : cs.size = c * k) (hold : ∀ i, i < n * k → w.cell? ⟨b, i, none⟩ = cs[i]?) (hvs : vs.length = (n' - n) * k)
    (hnew : ∀ (i : Nat) (v : Value), vs[i]? = some v → cs[n * k + i]? = some v) :
    Left G T w ((G.moreImm b (n * k) vs).newHist j n' (.slice (some ⟨b, 0, none⟩) n' c)) (T.set j (.row k n')) w' := by
  have hlt : j < T.length := (List.getElem?_eq_some_iff.1 hj).1
  obtain ⟨hk, A, c', h1, h2, h3, h4⟩ := h.row j k n hj
  rw [hh] at h1; injection h1 with h1; injection h1 with e1 e2 e3; subst e1 e3
  obtain ⟨b', cs0, t0, g1, g2, g3, g4⟩ := h4 (by omega)
  injection g1 with g1; injection g1 with g1; subst g1
  have hbj : blk G T j = some b := by simp [blk, hj, hh, show n < c by omega]
  have hfar : ∀ {i b' : Nat}, i ≠ j → blk G T i = some b' → b' ≠ b := fun {i b'} e hi he => e (h.sep i j b (he ▸ hi) hbj)
  have hhn : G.hist j n' = none := by
    cases hv : G.hist j n' with
    | none => rfl
    | some u => have := h2 n' u hv; omega
  generalize hG2 : (G.moreImm b (n * k) vs).newHist j n' (.slice (some ⟨b, 0, none⟩) n' c) = G2
  have hh2 : ∀ i m, i ≠ j → G2.hist i m = G.hist i m := fun i m e => by rw [← hG2]; simp [Gh.newHist, Gh.moreImm, e]
  have hhj : ∀ m, m ≠ n' → G2.hist j m = G.hist j m := fun m e => by rw [← hG2]; simp [Gh.newHist, Gh.moreImm, e]
  have hl2 : G2.loc = G.loc := by rw [← hG2]; rfl
  have hhist : G2.hist j n' = some (.slice (some ⟨b, 0, none⟩) n' c) := by rw [← hG2]; simp [Gh.newHist]
  have hifar : ∀ b' i, b' ≠ b → G2.imm b' i = G.imm b' i := fun b' i e => by rw [← hG2]; simp [Gh.newHist, Gh.moreImm, e]
  have hilow : ∀ i, i < n * k → G2.imm b i = G.imm b i := fun i e => by rw [← hG2]; simp [Gh.newHist, Gh.moreImm, show ¬ n * k ≤ i by omega]
  have hihigh : ∀ i, n * k ≤ i → G2.imm b i = vs[i - n * k]? := fun i e => by rw [← hG2]; simp [Gh.newHist, Gh.moreImm, e]
  have hle : G.Le G2 := by
    refine ⟨fun b' i v hv => ?_, fun _ _ h => by rw [hl2]; exact h, fun i m v hv => ?_⟩
    · by_cases e : b' = b
      · subst e
        by_cases e' : i < n * k
        · rw [hilow i e']; exact hv
        · rw [g4 i (by omega)] at hv; cases hv
      · rw [hifar b' i e]; exact hv
    · by_cases e : i = j
      · subst e
        by_cases e' : m = n'
        · subst e'; rw [hhn] at hv; cases hv
        · rw [hhj m e']; exact hv
      · rw [hh2 i m e]; exact hv
  have hset : ∀ {i : Nat}, i ≠ j → (T.set j (.row k n'))[i]? = T[i]? := fun {i} e => by rw [List.getElem?_set_ne (Ne.symm e)]
  have hsetj : (T.set j (.row k n'))[j]? = some (.row k n') := by simp [hlt]
  have hbnew : ∀ {b' : Nat}, blk G2 (T.set j (.row k n')) j = some b' → b' = b := by
    intro b' hb'
    simp only [blk, hsetj, hhist] at hb'
    split at hb'
    · injection hb' with hb'; exact hb'.symm
    · cases hb'
  have hbold : ∀ {i : Nat}, i ≠ j → blk G2 (T.set j (.row k n')) i = blk G T i := by
    intro i e
    unfold blk
    rw [hset e, hl2]
    simp only [hh2 i _ e]
  refine ⟨hle, ⟨fun b' i v hv => ?_, fun i hi => ?_, fun i ys hi => ?_, fun i k' m hi => ?_, fun i k' m ys hi => ?_, fun i i' b' hi hi' => ?_⟩, hm.kept fun hu => hu j hbj, fun i b' hb' => ?_, fun b' i v hv => ?_⟩
  · by_cases e : b' = b
    · subst e
      rw [cell_at hm.here]
      by_cases e' : i < n * k
      · rw [hilow i e'] at hv
        rw [← hold i e']; exact h.imm b' i v hv
      · rw [hihigh i (by omega)] at hv
        have := hnew (i - n * k) v hv
        rwa [show n * k + (i - n * k) = i by omega] at this
    · rw [hifar b' i e] at hv
      exact hm.cell e (h.imm b' i v hv)
  · by_cases e : i = j
    · subst e; rw [hsetj] at hi; simp at hi
    · rw [hset e] at hi
      exact ⟨by rw [hl2]; exact (h.dom i hi).1, fun m => by rw [hh2 i m e]; exact (h.dom i hi).2 m⟩
  · have e : i ≠ j := by rintro rfl; rw [hsetj] at hi; cases hi
    rw [hset e] at hi
    obtain ⟨b', cs', t', q1, q2, q3, q4, q5⟩ := h.obj i ys hi
    have hne : b' ≠ b := hfar e (by simp [blk, hi, q1])
    exact ⟨b', cs', t', by rw [hl2]; exact q1, by rw [hm.other b' hne]; exact q2, q3, fun k x v hx hv => ⟨(q4 k x v hx hv).1, (q4 k x v hx hv).2.mono hle⟩, fun k => by rw [hifar b' k hne]; exact q5 k⟩
  · by_cases e : i = j
    · subst e
      rw [hsetj] at hi; injection hi with hi; injection hi with e1 e2; subst e1 e2
      refine ⟨hk, _, c, hhist, fun m' v' hv => ?_, hc, fun _ => ⟨b, cs, t, rfl, hm.here, hcs, fun q hq => ?_⟩⟩
      · by_cases e : m' = n'
        · omega
        · rw [hhj m' e] at hv
          have := h2 m' v' hv; omega
      · have : n * k ≤ n' * k := Nat.mul_le_mul_right _ (by omega)
        rw [hihigh q (by omega)]
        have hmul : (n' - n) * k = n' * k - n * k := Nat.sub_mul _ _ _
        exact List.getElem?_eq_none (by omega)
    · rw [hset e] at hi
      obtain ⟨h0, A', c', q1, q2, q3, q4⟩ := h.row i k' m hi
      refine ⟨h0, A', c', by rw [hh2 i _ e]; exact q1, fun n' v' hv => q2 n' v' (by rw [← hh2 i _ e]; exact hv), q3, fun hl => ?_⟩
      obtain ⟨b', cs', t', p1, p2, p3, p4⟩ := q4 hl
      have hne : b' ≠ b := hfar e (by simp [blk, hi, q1, hl, p1])
      exact ⟨b', cs', t', p1, by rw [hm.other b' hne]; exact p2, p3, fun q hq => by rw [hifar b' q hne]; exact p4 q hq⟩
  · have e : i ≠ j := by rintro rfl; rw [hsetj] at hi; cases hi
    rw [hset e] at hi
    obtain ⟨h0, hl, A', c', q1, q2, q3, hc6, q4⟩ := h.mrow i k' m ys hi
    refine ⟨h0, hl, A', c', by rw [hh2 i _ e]; exact q1, fun n' v' hv => q2 n' v' (by rw [← hh2 i _ e]; exact hv), q3, hc6, fun hl => ?_⟩
    obtain ⟨b', cs', t', p1, p2, p3, p4, p5⟩ := q4 hl
    have hne : b' ≠ b := hfar e (by simp [blk, hi, q1, hl, p1])
    exact ⟨b', cs', t', p1, by rw [hm.other b' hne]; exact p2, p3, fun q x v hx hv => ⟨(p4 q x v hx hv).1, (p4 q x v hx hv).2.mono hle⟩, fun q => by rw [hifar b' q hne]; exact p5 q⟩
  · by_cases e : i = j <;> by_cases e' : i' = j
    · rw [e, e']
    · subst e
      have := hbnew hi; subst this
      rw [hbold e'] at hi'; exact (hfar e' hi' rfl).elim
    · subst e'
      have := hbnew hi'; subst this
      rw [hbold e] at hi; exact (hfar e hi rfl).elim
    · rw [hbold e] at hi; rw [hbold e'] at hi'; exact h.sep i i' b' hi hi'
  · by_cases e : i = j
    · subst e; right; exact ⟨i, by rw [hbnew hb']; exact hbj⟩
    · rw [hbold e] at hb'; exact .inr ⟨i, hb'⟩
  · by_cases e : b' = b
    · subst e; exact .inr (.inr ⟨j, hbj⟩)
    · rw [hifar b' i e] at hv; exact .inl hv

theorem mrow_hist {G : Gh} {T : List AObj} {w : World} {j k n : Nat} {v : Value} (h : Wd G T w) (hid : T[j]? = some .dead ∨ ∃ m ys, T[j]? = some (.mrow k m ys) ∧ (m < n ∨ m = n ∧ G.hist j n = some v)) :
    G.hist j n = none ∨ G.hist j n = some v := by
  rcases hid with h0 | ⟨m, ys, h0, hmn⟩
  · exact .inl ((h.dom j (.inr h0)).2 n)
  · rcases hmn with hmn | ⟨rfl, h1⟩
    · obtain ⟨_, _, A, c', _, h2, _⟩ := h.mrow j k m ys h0
      cases hv : G.hist j n with
      | none => exact .inl rfl
      | some u => have := h2 n u hv; omega
    · exact .inr h1

/-- A row that may turn: laid anew, grown, or turned; whatever else was there is as it was. -/
theorem Left.mrowTo {G : Gh} {T : List AObj} {w w' : World} {j k n c : Nat} {xs : List AV} {A : Option Addr} (h : Wd G T w) (hid : T[j]? = some .dead ∨ ∃ m ys, T[j]? = some (.mrow k m ys) ∧ (m < n ∨ m = n ∧ G.hist j n = some (.slice A n c)))
    (hk : 1 ≤ k) (hl : xs.length = n * k) (hn : n ≤ c) (hc6 : c ≤ 9223372036854775807) (hkept : Kept (fun b => blk G T j ≠ some b) w w')
    (hA : 0 < c → ∃ (b : Nat) (cs : Array Value) (t : TypeId), A = some ⟨b, 0, none⟩ ∧ w'.heap[b]? = some (.cells cs t (0, 0)) ∧ cs.size = c * k ∧ (∀ (i : Nat) (x : AV) (v : Value), xs[i]? = some x → cs[i]? = some v → v.oneCell' = true ∧ Rep G x v) ∧ (w.heap.size ≤ b ∨ blk G T j = some b)) :
    Left G T w (G.newHist j n (.slice A n c)) (T.set j (.mrow k n xs)) w' := by
  have hlt : j < T.length := by rcases hid with h | ⟨m, _, h, _⟩ <;> exact (List.getElem?_eq_some_iff.1 h).1
  have hhn := mrow_hist h hid
  have hhm : ∀ n' v', G.hist j n' = some v' → n' ≤ n := fun n' v' hv => by
    rcases hid with h0 | ⟨m, ys, h0, hmn⟩
    · rw [(h.dom j (.inr h0)).2] at hv; cases hv
    · obtain ⟨_, _, A, c', _, h2, _⟩ := h.mrow j k m ys h0
      have := h2 n' v' hv
      rcases hmn with hmn | ⟨rfl, _⟩ <;> omega
  have hle : G.Le (G.newHist j n (.slice A n c)) := by
    refine ⟨fun _ _ _ h => h, fun _ _ h => h, fun i m v hv => ?_⟩
    by_cases e : i = j ∧ m = n
    · obtain ⟨rfl, rfl⟩ := e
      rcases hhn with h1 | h1
      · rw [h1] at hv; cases hv
      · rw [h1] at hv; simpa [Gh.newHist] using hv
    · simpa [Gh.newHist, e] using hv
  have himm : ∀ b i v, G.imm b i = some v → blk G T j ≠ some b := fun b i v hv hb => by
    rcases hid with h0 | ⟨m, ys, h0, _⟩
    · simp [blk, h0] at hb
    · obtain ⟨_, _, A', c', h1, _, _, _, h4⟩ := h.mrow j k m ys h0
      by_cases hc : 0 < c'
      · obtain ⟨b', cs, t, e1, _, _, _, g5⟩ := h4 hc
        subst e1
        simp [blk, h0, h1, hc] at hb
        subst hb
        rw [g5 i] at hv; cases hv
      · cases A' <;> simp [blk, h0, h1, hc] at hb
  have hhist : (G.newHist j n (.slice A n c)).hist j n = some (.slice A n c) := by simp [Gh.newHist]
  have hho : ∀ i m, i ≠ j → (G.newHist j n (.slice A n c)).hist i m = G.hist i m := fun i m e => by simp [Gh.newHist, e]
  have hold : ∀ {i : Nat}, i ≠ j → (T.set j (.mrow k n xs))[i]? = T[i]? := fun {i} e => by rw [List.getElem?_set_ne (Ne.symm e)]
  have hnew : (T.set j (.mrow k n xs))[j]? = some (.mrow k n xs) := by simp [hlt]
  have hbold : ∀ {i : Nat}, i ≠ j → blk (G.newHist j n (.slice A n c)) (T.set j (.mrow k n xs)) i = blk G T i := by
    intro i e
    unfold blk
    rw [hold e]
    simp only [hho i _ e]
    rfl
  have hbnew : ∀ {b : Nat}, blk (G.newHist j n (.slice A n c)) (T.set j (.mrow k n xs)) j = some b → w.heap.size ≤ b ∨ blk G T j = some b := by
    intro b hb
    by_cases hc : 0 < c
    · obtain ⟨b', cs, t, e1, _, _, _, g5⟩ := hA hc
      subst e1
      simp [blk, hnew, hhist, hc] at hb
      subst hb; exact g5
    · cases A <;> simp [blk, hnew, hhist, hc] at hb
  have hfar : ∀ {i b : Nat}, i ≠ j → blk G T i = some b → w'.heap[b]? = w.heap[b]? := fun {i b} e hb =>
    hkept.block b (blk_lt h hb) fun hb' => e (h.sep i j b hb hb')
  refine ⟨hle, ⟨fun b i v hv => hkept.cell (h.imm b i v hv) (himm b i v hv), fun i hi => ?_, fun i ys hi => ?_, fun i k' n' hi => ?_, fun i k' n' ys hi => ?_, fun i i' b hi hi' => ?_⟩, hkept.mono fun b _ hu => hu j, fun i b hb => ?_, fun _ _ _ h => .inl h⟩
  · by_cases e : i = j
    · subst e; rw [hnew] at hi; simp at hi
    · rw [hold e] at hi
      exact ⟨(h.dom i hi).1, fun m => by rw [hho i m e]; exact (h.dom i hi).2 m⟩
  · have e : i ≠ j := by rintro rfl; rw [hnew] at hi; cases hi
    rw [hold e] at hi
    obtain ⟨b, cs, t, h1, h2, h3, h4, h5⟩ := h.obj i ys hi
    exact ⟨b, cs, t, h1, by rw [hfar e (by simp [blk, hi, h1])]; exact h2, h3, fun k x v hx hv => ⟨(h4 k x v hx hv).1, (h4 k x v hx hv).2.mono hle⟩, h5⟩
  · have e : i ≠ j := by rintro rfl; rw [hnew] at hi; cases hi
    rw [hold e] at hi
    obtain ⟨h0, A', c', h1, h2, h3, h4⟩ := h.row i k' n' hi
    refine ⟨h0, A', c', by rw [hho i _ e]; exact h1, fun m v hv => h2 m v (by rw [← hho i _ e]; exact hv), h3, fun hl => ?_⟩
    obtain ⟨b, cs, t, g1, g2, g3⟩ := h4 hl
    exact ⟨b, cs, t, g1, by rw [hfar e (by simp [blk, hi, h1, hl, g1])]; exact g2, g3⟩
  · by_cases e : i = j
    · subst e
      rw [hnew] at hi; injection hi with hi; injection hi with e1 e2 e3; subst e1 e2 e3
      refine ⟨hk, hl, A, c, hhist, fun m v hv => ?_, hn, hc6, fun hc => ?_⟩
      · by_cases e : m = n
        · omega
        · simp [Gh.newHist, e] at hv; exact hhm m v hv
      · obtain ⟨b, cs, t, e1, g2, g3, g4, g5⟩ := hA hc
        refine ⟨b, cs, t, e1, g2, g3, fun i x v hx hv => ⟨(g4 i x v hx hv).1, (g4 i x v hx hv).2.mono hle⟩, fun q => ?_⟩
        cases hv : G.imm b q with
        | none => exact hv
        | some u =>
          rcases g5 with g5 | g5
          · have := imm_lt h hv; omega
          · exact (himm b q u hv g5).elim
    · rw [hold e] at hi
      obtain ⟨h0, hl', A', c', h1, h2, h3, h6, h4⟩ := h.mrow i k' n' ys hi
      refine ⟨h0, hl', A', c', by rw [hho i _ e]; exact h1, fun m v hv => h2 m v (by rw [← hho i _ e]; exact hv), h3, h6, fun hc => ?_⟩
      obtain ⟨b, cs, t, g1, g2, g3, g4, g5⟩ := h4 hc
      exact ⟨b, cs, t, g1, by rw [hfar e (by simp [blk, hi, h1, hc, g1])]; exact g2, g3, fun q x v hx hv => ⟨(g4 q x v hx hv).1, (g4 q x v hx hv).2.mono hle⟩, g5⟩
  · have key : ∀ {i : Nat}, i ≠ j → blk (G.newHist j n (.slice A n c)) (T.set j (.mrow k n xs)) i = some b → blk (G.newHist j n (.slice A n c)) (T.set j (.mrow k n xs)) j = some b → False := fun {i} e h1 h2 => by
      rw [hbold e] at h1
      rcases hbnew h2 with h3 | h3
      · have := blk_lt h h1; omega
      · exact e (h.sep i j b h1 h3)
    by_cases e : i = j <;> by_cases e' : i' = j
    · rw [e, e']
    · subst e; exact (key e' hi' hi).elim
    · subst e'; exact (key e hi hi').elim
    · rw [hbold e] at hi; rw [hbold e'] at hi'; exact h.sep i i' b hi hi'
  · by_cases e : i = j
    · subst e
      rcases hbnew hb with h3 | h3
      · exact .inl h3
      · exact .inr ⟨i, h3⟩
    · rw [hbold e] at hb; exact .inr ⟨i, hb⟩

/-- New cells that lie still, in a block of their own. -/
theorem Left.still_ {G : Gh} {T : List AObj} {w w' : World} {cs : Array Value} {t : TypeId} {fz : Nat × Nat} {vs : List Value} (h : Wd G T w) (hm : More w w' (.cells cs t fz)) (hc : ∀ (i : Nat) (v : Value), vs[i]? = some v → cs[i]? = some v) :
    Left G T w (G.newImm w.heap.size vs) T w' := by
  have hnone : ∀ i, G.imm w.heap.size i = none := fun i => by
    cases hc : G.imm w.heap.size i with
    | none => rfl
    | some u => have := imm_lt h hc; omega
  obtain ⟨hw1, hle1⟩ := (h.more hm).claim w.heap.size vs (fun i v hv => by rw [cell_at hm.new]; exact hc i v hv) hnone (fun i hi => by have := blk_lt h hi; omega)
  refine ⟨hle1, hw1, hm.kept _, fun i b hb => .inr ⟨i, hb⟩, fun b i v hv => ?_⟩
  by_cases e : b = w.heap.size
  · right; left; omega
  · left; simpa [Gh.newImm, e] using hv

end Go.Proofs.Ytnfagphepkeedaa
end
section
namespace Go.Proofs.Ytnfagphepkeedaa

def AV.ofC1 : Value → AV
  | .slice none 0 0 => .sl .full 1 []
  | v => .lit v
def AV.ofC : Value → AV
  | .agg cs => if cs.all (·.oneCell') then .agg (cs.toList.map AV.ofC1) else .any
  | v => AV.ofC1 v
theorem rep_ofC1 (G : Gh) (v : Value) : Rep G (AV.ofC1 v) v := by
  unfold AV.ofC1
  split
  · have := Rep.sl (G := G) (t := .full) (k := 1) (xs := []) (A := none) (c := 0) (b := 0) (o := 0) (fun _ _ => undef) (by simp) (by simp) (by simp) (by simp) (by simp) (by simp) rfl
    simpa using this
  · exact .lit v
theorem rep_ofC (G : Gh) (v : Value) : Rep G (AV.ofC v) v := by
  unfold AV.ofC
  split
  · rename_i cs
    split
    · rename_i h
      refine .agg (by simp) (fun j v hv => ?_) (fun j x v hx hv => ?_)
      · rw [Array.all_eq_true] at h
        obtain ⟨hj, rfl⟩ := Array.getElem?_eq_some_iff.1 hv
        exact h j hj
      · obtain ⟨y, hy, rfl⟩ := map_get hx
        have : y = v := by simpa [hv] using hy.symm
        subst this; exact rep_ofC1 G y
    · exact .any _
  · exact rep_ofC1 G _

def ev (tm : List AV) : Operand → AV
  | .tmp t => tm.getD t .any
  | .const v => AV.ofC v
  | .global _ => .any
  | .func f => .fn f [] []

/-- The cells of a value that may be stored. -/
def AV.parts : AV → Option (List AV)
  | .agg xs => some xs
  | .any => none
  | .tup _ => none
  | x => if x.one then some [x] else none
theorem Rep.parts {G : Gh} {x : AV} {v : Value} (r : Rep G x v) {cs : List AV} (h : x.parts = some cs) : cs = x.cells ∧ RepL G cs v.cells.toList ∧ ∀ u ∈ v.cells.toList, u.oneCell' = true := by
  have one : ∀ {x : AV} {v : Value}, Rep G x v → x.one = true → v.oneCell' = true → RepL G [x] [v] ∧ ∀ u ∈ [v], u.oneCell' = true :=
    fun r _ hv => ⟨RepL.cons r (RepL.nil G), fun u hu => by simp at hu; subst hu; exact hv⟩
  cases r with
  | any => simp [AV.parts] at h
  | tup => simp [AV.parts] at h
  | agg h0 h2 h3 =>
    simp [AV.parts] at h
    subst h
    refine ⟨rfl, ⟨by simpa [Value.cells] using h0, fun j x v hx hv => h3 j x v hx (by simpa [Value.cells] using hv)⟩, fun u hu => ?_⟩
    obtain ⟨j, hj, rfl⟩ := List.getElem_of_mem hu
    refine h2 j _ (by simp [Value.cells])
  | lit v =>
    simp only [AV.parts] at h
    split at h
    · rename_i ho
      injection h with h; subst h
      have hv : v.oneCell' = true := ho
      cases v <;> first | (exact ⟨rfl, one (.lit _) ho hv⟩) | (simp [Value.oneCell'] at hv)
    · cases h
  | ref hl => simp [AV.parts, AV.one] at h; subst h; exact ⟨rfl, one (.ref hl) rfl rfl⟩
  | iptr vs h1 h2 h3 => simp [AV.parts, AV.one] at h; subst h; exact ⟨rfl, one (.iptr vs h1 h2 h3) rfl rfl⟩
  | sl vs hc hA hk h1 h2 h3 ht => simp [AV.parts, AV.one] at h; subst h; exact ⟨rfl, one (.sl vs hc hA hk h1 h2 h3 ht) rfl rfl⟩
  | fn hf hc h1 h2 => simp [AV.parts, AV.one] at h; subst h; exact ⟨rfl, one (.fn hf hc h1 h2) rfl rfl⟩
  | ms q1 q2 => simp [AV.parts, AV.one] at h; subst h; exact ⟨rfl, one (.ms q1 q2) rfl rfl⟩
  | mref q1 => simp [AV.parts, AV.one] at h; subst h; exact ⟨rfl, one (.mref q1) rfl rfl⟩
  | slc q1 =>
    simp [AV.parts, AV.one] at h
    subst h
    have ho := q1.oneC rfl
    cases q1 with
    | sl vs hc hA hk h1 h2 h3 ht => exact ⟨rfl, one (.slc (.sl vs hc hA hk h1 h2 h3 ht)) rfl ho⟩

def splice : List AV → Nat → List AV → List AV
  | xs, _, [] => xs
  | xs, o, c :: cs => splice (xs.set o c) (o + 1) cs
def fillA : List AV → List (Nat × Nat × AV) → Option (List AV)
  | cells, [] => some cells
  | cells, (off, size, x) :: rest => match x.parts with
    | some cs => if cs.length = size ∧ off + size ≤ cells.length then fillA (splice cells off cs) rest else none
    | none => none

/-- An operation, its types looked up. -/
inductive I where
  | mov (x : Operand)
  | pick (c a b : Operand)
  | new (zs : List Value)
  | box (x : Operand)
  | build (zs : List Value) (parts : List (Nat × Nat × Operand))
  | bsl (k : Nat) (xs : List Operand)
  | load (n : Option Nat) (a : Operand)
  | store (n : Nat) (a x : Operand)
  | nilc (x : Operand)
  | bin (op : BinOp) (x y : Operand)
  | eqb (neg : Bool) (x y : Operand)
  | eqa (neg : Bool) (n : Nat) (x y : Operand)
  | eqp (neg : Bool) (x y : Operand)
  | un (op : UnOp) (x : Operand)
  | cvt (k : IntKind) (x : Operand)
  | b2s (x : Operand)
  | s2b (x : Operand)
  | slice (k : Nat) (x : Operand) (lo hi mx : Option Operand)
  | sstr (x : Operand) (lo hi : Option Operand)
  | fadr (off : Nat) (x : Operand)
  | fld (off : Nat) (n : Option Nat) (x : Operand)
  | iadr (k : Nat) (x ix : Operand)
  | aadr (len k : Nat) (x ix : Operand)
  | idx (len k : Nat) (n : Option Nat) (x ix : Operand)
  | sidx (x ix : Operand)
  | ext (x : Operand) (i : Nat)
  | mkf (f : FuncId) (first caps : List Operand)
  | call (f : Operand) (args : List Operand)
  | app (k bytes : Nat) (s x : Operand)
  | len (str : Bool) (x : Operand)
  | lenc (n : Nat)
  | mx (isMax : Bool) (x y : Operand)
  | mksl (k bytes : Nat) (l c : Operand)

abbrev KT := AV → List Nat → List (Nat × AObj) → List AObj → Prop
def newU (n : Nat) : List AObj → List (Nat × AObj)
  | [] => []
  | o :: os => (n, o) :: newU (n + 1) os

def bitsI (op : BinOp) (k : IntKind) (a b : Int) : Int :=
  match op with
  | .and => k.wrap (BitVec.ofInt k.bits a &&& BitVec.ofInt k.bits b).toNat
  | .or => k.wrap (BitVec.ofInt k.bits a ||| BitVec.ofInt k.bits b).toNat
  | .xor => k.wrap (BitVec.ofInt k.bits a ^^^ BitVec.ofInt k.bits b).toNat
  | _ => k.wrap (BitVec.ofInt k.bits a &&& ~~~BitVec.ofInt k.bits b).toNat
def kInt (op : BinOp) (k : IntKind) (a : Int) (k' : IntKind) (b : Int) (K : KT) : Prop :=
  match op with
  | .add => k = k' ∧ K (.lit (.int k (k.wrap (a + b)))) [] [] []
  | .sub => k = k' ∧ K (.lit (.int k (k.wrap (a - b)))) [] [] []
  | .mul => k = k' ∧ K (.lit (.int k (k.wrap (a * b)))) [] [] []
  | .quo => k = k' ∧ b ≠ 0 ∧ K (.lit (.int k (k.wrap (a.tdiv b)))) [] [] []
  | .rem => k = k' ∧ b ≠ 0 ∧ K (.lit (.int k (a.tmod b))) [] [] []
  | .and => k = k' ∧ K (.lit (.int k (bitsI .and k a b))) [] [] []
  | .or => k = k' ∧ K (.lit (.int k (bitsI .or k a b))) [] [] []
  | .xor => k = k' ∧ K (.lit (.int k (bitsI .xor k a b))) [] [] []
  | .andNot => k = k' ∧ K (.lit (.int k (bitsI .andNot k a b))) [] [] []
  | .shl => 0 ≤ b ∧ K (.lit (.int k (k.wrap (a * 2 ^ min b.toNat k.bits)))) [] [] []
  | .shr => 0 ≤ b ∧ K (.lit (.int k (a.fdiv (2 ^ min b.toNat k.bits)))) [] [] []
  | .eql => k = k' ∧ K (.lit (.bool (a == b))) [] [] []
  | .neq => k = k' ∧ K (.lit (.bool (a != b))) [] [] []
  | .lss => k = k' ∧ K (.lit (.bool (decide (a < b)))) [] [] []
  | .leq => k = k' ∧ K (.lit (.bool (decide (a ≤ b)))) [] [] []
  | .gtr => k = k' ∧ K (.lit (.bool (decide (b < a)))) [] [] []
  | .geq => k = k' ∧ K (.lit (.bool (decide (b ≤ a)))) [] [] []
def kStr (op : BinOp) (a b : ByteArray) (K : KT) : Prop :=
  match op with
  | .eql => K (.lit (.bool (a.toList == b.toList))) [] [] []
  | .neq => K (.lit (.bool (!(a.toList == b.toList)))) [] [] []
  | _ => False
def kBin (op : BinOp) (x y : AV) (K : KT) : Prop :=
  match x, y with
  | .lit (.int k a), .lit (.int k' b) => kInt op k a k' b K
  | .lit (.string a), .lit (.string b) => kStr op a b K
  | _, _ => False
def kPick (c x y : AV) (K : KT) : Prop :=
  match c with
  | .lit (.bool t) => K (bif t then x else y) [] [] []
  | _ => False
def kBox (x : AV) (n : Nat) (K : KT) : Prop :=
  match x.parts with
  | some cs => K (.ref n 0) [] [] [.cells cs]
  | none => False
def kBuild (cells : List AV) (parts : List (Nat × Nat × AV)) (K : KT) : Prop :=
  match fillA cells parts with
  | some cs => K (.agg cs) [] [] []
  | none => False
def okEl (k : Nat) (x : AV) : Bool := match x.parts with
  | some cs => cs.length == k
  | none => false
def kBsl (k : Nat) (xs : List AV) (K : KT) : Prop := xs.all (okEl k) = true ∧ K (.sl .full k xs) [] [] []
/-- The cells of elements, one behind the other. -/
def flat (ys : List AV) : List AV := (ys.map AV.cells).flatten
def kLoadM (n : Option Nat) (j g o : Nat) (S : List AObj) (K : KT) : Prop :=
  match S[j]? with
  | some (.mrow _ m xs) => m = g ∧ match n with
    | none => match xs[o]? with
      | some x => K x [j] [] []
      | none => False
    | some n => 0 < n ∧ o + n ≤ xs.length ∧ K (.agg ((xs.drop o).take n)) [j] [] []
  | _ => False
def kStoreM (n : Nat) (j g o : Nat) (x : AV) (S : List AObj) (K : KT) : Prop :=
  match S[j]? with
  | some (.mrow k m xs) => match x.parts with
    | some cs => m = g ∧ 0 < n ∧ cs.length = n ∧ o + n ≤ xs.length ∧ K .any [j] [(j, .mrow k m (splice xs o cs))] []
    | none => False
  | _ => False
def kLoad (n : Option Nat) (a : AV) (S : List AObj) (K : KT) : Prop :=
  match a with
  | .mref j g o => kLoadM n j g o S K
  | .iptr cs => match n with
    | none => match cs with
      | x :: _ => K x [] [] []
      | [] => False
    | some n => n ≤ cs.length ∧ K (.agg (cs.take n)) [] [] []
  | .ref i o => match S[i]? with
    | some (.cells xs) => match n with
      | none => match xs[o]? with
        | some x => K x [i] [] []
        | none => False
      | some n => o + n ≤ xs.length ∧ K (.agg ((xs.drop o).take n)) [i] [] []
    | _ => False
  | _ => False
def kStore (n : Nat) (a x : AV) (S : List AObj) (K : KT) : Prop :=
  match a with
  | .mref j g o => kStoreM n j g o x S K
  | .ref i o => match S[i]? with
    | some (.cells xs) => match x.parts with
      | some cs => cs.length = n ∧ o + n ≤ xs.length ∧ K .any [i] [(i, .cells (splice xs o cs))] []
      | none => False
    | _ => False
  | _ => False
def kNil (x : AV) (K : KT) : Prop :=
  match x with
  | .ref i o => K (.ref i o) [] [] []
  | .iptr cs => K (.iptr cs) [] [] []
  | .mref j g o => K (.mref j g o) [] [] []
  | _ => False
def kEqb (neg : Bool) (x y : AV) (K : KT) : Prop :=
  match x, y with
  | .lit (.bool a), .lit (.bool b) => K (.lit (.bool (if neg then !(a == b) else a == b))) [] [] []
  | _, _ => False
def cellsEq : List AV → List AV → Bool
  | .lit (.int _ a) :: xs, .lit (.int _ b) :: ys => (a == b) && cellsEq xs ys
  | _, _ => true
def eqOk : List AV → List AV → Bool
  | [], [] => true
  | .lit (.int k _) :: xs, .lit (.int k' _) :: ys => k == k' && eqOk xs ys
  | _, _ => false
def kEqa (neg : Bool) (n : Nat) (x y : AV) (K : KT) : Prop :=
  match x, y with
  | .agg xs, .agg ys => xs.length = n ∧ eqOk xs ys = true ∧ K (.lit (.bool (if neg then !(cellsEq xs ys) else cellsEq xs ys))) [] [] []
  | _, _ => False
def kEqp (neg : Bool) (x y : AV) (K : KT) : Prop :=
  match x, y with
  | .ref _ _, .lit (.pointer none) => K (.lit (.bool neg)) [] [] []
  | .lit (.pointer none), .lit (.pointer none) => K (.lit (.bool !neg)) [] [] []
  | _, _ => False
def kUn (op : UnOp) (x : AV) (K : KT) : Prop :=
  match op, x with
  | .neg, .lit (.int k n) => K (.lit (.int k (k.wrap (0 - n)))) [] [] []
  | .xor, .lit (.int k n) => K (.lit (.int k (bitsI .xor k (if k.signed then -1 else k.max) n))) [] [] []
  | .not, .lit (.bool b) => K (.lit (.bool !b)) [] [] []
  | _, _ => False
def kCvt (k : IntKind) (x : AV) (K : KT) : Prop :=
  match x with
  | .lit (.int _ n) => K (.lit (.int k (k.wrap n))) [] [] []
  | _ => False
def AV.isU8 : AV → Bool
  | .lit (.int .u8 _) => true
  | _ => false
def AV.byte : AV → UInt8
  | .lit (.int _ n) => UInt8.ofNat n.toNat
  | _ => 0
def bytesOf (xs : List AV) : ByteArray := ⟨(xs.map AV.byte).toArray⟩
def kB2s (x : AV) (K : KT) : Prop :=
  match x with
  | .sl _ k xs => (k = 1 ∨ xs = []) ∧ xs.all (·.isU8) = true ∧ K (.lit (.string (bytesOf xs))) [] [] []
  | _ => False
def kS2b (x : AV) (K : KT) : Prop :=
  match x with
  | .lit (.string s) => s.size ≤ 140737488355328 ∧ K (.sl .none 1 (s.data.toList.map fun b => .lit (.int .u8 b.toNat))) [] [] []
  | _ => False
def AV.i : AV → Option Int
  | .lit (.int _ n) => some n
  | _ => none
/-- A bound of a slice expression: where none is given, d. -/
def bnd (x : Option AV) (d : Int) : Option Int :=
  match x with
  | none => some d
  | some x => x.i
def sTag (t : Tag) (lo hi mx : Option AV) : Tag :=
  match lo, hi, mx with
  | none, none, none => t
  | some _, none, none => match t with
    | .full => .full
    | _ => .none
  | _, _, _ => .none
def kSlice (k : Nat) (x : AV) (lo hi mx : Option AV) (K : KT) : Prop :=
  match x with
  | .sl t ks xs => match bnd lo 0, bnd hi xs.length with
    | some l, some h => (ks = k ∨ xs = []) ∧ 0 ≤ l ∧ l ≤ h ∧ h ≤ xs.length ∧ match mx with
      | none => K (.sl (sTag t lo hi none) ks ((xs.drop l.toNat).take (h - l).toNat)) [] [] []
      | some m => (hi.isSome = true ∧ m.i = some h) ∧ K (.sl .full ks ((xs.drop l.toNat).take (h - l).toNat)) [] [] []
    | _, _ => False
  | _ => False
def kSstr (x : AV) (lo hi : Option AV) (K : KT) : Prop :=
  match x with
  | .lit (.string s) => match bnd lo 0, bnd hi s.size with
    | some l, some h => 0 ≤ l ∧ l ≤ h ∧ h ≤ s.size ∧ K (.lit (.string (s.extract l.toNat h.toNat))) [] [] []
    | _, _ => False
  | _ => False
def kFadr (off : Nat) (x : AV) (K : KT) : Prop :=
  match x with
  | .ref i o => K (.ref i (o + off)) [] [] []
  | .iptr cs => K (.iptr (cs.drop off)) [] [] []
  | .mref j g o => K (.mref j g (o + off)) [] [] []
  | _ => False
def kFld (off : Nat) (n : Option Nat) (x : AV) (K : KT) : Prop :=
  match x with
  | .agg xs => match n with
    | none => match xs[off]? with
      | some x => K x [] [] []
      | none => False
    | some n => off + n ≤ xs.length ∧ K (.agg ((xs.drop off).take n)) [] [] []
  | _ => False
def kIadr (k : Nat) (x ix : AV) (K : KT) : Prop :=
  match x, ix with
  | .sl _ ks xs, .lit (.int _ i) => ks = k ∧ 0 ≤ i ∧ i < xs.length ∧ K (.iptr (xs.getD i.toNat .any).cells) [] [] []
  | .ms j g, .lit (.int _ i) => 0 ≤ i ∧ i < g ∧ K (.mref j g (i.toNat * k)) [] [] []
  | _, _ => False
def kAadr (len k : Nat) (x ix : AV) (K : KT) : Prop :=
  match x, ix with
  | .ref i o, .lit (.int _ n) => 0 ≤ n ∧ n < len ∧ K (.ref i (o + n.toNat * k)) [] [] []
  | .iptr cs, .lit (.int _ n) => 0 ≤ n ∧ n < len ∧ K (.iptr (cs.drop (n.toNat * k))) [] [] []
  | _, _ => False
def kIdx (len k : Nat) (n : Option Nat) (x ix : AV) (K : KT) : Prop :=
  match x, ix with
  | .agg xs, .lit (.int _ i) => 0 ≤ i ∧ i < len ∧ kFld (i.toNat * k) n (.agg xs) K
  | _, _ => False
def kSidx (x ix : AV) (K : KT) : Prop :=
  match x, ix with
  | .lit (.string s), .lit (.int _ i) => 0 ≤ i ∧ i < s.size ∧ K (.lit (.int .u8 (s.data.toList.getD i.toNat 0).toNat)) [] [] []
  | _, _ => False
def kExt (x : AV) (i : Nat) (K : KT) : Prop :=
  match x with
  | .tup xs => match xs[i]? with
    | some x => K x [] [] []
    | none => False
  | _ => False
def kAppM (k bytes j g ky : Nat) (ys : List AV) (S : List AObj) (K : KT) : Prop :=
  match S[j]? with
  | some (.mrow k' m xs) => k' = k ∧ m = g ∧ (ky = k ∨ ys = []) ∧ (g + ys.length) * bytes ≤ 140737488355328 ∧ K (.ms j (g + ys.length)) [j] [(j, .mrow k (g + ys.length) (xs ++ flat ys))] []
  | _ => False
def kApp (k bytes : Nat) (s x : AV) (S : List AObj) (K : KT) : Prop :=
  match s, x with
  | .ms j g, .sl _ ky ys => kAppM k bytes j g ky ys S K
  | .sl t _ xs, .slc ky ys => t = .full ∧ xs = [] ∧ (ky = k ∨ ys = []) ∧ ys.length * bytes ≤ 140737488355328 ∧ K (.ms S.length ys.length) [] [] [.mrow k ys.length (flat ys)]
  | .sl t ks xs, .sl _ ky ys => (ks = k ∨ xs = []) ∧ (ky = k ∨ ys = []) ∧ (xs.length + ys.length) * bytes ≤ 140737488355328 ∧ match t with
    | .full => K (.sl (.row S.length) k (xs ++ ys)) [] [] [.row k (xs.length + ys.length)]
    | .row j => S[j]? = some (.row k xs.length) ∧ K (.sl (.row j) k (xs ++ ys)) [j] [(j, .row k (xs.length + ys.length))] []
    | .none => False
  | _, _ => False
def kLen (str : Bool) (x : AV) (K : KT) : Prop :=
  match str, x with
  | false, .sl _ _ xs => K (.lit (.int .i64 xs.length)) [] [] []
  | false, .ms _ g => K (.lit (.int .i64 g)) [] [] []
  | true, .lit (.string s) => K (.lit (.int .i64 s.size)) [] [] []
  | _, _ => False
def kMx (isMax : Bool) (x y : AV) (K : KT) : Prop :=
  match x, y with
  | .lit (.int k a), .lit (.int _ b) => K (.lit (.int k (if isMax then (if b > a then b else a) else if b < a then b else a))) [] [] []
  | _, _ => False
def kMksl (k bytes : Nat) (l c : AV) (n : Nat) (K : KT) : Prop :=
  match l, c with
  | .lit (.int .i64 l), .lit (.int .i64 c) => l = 0 ∧ 0 ≤ c ∧ c * bytes ≤ 140737488355328 ∧ c < 9223372036854775808 ∧ K (.sl (.row n) k []) [] [] [.row k 0]
  | _, _ => False

def EffC (P : Program) (f : FuncId) (args : List AV) (S : List AObj) (v : AV) (rd : List Nat) (upd : List (Nat × AObj)) (new : List AObj) : Prop :=
  ∀ T, (∀ i ∈ rd, T[i]? = S[i]?) → (∀ p ∈ upd, p.1 ∈ rd) → (∀ p ∈ newU S.length new, T[p.1]? = some .dead) → Does P f args T v (updL T (upd ++ newU S.length new))
def CallK (P : Program) (f : FuncId) (args : List AV) (S : List AObj) (K : KT) : Prop := ∃ v rd upd new, EffC P f args S v rd upd new ∧ (∀ p ∈ upd, p.1 ∈ rd) ∧ (∀ i ∈ rd, i < S.length) ∧ K v rd upd new
def kCall (P : Program) (f : AV) (args : List AV) (S : List AObj) (K : KT) : Prop :=
  match f with
  | .fn f first cap => CallK P f (first ++ args ++ cap) S K
  | _ => False

def effK (P : Program) (i : I) (ρ : Operand → AV) (S : List AObj) (K : KT) : Prop :=
  match i with
  | .mov x => K (ρ x) [] [] []
  | .pick c a b => kPick (ρ c) (ρ a) (ρ b) K
  | .new zs => K (.ref S.length 0) [] [] [.cells (zs.map AV.ofC1)]
  | .box x => kBox (ρ x) S.length K
  | .build zs parts => kBuild (zs.map AV.ofC1) (parts.map fun (a, b, x) => (a, b, ρ x)) K
  | .bsl k xs => kBsl k (xs.map ρ) K
  | .load n a => kLoad n (ρ a) S K
  | .store n a x => kStore n (ρ a) (ρ x) S K
  | .nilc x => kNil (ρ x) K
  | .bin op x y => kBin op (ρ x) (ρ y) K
  | .eqb neg x y => kEqb neg (ρ x) (ρ y) K
  | .eqa neg n x y => kEqa neg n (ρ x) (ρ y) K
  | .eqp neg x y => kEqp neg (ρ x) (ρ y) K
  | .un op x => kUn op (ρ x) K
  | .cvt k x => kCvt k (ρ x) K
  | .b2s x => kB2s (ρ x) K
  | .s2b x => kS2b (ρ x) K
  | .slice k x lo hi mx => kSlice k (ρ x) (lo.map ρ) (hi.map ρ) (mx.map ρ) K
  | .sstr x lo hi => kSstr (ρ x) (lo.map ρ) (hi.map ρ) K
  | .fadr off x => kFadr off (ρ x) K
  | .fld off n x => kFld off n (ρ x) K
  | .iadr k x ix => kIadr k (ρ x) (ρ ix) K
  | .aadr len k x ix => kAadr len k (ρ x) (ρ ix) K
  | .idx len k n x ix => kIdx len k n (ρ x) (ρ ix) K
  | .sidx x ix => kSidx (ρ x) (ρ ix) K
  | .ext x i => kExt (ρ x) i K
  | .mkf f a b => K (.fn f (a.map ρ) (b.map ρ)) [] [] []
  | .call f args => kCall P (ρ f) (args.map ρ) S K
  | .app k bytes s x => kApp k bytes (ρ s) (ρ x) S K
  | .len s x => kLen s (ρ x) K
  | .lenc n => K (.lit (.int .i64 n)) [] [] []
  | .mx b x y => kMx b (ρ x) (ρ y) K
  | .mksl k bytes l c => kMksl k bytes (ρ l) (ρ c) S.length K

def szO (P : Program) (t : TypeId) : Option Nat := (P.info? t).map (·.size)
def aggO (P : Program) (t : TypeId) : Option (Option Nat) :=
  match P.underlying t with
  | none => none
  | some (.struct _) => (szO P t).map some
  | some (.array _ _) => (szO P t).map some
  | some _ => some none
def zeroO (P : Program) (t : TypeId) : Option (List Value) := ((P.info? t).bind (·.zero)).bind fun z => if z.cells.toList.all (·.oneCell') then some z.cells.toList else none
/-- How many cells a type has that is made of integers alone, one behind the other. -/
def flatI (P : Program) : Nat → TypeId → Option Nat
  | 0, _ => none
  | d + 1, t => match P.underlying t with
    | some (.int _) => some 1
    | some (.struct fs) => if P.stoodInHeld t then none else
      fs.toList.foldl (fun acc f => acc.bind fun off => match flatI P d f.type, aggO P f.type with
        | some s, some a => if f.name ≠ "_" ∧ f.offset = off ∧ szO P f.type = some s ∧ (a = none → s = 1) then some (off + s) else none
        | _, _ => none) (some 0)
    | some (.array n e) => match flatI P d e, aggO P e with
      | some s, some a => if szO P e = some s ∧ (a = none → s = 1) then some (n * s) else none
      | _, _ => none
    | _ => none
def optM {α β : Type} (f : α → Option β) : List α → Option (List β)
  | [] => some []
  | x :: xs => match f x, optM f xs with
    | some y, some ys => some (y :: ys)
    | _, _ => none

def compOp (P : Program) (o : Oper) : Option I :=
  match o.op with
  | .move x => some (.mov x)
  | .assign x => some (.mov x)
  | .pick c a b => some (.pick c a b)
  | .alloc e => (zeroO P e).map .new
  | .box _ x => some (.box x)
  | .build t parts => match P.underlying t, zeroO P t with
    | some (.struct fs), some z => if fs.all (fun f => (szO P f.type).isSome) then (optM (fun p : Nat × Operand => (fs[p.1]?).bind fun f => (szO P f.type).map fun s => (f.offset, s, p.2)) parts.toList).map (.build z) else none
    | some (.array _ e), some z => (szO P e).map fun s => .build z (parts.toList.map fun p => (p.1 * s, s, p.2))
    | _, _ => none
  | .buildSlice t n parts => match P.underlying t with
    | some (.slice e) => match szO P e, zeroO P e with
      | some s, some z => if z.length = s ∧ 1 ≤ s ∧ n * s ≤ 16777216 ∧ parts.toList.map (·.1) = List.range n then some (.bsl s (parts.toList.map (·.2))) else none
      | _, _ => none
    | _ => none
  | .load t a => (aggO P t).map fun n => .load n a
  | .store t a x => (szO P t).map fun n => .store n a x
  | .nilCheck x => some (.nilc x)
  | .binOp op t x y _ => match P.underlying t with
    | some (.int _) => some (.bin op x y)
    | some .string => some (.bin op x y)
    | some .bool => if op = .eql then some (.eqb false x y) else if op = .neq then some (.eqb true x y) else none
    | some (.pointer e) => if (szO P e).isSome then (if op = .eql then some (.eqp false x y) else if op = .neq then some (.eqp true x y) else none) else none
    | some (.struct _) => if P.eqGuardType P.depth t then none else match flatI P 9 t, aggO P t with
      | some n, some (some _) => if op = .eql then some (.eqa false n x y) else if op = .neq then some (.eqa true n x y) else none
      | _, _ => none
    | some (.array _ _) => if P.eqGuardType P.depth t then none else match flatI P 9 t, aggO P t with
      | some n, some (some _) => if op = .eql then some (.eqa false n x y) else if op = .neq then some (.eqa true n x y) else none
      | _, _ => none
    | _ => none
  | .unOp op _ x => some (.un op x)
  | .convert src dst x => match P.underlying src, P.underlying dst with
    | some (.int _), some (.int k) => some (.cvt k x)
    | some (.slice e), some .string => match P.underlying e with
      | some (.int .u8) => some (.b2s x)
      | _ => none
    | some .string, some (.slice e) => match P.underlying e with
      | some (.int .u8) => some (.s2b x)
      | _ => none
    | _, _ => none
  | .slice t x lo hi mx => match P.underlying t with
    | some (.slice e) => (szO P e).map fun s => .slice s x lo hi mx
    | some .string => if mx.isNone then some (.sstr x lo hi) else none
    | _ => none
  | .fieldAddr t x f => match P.underlying t with
    | some (.struct fs) => match fs[f]? with
      | some fd => match szO P fd.type with
        | some s => if 1 ≤ s then some (.fadr fd.offset x) else none
        | none => none
      | none => none
    | _ => none
  | .field t x f => match P.underlying t with
    | some (.struct fs) => match fs[f]? with
      | some fd => (aggO P fd.type).map fun n => .fld fd.offset n x
      | none => none
    | _ => none
  | .indexAddr t x ix => match P.underlying t with
    | some (.slice e) => (szO P e).map fun s => .iadr s x ix
    | some (.array n e) => (szO P e).map fun s => .aadr n s x ix
    | _ => none
  | .index t x ix => match P.underlying t with
    | some (.array n e) => match szO P e, aggO P e with
      | some s, some a => some (.idx n s a x ix)
      | _, _ => none
    | some .string => some (.sidx x ix)
    | _ => none
  | .extract x i => some (.ext x i)
  | .makeFunc (.func f) a b => some (.mkf f a.toList b.toList)
  | .makeSlice t l c => match P.underlying t with
    | some (.slice e) => match P.info? e, zeroO P e with
      | some i, some z => if z.length = i.size ∧ 1 ≤ i.size then some (.mksl i.size i.bytes l c) else none
      | _, _ => none
    | _ => none
  | .call c => match c.callee with
    | .value f => some (.call f c.args.toList)
    | .builtin .append => match c.argTypes.toList, c.args.toList with
      | [t, t'], [s, x] => match P.underlying t with
        | some (.slice e) => match P.info? e, zeroO P e with
          | some i, some z => if t = t' ∧ z.length = i.size ∧ 1 ≤ i.size ∧ 1 ≤ i.bytes then some (.app i.size i.bytes s x) else none
          | _, _ => none
        | _ => none
      | _, _ => none
    | .builtin .len => match c.argTypes.toList, c.args.toList with
      | [t], [x] => match P.underlying t with
        | some (.slice _) => some (.len false x)
        | some .string => some (.len true x)
        | some (.array n _) => some (.lenc n)
        | _ => none
      | _, _ => none
    | .builtin .max => match c.args.toList with
      | [x, y] => some (.mx true x y)
      | _ => none
    | .builtin .min => match c.args.toList with
      | [x, y] => some (.mx false x y)
      | _ => none
    | _ => none
  | _ => none

end Go.Proofs.Ytnfagphepkeedaa
end
section
namespace Go.Proofs.Ytnfagphepkeedaa

def Eff (P : Program) (o : Oper) (ρ : Operand → AV) (S : List AObj) (v : AV) (rd : List Nat) (upd : List (Nat × AObj)) (new : List AObj) : Prop :=
  ∀ T, (∀ i ∈ rd, T[i]? = S[i]?) → (∀ p ∈ newU S.length new, T[p.1]? = some .dead) → ∀ G a w, Wd G T w → (∀ x ∈ o.op.operands, Rep G (ρ x) (a.eval x)) →
    ∀ (K : Act → World → Prop) (Q : Exit → Act → World → Prop), (∀ v' w' G', Rep G' v v' → Left G T w G' (updL T (upd ++ newU S.length new)) w' → K (a.put o.dst v') w') → o.wp P a w K Q
def SND (P : Program) (o : Oper) (ρ : Operand → AV) (S : List AObj) (K : KT) : Prop := ∃ v rd upd new, Eff P o ρ S v rd upd new ∧ (∀ p ∈ upd, p.1 ∈ rd) ∧ (∀ i ∈ rd, i < S.length) ∧ K v rd upd new

section
variable {P : Program} {o : Oper} {ρ : Operand → AV} {S : List AObj} {K : KT}

theorem add_none (b i j : Nat) : (⟨b, i, none⟩ : Addr).add j = ⟨b, i + j, none⟩ := by
  unfold Addr.add
  split
  · rename_i h; subst h; rfl
  · rfl

theorem snd_pure {v : AV} (h : ∀ (G : Gh) (a : Act) (w : World) (T : List AObj), Wd G T w → (∀ x ∈ o.op.operands, Rep G (ρ x) (a.eval x)) → ∃ v', (execOp a.eval o).run P w = .ok (.value v') w ∧ Rep G v v')
    (hK : K v [] [] []) : SND P o ρ S K := by
  refine ⟨v, [], [], [], fun T _ _ G a w hw hr K Q hk => ?_, (fun p hp => by cases hp), (fun i hi => by simp at hi), hK⟩
  obtain ⟨v', hrun, hv⟩ := h G a w T hw hr
  unfold Oper.wp
  rw [hrun]
  exact hk v' w G hv (by simpa [newU] using Left.refl hw)

theorem snd_read {v : AV} {i : Nat} (h : ∀ (G : Gh) (a : Act) (w : World) (T : List AObj), T[i]? = S[i]? → Wd G T w → (∀ x ∈ o.op.operands, Rep G (ρ x) (a.eval x)) → ∃ v', (execOp a.eval o).run P w = .ok (.value v') w ∧ Rep G v v')
    (hi : i < S.length) (hK : K v [i] [] []) : SND P o ρ S K := by
  refine ⟨v, [i], [], [], fun T ht _ G a w hw hr K Q hk => ?_, (fun p hp => by cases hp), (fun j hj => by simp at hj; subst hj; exact hi), hK⟩
  obtain ⟨v', hrun, hv⟩ := h G a w T (ht i (by simp)) hw hr
  unfold Oper.wp
  rw [hrun]
  exact hk v' w G hv (by simpa [newU] using Left.refl hw)

theorem snd_newobj {xs : List AV} (h : ∀ (G : Gh) (a : Act) (w : World) (T : List AObj), Wd G T w → (∀ x ∈ o.op.operands, Rep G (ρ x) (a.eval x)) → ∃ vs t w', (execOp a.eval o).run P w = .ok (.value (.pointer (some ⟨w.heap.size, 0, none⟩))) w' ∧ More w w' (.cells (List.toArray vs) t) ∧ RepL G xs vs ∧ ∀ v ∈ vs, v.oneCell' = true)
    (hK : K (.ref S.length 0) [] [] [.cells xs]) : SND P o ρ S K := by
  refine ⟨_, [], [], [.cells xs], fun T _ hd G a w hw hr K Q hk => ?_, (fun p hp => by cases hp), (fun i hi => by simp at hi), hK⟩
  obtain ⟨vs, t, w', hrun, hm, hx, ho⟩ := h G a w T hw hr
  unfold Oper.wp
  rw [hrun]
  have hid : T[S.length]? = some .dead := hd (S.length, .cells xs) (by simp [newU])
  have := Left.new hw hid hx ho hm
  refine hk _ w' _ ?_ (by simpa [newU] using this)
  exact .ref (by simp [Gh.newLoc])

theorem szO_some {P : Program} {t : TypeId} {n : Nat} (h : szO P t = some n) : ∃ i, P.info? t = some i ∧ i.size = n := by
  simpa [szO] using h
theorem zeroO_some {P : Program} {t : TypeId} {zs : List Value} (h : zeroO P t = some zs) : ∃ i z, P.info? t = some i ∧ i.zero = some z ∧ zs = z.cells.toList ∧ ∀ v ∈ zs, v.oneCell' = true := by
  unfold zeroO at h
  cases hi : P.info? t with
  | none => simp [hi] at h
  | some i =>
    cases hz : i.zero with
    | none => simp [hi, hz] at h
    | some z =>
      simp only [hi, hz, Option.bind_some] at h
      split at h
      · rename_i ho
        injection h with h; subst h
        exact ⟨i, z, rfl, hz, rfl, fun v hv => List.all_eq_true.1 ho v hv⟩
      · cases h
theorem aggO_none {P : Program} {t : TypeId} (h : aggO P t = some none) : ∃ d, P.underlying t = some d ∧ (∀ fs, d ≠ .struct fs) ∧ ∀ n e, d ≠ .array n e := by
  unfold aggO at h
  cases hu : P.underlying t with
  | none => simp [hu] at h
  | some d =>
    rw [hu] at h
    cases d with
    | struct fs => cases hs : szO P t <;> simp [hs] at h
    | array n e => cases hs : szO P t <;> simp [hs] at h
    | _ => exact ⟨_, rfl, by simp, by simp⟩
theorem aggO_agg {P : Program} {t : TypeId} {n : Nat} (h : aggO P t = some (some n)) : (∃ d, P.underlying t = some d ∧ ((∃ fs, d = .struct fs) ∨ ∃ m e, d = .array m e)) ∧ szO P t = some n := by
  unfold aggO at h
  cases hu : P.underlying t with
  | none => simp [hu] at h
  | some d =>
    rw [hu] at h
    cases d with
    | struct fs => simp at h; exact ⟨⟨_, rfl, .inl ⟨_, rfl⟩⟩, h⟩
    | array m e => simp at h; exact ⟨⟨_, rfl, .inr ⟨_, _, rfl⟩⟩, h⟩
    | _ => simp at h

theorem run_isAgg_no {P : Program} {t : TypeId} (h : aggO P t = some none) (w : World) : (isAgg t).run P w = .ok false w := by
  obtain ⟨d, hd, h1, h2⟩ := aggO_none h
  simp only [isAgg, underlying, Sem.run_bind, run_program, Result.andThen_ok, hd, Sem.run_pure]
theorem run_isAgg_yes {P : Program} {t : TypeId} {n : Nat} (h : aggO P t = some (some n)) (w : World) : (isAgg t).run P w = .ok true w := by
  obtain ⟨⟨d, hd, h1⟩, _⟩ := aggO_agg h
  simp only [isAgg, underlying, Sem.run_bind, run_program, Result.andThen_ok, hd, Sem.run_pure]
  rcases h1 with ⟨fs, rfl⟩ | ⟨m, e, rfl⟩ <;> rfl
theorem run_sizeO {P : Program} {t : TypeId} {n : Nat} (h : szO P t = some n) (w : World) : (sizeOf t).run P w = .ok n w := by
  obtain ⟨i, hi, rfl⟩ := szO_some h
  simp [sizeOf, typeInfo, hi]
theorem run_loadVar_one {P : Program} {t : TypeId} (h : aggO P t = some none) {w : World} {a : Addr} {v : Value} (hc : w.cell? a = some v) : (loadVar t a).run P w = .ok v w := by
  simp [loadVar, run_isAgg_no h, hc]
theorem run_loadVar_agg {P : Program} {t : TypeId} {n : Nat} (h : aggO P t = some (some n)) {w : World} {a : Addr} (f : Nat → Value) (hc : ∀ j, j < n → w.cell? (a.add j) = some (f j)) :
    (loadVar t a).run P w = .ok (.agg ((List.range n).map f).toArray) w := by
  obtain ⟨_, hs⟩ := aggO_agg h
  simp [loadVar, run_isAgg_yes h, run_sizeO hs, run_loadCells w a n f hc]
theorem rep_agg_range {G : Gh} {xs : List AV} {n : Nat} (f : Nat → Value) (hl : xs.length = n) (h1 : ∀ j, j < n → (f j).oneCell' = true) (h2 : ∀ (j : Nat) (x : AV), xs[j]? = some x → Rep G x (f j)) : Rep G (.agg xs) (.agg ((List.range n).map f).toArray) := by
  refine .agg (by simpa using hl) (fun j v hv => ?_) (fun j x v hx hv => ?_)
  · obtain ⟨q, hq, rfl⟩ := map_get (by simpa using hv : ((List.range n).map f)[j]? = some v)
    rw [List.getElem?_range (by rcases Nat.lt_or_ge j n with h | h; exact h; rw [List.getElem?_eq_none (by simpa using h)] at hq; cases hq)] at hq
    injection hq with hq; subst hq
    refine h1 j ?_
    rcases Nat.lt_or_ge j n with h | h
    · exact h
    · simp [show ¬ j < n by omega] at hv
  · have hj : j < n := by rw [← hl]; exact (List.getElem?_eq_some_iff.1 hx).1
    simp [hj] at hv; subst hv; exact h2 j x hx

/-- The cells of a row that may turn, where a pointer into it points. -/
theorem mref_at {G : Gh} {T : List AObj} {w : World} {j k m o : Nat} {xs : List AV} {v : Value} (h : Wd G T w) (hj : T[j]? = some (.mrow k m xs)) (r : Rep G (.mref j m o) v) (h0 : 0 < xs.length) :
    ∃ (b c : Nat) (cs : Array Value) (t : TypeId), v = .pointer (some ⟨b, o, none⟩) ∧ G.hist j m = some (.slice (some ⟨b, 0, none⟩) m c) ∧ m ≤ c ∧ c ≤ 9223372036854775807 ∧ 1 ≤ k ∧ xs.length = m * k ∧ w.heap[b]? = some (.cells cs t (0, 0)) ∧ cs.size = c * k ∧ xs.length ≤ cs.size ∧
      (∀ (i : Nat) (x : AV) (v : Value), xs[i]? = some x → cs[i]? = some v → v.oneCell' = true ∧ Rep G x v) ∧ blk G T j = some b := by
  obtain ⟨hk, hl, A, c, h1, h2, h3, h6, h4⟩ := h.mrow j k m xs hj
  have hm : 0 < m := by
    rcases Nat.eq_zero_or_pos m with e | e
    · subst e; omega
    · exact e
  obtain ⟨b, cs, t, e1, g2, g3, g4, g5⟩ := h4 (by omega)
  subst e1
  cases r with
  | mref hh =>
    rw [h1] at hh; injection hh with hh; injection hh with e1 _ e3; injection e1 with e1; injection e1 with e1; subst e1 e3
    have : m * k ≤ c * k := Nat.mul_le_mul_right _ h3
    exact ⟨_, c, cs, t, rfl, h1, h3, h6, hk, hl, g2, g3, by omega, g4, by simp [blk, hj, h1, show 0 < c by omega]⟩

theorem snd_load {t : TypeId} {x : Operand} (hop : o.op = .load t x) {n : Option Nat} (hn : aggO P t = some n) (h : kLoad n (ρ x) S K) : SND P o ρ S K := by
  unfold kLoad at h
  have hrun : ∀ (a : Act) (w : World) (v : Value) (ad : Addr), a.eval x = .pointer (some ad) → (loadVar t ad).run P w = .ok v w → (execOp a.eval o).run P w = .ok (.value v) w := by
    intro a w v ad ha hl
    simp [execOp, hop, Instr.loadAt, ha, Instr.sureAddr, hl]
  split at h
  · rename_i j g off hρ
    unfold kLoadM at h
    split at h
    · rename_i k m xs hS
      obtain ⟨rfl, h⟩ := h
      have rep : ∀ {G : Gh} {a : Act}, (∀ x ∈ o.op.operands, Rep G (ρ x) (a.eval x)) → Rep G (.mref j m off) (a.eval x) := fun {G a} hr => by
        have := hr x (by simp [hop, Op.operands]); rwa [hρ] at this
      split at h
      · split at h
        · rename_i y hy
          refine snd_read (fun G a w T hT hw hr => ?_) (List.getElem?_eq_some_iff.1 hS).1 h
          have hlt := (List.getElem?_eq_some_iff.1 hy).1
          obtain ⟨b, c, cs, t', ha, _, _, _, _, _, g2, _, g3, g4, _⟩ := mref_at hw (hT.trans hS) (rep hr) (by omega)
          have hc : cs[off]? = some cs[off] := Array.getElem?_eq_getElem (by omega)
          exact ⟨_, hrun a w _ _ ha (run_loadVar_one hn ((cell_at g2 off).trans hc)), (g4 off y _ hy hc).2⟩
        · exact h.elim
      · rename_i n
        obtain ⟨hn0, hle, hK⟩ := h
        refine snd_read (fun G a w T hT hw hr => ?_) (List.getElem?_eq_some_iff.1 hS).1 hK
        obtain ⟨b, c, cs, t', ha, _, _, _, _, _, g2, _, g3, g4, _⟩ := mref_at hw (hT.trans hS) (rep hr) (by omega)
        have hc : ∀ j, j < n → cs[off + j]? = some (cs.getD (off + j) undef) := fun j hj => by
          rw [Array.getElem?_eq_getElem (show off + j < cs.size by omega)]; simp [show off + j < cs.size by omega]
        refine ⟨_, hrun a w _ _ ha (run_loadVar_agg hn (fun j => cs.getD (off + j) undef) fun j hj => by rw [add_none]; exact (cell_at g2 _).trans (hc j hj)), rep_agg_range _ (by simp; omega) (fun j hj => ?_) fun j y hy => ?_⟩
        · exact (g4 (off + j) _ _ (List.getElem?_eq_getElem (show off + j < xs.length by omega)) (hc j hj)).1
        · have hjn : j < n := by
            rcases Nat.lt_or_ge j n with h | h
            · exact h
            · rw [List.getElem?_take, if_neg (by omega)] at hy; cases hy
          refine (g4 (off + j) y _ ?_ (hc j hjn)).2
          rw [List.getElem?_take, if_pos hjn, List.getElem?_drop] at hy; exact hy
    · exact h.elim
  · rename_i cs hρ
    have rep : ∀ {G : Gh} {a : Act}, (∀ x ∈ o.op.operands, Rep G (ρ x) (a.eval x)) → Rep G (.iptr cs) (a.eval x) := fun {G a} hr => by
      have := hr x (by simp [hop, Op.operands]); rwa [hρ] at this
    split at h
    · split at h
      · rename_i y ys
        refine snd_pure (fun G a w T hw hr => ?_) h
        have r := rep hr
        generalize ha : a.eval x = va at r
        cases r with
        | @iptr _ b off vs h1 h2 h3 =>
          have h0 := hw.imm _ _ _ (h1 0 (by simp))
          exact ⟨vs 0, hrun a w _ _ ha (run_loadVar_one hn (by simpa using h0)), h3 0 _ (by simp)⟩
      · exact h.elim
    · rename_i n
      obtain ⟨hle, hK⟩ := h
      refine snd_pure (fun G a w T hw hr => ?_) hK
      have r := rep hr
      generalize ha : a.eval x = va at r
      cases r with
      | @iptr _ b off vs h1 h2 h3 =>
        refine ⟨_, hrun a w _ _ ha (run_loadVar_agg hn vs fun j hj => by rw [add_none]; exact hw.imm _ _ _ (h1 j (by omega))), rep_agg_range vs (by simp; omega) (fun j hj => h2 j (by omega)) fun j y hy => h3 j y ?_⟩
        rw [List.getElem?_take] at hy; split at hy <;> simp_all
  · rename_i i off hρ
    have rep : ∀ {G : Gh} {a : Act}, (∀ x ∈ o.op.operands, Rep G (ρ x) (a.eval x)) → Rep G (.ref i off) (a.eval x) := fun {G a} hr => by
      have := hr x (by simp [hop, Op.operands]); rwa [hρ] at this
    split at h
    · rename_i xs hS
      split at h
      · split at h
        · rename_i y hy
          refine snd_read (fun G a w T hT hw hr => ?_) (List.getElem?_eq_some_iff.1 hS).1 h
          have r := rep hr
          generalize ha : a.eval x = va at r
          cases r with
          | @ref _ _ b hb =>
            obtain ⟨b', cs, t', g1, g2, g3, g4, _⟩ := hw.obj i xs (hT.trans hS)
            rw [hb] at g1; injection g1 with g1; subst g1
            have hlt : off < cs.size := by rw [g3]; exact (List.getElem?_eq_some_iff.1 hy).1
            have hc : cs[off]? = some cs[off] := Array.getElem?_eq_getElem hlt
            exact ⟨_, hrun a w _ _ ha (run_loadVar_one hn ((cell_at g2 off).trans hc)), (g4 off y _ hy hc).2⟩
        · exact h.elim
      · rename_i n
        obtain ⟨hle, hK⟩ := h
        refine snd_read (fun G a w T hT hw hr => ?_) (List.getElem?_eq_some_iff.1 hS).1 hK
        have r := rep hr
        generalize ha : a.eval x = va at r
        cases r with
        | @ref _ _ b hb =>
          obtain ⟨b', cs, t', g1, g2, g3, g4, _⟩ := hw.obj i xs (hT.trans hS)
          rw [hb] at g1; injection g1 with g1; subst g1
          have hc : ∀ j, j < n → cs[off + j]? = some (cs.getD (off + j) undef) := fun j hj => by
            rw [Array.getElem?_eq_getElem (show off + j < cs.size by omega)]; simp [show off + j < cs.size by omega]
          refine ⟨_, hrun a w _ _ ha (run_loadVar_agg hn (fun j => cs.getD (off + j) undef) fun j hj => by rw [add_none]; exact (cell_at g2 _).trans (hc j hj)), rep_agg_range _ (by simp; omega) (fun j hj => ?_) fun j y hy => ?_⟩
          · exact (g4 (off + j) _ _ (List.getElem?_eq_getElem (show off + j < xs.length by omega)) (hc j hj)).1
          · have hjn : j < n := by
              rcases Nat.lt_or_ge j n with h | h
              · exact h
              · rw [List.getElem?_take, if_neg (by omega)] at hy; cases hy
            refine (g4 (off + j) y _ ?_ (hc j hjn)).2
            rw [List.getElem?_take, if_pos hjn, List.getElem?_drop] at hy; exact hy
    · exact h.elim
  · exact h.elim

end
end Go.Proofs.Ytnfagphepkeedaa
end
section
namespace Go.Proofs.Ytnfagphepkeedaa

section
variable {P : Program} {o : Oper} {ρ : Operand → AV} {S : List AObj} {K : KT}

theorem snd_mov {x : Operand} (hop : o.op = .move x ∨ o.op = .assign x) (h : K (ρ x) [] [] []) : SND P o ρ S K :=
  snd_pure (fun G a w T _ hr => by
    rcases hop with hop | hop
    · exact ⟨_, by simp [execOp, hop], hr x (by simp [hop, Op.operands])⟩
    · exact ⟨_, by simp [execOp, hop], hr x (by simp [hop, Op.operands])⟩) h

theorem rep_bool {G : Gh} {b : Bool} {v : Value} (h : Rep G (.lit (.bool b)) v) : v = .bool b := by cases h; rfl
theorem rep_lit {G : Gh} {u v : Value} (h : Rep G (.lit u) v) : v = u := by cases h; rfl

theorem snd_pick {c x y : Operand} (hop : o.op = .pick c x y) (h : kPick (ρ c) (ρ x) (ρ y) K) : SND P o ρ S K := by
  unfold kPick at h
  split at h
  · rename_i t hc
    refine snd_pure (fun G a w T _ hr => ?_) h
    have rc := hr c (by simp [hop, Op.operands])
    have rx := hr x (by simp [hop, Op.operands])
    have ry := hr y (by simp [hop, Op.operands])
    rw [hc] at rc
    refine ⟨if t then a.eval x else a.eval y, by simp [execOp, hop, rep_bool rc, asBool], ?_⟩
    cases t <;> simpa
  · exact h.elim

theorem snd_new {e : TypeId} (hop : o.op = .alloc e) {zs : List Value} (hz : zeroO P e = some zs) (h : K (.ref S.length 0) [] [] [.cells (zs.map AV.ofC1)]) : SND P o ρ S K := by
  obtain ⟨i, z, hi, hz0, rfl, ho⟩ := zeroO_some hz
  refine snd_newobj (fun G a w T _ hr => ⟨z.cells.toList, e, w.alloc (.cells z.cells.toList.toArray e), ?_, More.alloc _ _, ⟨by simp, fun j x v hx hv => ?_⟩, ho⟩) h
  · simp [execOp, hop, Instr.alloc, zeroValue, typeInfo, hi, hz0, newVar, newRow]
  · obtain ⟨y, hy, rfl⟩ := map_get hx
    rw [hv] at hy; injection hy with hy; subst hy
    exact rep_ofC1 G v

theorem snd_box {e : TypeId} {x : Operand} (hop : o.op = .box e x) (h : kBox (ρ x) S.length K) : SND P o ρ S K := by
  unfold kBox at h
  split at h
  · rename_i cs hc
    refine snd_newobj (fun G a w T _ hr => ?_) h
    obtain ⟨_, h2, h3⟩ := (hr x (by simp [hop, Op.operands])).parts hc
    refine ⟨_, e, w.alloc (.cells (a.eval x).cells.toList.toArray e), ?_, More.alloc _ _, h2, h3⟩
    simp [execOp, hop, Instr.box, newVar, newRow]
  · exact h.elim

theorem splice_length (xs : List AV) (o : Nat) (cs : List AV) : (splice xs o cs).length = xs.length := by
  induction cs generalizing xs o with
  | nil => rfl
  | cons c cs ih => rw [splice, ih]; simp
theorem splice_get (xs : List AV) (o : Nat) (cs : List AV) (h : o + cs.length ≤ xs.length) (j : Nat) : (splice xs o cs)[j]? = if o ≤ j ∧ j < o + cs.length then cs[j - o]? else xs[j]? := by
  induction cs generalizing xs o with
  | nil => rw [splice, if_neg (by simp)]
  | cons c cs ih =>
    simp only [List.length_cons] at h ⊢
    rw [splice, ih _ _ (by simp; omega)]
    by_cases h1 : o + 1 ≤ j ∧ j < o + 1 + cs.length
    · rw [if_pos h1, if_pos (by omega), show j - o = (j - (o + 1)) + 1 by omega]; simp
    · rw [if_neg h1]
      by_cases h2 : j = o
      · subst h2; rw [if_pos (by omega)]; simp [show j < xs.length by omega]
      · rw [if_neg (by omega), List.getElem?_set_ne (Ne.symm h2)]

theorem turn_setRow {w : World} {b : Nat} {cs cs' : Array Value} {t : TypeId} (h : w.heap[b]? = some (.cells cs t (0, 0))) : Turn w (w.setRow b cs') b (.cells cs' t (0, 0)) :=
  ⟨rfl, rfl, rfl, by simp, fun i hi => setRow_other w b i cs' hi, setRow_heap w b cs cs' t _ h⟩

/-- Cells that are written over others. -/
theorem over_get {xs cs : List AV} {us : List Value} {cur : Array Value} {off : Nat} {G : Gh} (hu : RepL G cs us) (h3 : ∀ u ∈ us, u.oneCell' = true) (hle : off + cs.length ≤ xs.length) (hc : xs.length ≤ cur.size)
    (g4 : ∀ (i : Nat) (x : AV) (v : Value), xs[i]? = some x → cur[i]? = some v → v.oneCell' = true ∧ Rep G x v) (k : Nat) (x : AV) (v : Value) (hx : (splice xs off cs)[k]? = some x)
    (hv : (cur.toList.take off ++ us ++ cur.toList.drop (off + us.length)).toArray[k]? = some v) : v.oneCell' = true ∧ Rep G x v := by
  have hl := hu.1
  rw [splice_get xs off cs (by omega)] at hx
  simp only [List.getElem?_toArray] at hv
  by_cases hk1 : off ≤ k ∧ k < off + cs.length
  · rw [if_pos hk1] at hx
    rw [List.append_assoc, List.getElem?_append_right (by simp; omega), List.getElem?_append_left (by simp; omega)] at hv
    have hq : (List.take off cur.toList).length = off := by simp; omega
    rw [hq] at hv
    exact ⟨h3 v (List.mem_of_getElem? hv), hu.2 _ x v hx hv⟩
  · rw [if_neg hk1] at hx
    refine g4 k x v hx ?_
    by_cases hk2 : k < off
    · rw [List.append_assoc, List.getElem?_append_left (by simp; omega), List.getElem?_take, if_pos hk2] at hv
      simpa using hv
    · rw [List.getElem?_append_right (by simp; omega), List.getElem?_drop] at hv
      rw [← hv]
      simp only [List.length_append, List.length_take, Array.length_toList]
      rw [Array.getElem?_toList]
      congr 1
      omega
theorem Turn.own {w w' : World} {b : Nat} {o : Obj} {G : Gh} {T : List AObj} {j : Nat} (h : Turn w w' b o) (hb : blk G T j = some b) : Kept (fun b => blk G T j ≠ some b) w w' := h.kept fun hn => hn hb

theorem snd_store {t : TypeId} {x y : Operand} (hop : o.op = .store t x y) {n : Nat} (hn : szO P t = some n) (h : kStore n (ρ x) (ρ y) S K) : SND P o ρ S K := by
  unfold kStore at h
  split at h
  · rename_i j g off hx
    unfold kStoreM at h
    split at h
    · rename_i k m xs hS
      split at h
      · rename_i cs hcs
        obtain ⟨rfl, hn0, hl, hle, hK⟩ := h
        refine ⟨_, [j], [(j, _)], [], fun T hT _ G a w hw hr Kc Q hk => ?_, by simp, (fun i hi => by simp at hi; subst hi; exact (List.getElem?_eq_some_iff.1 hS).1), hK⟩
        have hTj : T[j]? = some (.mrow k m xs) := (hT j (by simp)).trans hS
        have rx := hr x (by simp [hop, Op.operands])
        have ry := hr y (by simp [hop, Op.operands])
        rw [hx] at rx
        obtain ⟨_, h2, h3⟩ := ry.parts hcs
        obtain ⟨b, c, cur, t', ha, hh, hmc, h6, hk1, hxl, g2, gs, g3, g4, hb⟩ := mref_at hw hTj rx (by omega)
        generalize hbv : a.eval y = vb at h2 h3
        have hlen : vb.cells.toList.length = n := by rw [← h2.1, hl]
        have hst := run_storeCells_at P b off t' vb.cells.toList 0 cur w g2 (by rw [hlen]; omega) h3
        simp only [Nat.add_zero] at hst
        have hsz : vb.cells.size = n := by simpa using hlen
        have hrun : (execOp a.eval o).run P w = .ok .skip (w.setRow b (cur.toList.take off ++ vb.cells.toList ++ cur.toList.drop (off + vb.cells.toList.length)).toArray) := by
          simp only [execOp, hop, Instr.storeAt, ha, hbv, Instr.sureAddr, storeVar, Sem.run_bind, Sem.run_pure, Result.andThen_ok, run_sizeO hn, hsz, ne_eq, not_true, if_false, hst]
        unfold Oper.wp
        rw [hrun]
        have htn := turn_setRow (cs' := (cur.toList.take off ++ vb.cells.toList ++ cur.toList.drop (off + vb.cells.toList.length)).toArray) g2
        have := Left.mrowTo (xs := splice xs off cs) hw (.inr ⟨m, xs, hTj, .inr ⟨rfl, hh⟩⟩) hk1 (by rw [splice_length]; exact hxl) hmc h6 (htn.own hb)
          (fun _ => ⟨b, _, t', rfl, htn.here, by simp; omega, fun i x v hx hv => over_get h2 h3 (by omega) g3 g4 i x v hx hv, .inr hb⟩)
        exact hk undef _ _ (.any _) (by simpa [newU] using this)
      · exact h.elim
    · exact h.elim
  · rename_i i off hx
    split at h
    · rename_i xs hS
      split at h
      · rename_i cs hcs
        obtain ⟨hl, hle, hK⟩ := h
        refine ⟨_, [i], [(i, _)], [], fun T hT _ G a w hw hr Kc Q hk => ?_, by simp, (fun j hj => by simp at hj; subst hj; exact (List.getElem?_eq_some_iff.1 hS).1), hK⟩
        have hTi : T[i]? = some (.cells xs) := (hT i (by simp)).trans hS
        have rx := hr x (by simp [hop, Op.operands])
        have ry := hr y (by simp [hop, Op.operands])
        rw [hx] at rx
        obtain ⟨_, h2, h3⟩ := ry.parts hcs
        generalize ha : a.eval x = va at rx
        generalize hb : a.eval y = vb at h2 h3
        cases rx with
        | @ref _ _ b hloc =>
          obtain ⟨b', cur, t', g1, g2, g3, g4, _⟩ := hw.obj i xs hTi
          rw [hloc] at g1; injection g1 with g1; subst g1
          have hlen : vb.cells.toList.length = n := by rw [← h2.1, hl]
          have hst := run_storeCells_at P b off t' vb.cells.toList 0 cur w g2 (by rw [hlen]; omega) h3
          simp only [Nat.add_zero] at hst
          have hsz : vb.cells.size = n := by simpa using hlen
          have hrun : (execOp a.eval o).run P w = .ok .skip (w.setRow b (cur.toList.take off ++ vb.cells.toList ++ cur.toList.drop (off + vb.cells.toList.length)).toArray) := by
            simp only [execOp, hop, Instr.storeAt, ha, hb, Instr.sureAddr, storeVar, Sem.run_bind, Sem.run_pure, Result.andThen_ok, run_sizeO hn, hsz, ne_eq, not_true, if_false, hst]
          unfold Oper.wp
          rw [hrun]
          refine hk undef _ G (.any _) ?_
          have hcl : cur.size = xs.length := g3
          have := Left.turn (xs' := splice xs off cs) hw hTi hloc (turn_setRow g2) (by simp [splice_length]; omega) (w' := w.setRow b (cur.toList.take off ++ vb.cells.toList ++ cur.toList.drop (off + vb.cells.toList.length)).toArray) (fun k u v hu hv => by
            rw [splice_get xs off cs (by omega)] at hu
            simp only [List.getElem?_toArray] at hv
            by_cases hk1 : off ≤ k ∧ k < off + cs.length
            · rw [if_pos hk1] at hu
              rw [List.append_assoc, List.getElem?_append_right (by simp; omega), List.getElem?_append_left (by simp; omega)] at hv
              have hq : (List.take off cur.toList).length = off := by simp; omega
              rw [hq] at hv
              exact ⟨h3 v (List.mem_of_getElem? hv), h2.2 _ u v hu hv⟩
            · rw [if_neg hk1] at hu
              refine g4 k u v hu ?_
              by_cases hk2 : k < off
              · rw [List.append_assoc, List.getElem?_append_left (by simp; omega), List.getElem?_take, if_pos hk2] at hv
                simpa using hv
              · rw [List.getElem?_append_right (by simp; omega), List.getElem?_drop] at hv
                rw [← hv]
                simp only [List.length_append, List.length_take, Array.length_toList]
                rw [Array.getElem?_toList]
                congr 1
                omega)
          simpa [newU] using this
      · exact h.elim
    · exact h.elim
  · exact h.elim

theorem snd_nil {x : Operand} (hop : o.op = .nilCheck x) (h : kNil (ρ x) K) : SND P o ρ S K := by
  unfold kNil at h
  split at h
  · rename_i i off hx
    refine snd_pure (fun G a w T _ hr => ?_) h
    have r := hr x (by simp [hop, Op.operands])
    rw [hx] at r
    refine ⟨a.eval x, ?_, r⟩
    generalize ha : a.eval x = va at r
    cases r
    simp [execOp, hop, ha]
  · rename_i cs hx
    refine snd_pure (fun G a w T _ hr => ?_) h
    have r := hr x (by simp [hop, Op.operands])
    rw [hx] at r
    refine ⟨a.eval x, ?_, r⟩
    generalize ha : a.eval x = va at r
    cases r
    simp [execOp, hop, ha]
  · rename_i j g off hx
    refine snd_pure (fun G a w T _ hr => ?_) h
    have r := hr x (by simp [hop, Op.operands])
    rw [hx] at r
    refine ⟨a.eval x, ?_, r⟩
    generalize ha : a.eval x = va at r
    cases r
    simp [execOp, hop, ha]
  · exact h.elim

theorem snd_bin {op : BinOp} {t t' : TypeId} {x y : Operand} (hop : o.op = .binOp op t x y t') (h : kBin op (ρ x) (ρ y) K) : SND P o ρ S K := by
  unfold kBin at h
  split at h
  · rename_i k n k' m hx hy
    have key : ∀ {v : Value}, (∀ (a : Act) (w : World), a.eval x = .int k n → a.eval y = .int k' m → (execOp a.eval o).run P w = .ok (.value v) w) → K (.lit v) [] [] [] → SND P o ρ S K := by
      intro v hv hK
      refine snd_pure (fun G a w T _ hr => ⟨v, ?_, .lit v⟩) hK
      have rx := hr x (by simp [hop, Op.operands])
      have ry := hr y (by simp [hop, Op.operands])
      rw [hx] at rx; rw [hy] at ry
      exact hv a w (rep_lit rx) (rep_lit ry)
    cases op <;> simp only [kInt] at h
    case quo => obtain ⟨rfl, h0, h⟩ := h; exact key (fun a w e1 e2 => by simp [execOp, hop, e1, e2, eqGuard, binOp, Op.intDiv, h0]) h
    case rem => obtain ⟨rfl, h0, h⟩ := h; exact key (fun a w e1 e2 => by simp [execOp, hop, e1, e2, eqGuard, binOp, Op.intDiv, h0]) h
    case shl => obtain ⟨h0, h⟩ := h; exact key (fun a w e1 e2 => by simp [execOp, hop, e1, e2, eqGuard, binOp, Op.shift, show ¬ m < 0 by omega]) h
    case shr => obtain ⟨h0, h⟩ := h; exact key (fun a w e1 e2 => by simp [execOp, hop, e1, e2, eqGuard, binOp, Op.shift, show ¬ m < 0 by omega]) h
    all_goals
      obtain ⟨rfl, h⟩ := h
      exact key (fun a w e1 e2 => by simp [execOp, hop, e1, e2, eqGuard, binOp, Op.intArith, Op.intBits, Op.intCmp, bitsI]) h
  · rename_i s u hx hy
    have key : ∀ {v : Value}, (∀ (a : Act) (w : World), a.eval x = .string s → a.eval y = .string u → (execOp a.eval o).run P w = .ok (.value v) w) → K (.lit v) [] [] [] → SND P o ρ S K := by
      intro v hv hK
      refine snd_pure (fun G a w T _ hr => ⟨v, ?_, .lit v⟩) hK
      have rx := hr x (by simp [hop, Op.operands])
      have ry := hr y (by simp [hop, Op.operands])
      rw [hx] at rx; rw [hy] at ry
      exact hv a w (rep_lit rx) (rep_lit ry)
    cases op <;> simp only [kStr] at h
    case eql => exact key (fun a w e1 e2 => by simp [execOp, hop, e1, e2, eqGuard, binOp, Op.stringOp]) h
    case neq => exact key (fun a w e1 e2 => by simp [execOp, hop, e1, e2, eqGuard, binOp, Op.stringOp]) h
  · exact h.elim

theorem run_equal_bool {t : TypeId} (ht : P.underlying t = some .bool) (a b : Bool) (w : World) : (Op.equal t (.bool a) (.bool b)).run P w = .ok (a == b) w := by
  have : ∀ d, (Op.equalIn (d + 1) t (.bool a) (.bool b)).run P w = .ok (a == b) w := fun d => by simp [Op.equalIn, run_underlying ht]
  exact this 9999
theorem snd_eqb {op : BinOp} {t t' : TypeId} {x y : Operand} {neg : Bool} (hop : o.op = .binOp op t x y t') (ht : P.underlying t = some .bool) (hn : op = if neg then .neq else .eql) (h : kEqb neg (ρ x) (ρ y) K) : SND P o ρ S K := by
  unfold kEqb at h
  split at h
  · rename_i p q hx hy
    refine snd_pure (fun G a w T _ hr => ⟨_, ?_, .lit _⟩) h
    have rx := hr x (by simp [hop, Op.operands])
    have ry := hr y (by simp [hop, Op.operands])
    rw [hx] at rx; rw [hy] at ry
    have e1 := rep_lit rx
    have e2 := rep_lit ry
    cases neg <;> simp at hn <;> subst hn <;> simp [execOp, hop, e1, e2, eqGuard, binOp, run_equal_bool ht]
  · exact h.elim

theorem snd_eqp {op : BinOp} {t t' e : TypeId} {x y : Operand} {neg : Bool} (hop : o.op = .binOp op t x y t') (ht : P.underlying t = some (.pointer e)) (hn : op = if neg then .neq else .eql) (h : kEqp neg (ρ x) (ρ y) K) : SND P o ρ S K := by
  have heq : ∀ (p : Option Addr) (w : World), (Op.equal t (.pointer p) (.pointer none)).run P w = .ok p.isNone w := by
    intro p w
    have : ∀ d, (Op.equalIn (d + 1) t (.pointer p) (.pointer none)).run P w = .ok p.isNone w := fun d => by cases p <;> simp [Op.equalIn, run_underlying ht]
    exact this 9999
  unfold kEqp at h
  split at h
  · rename_i i off hx hy
    refine snd_pure (fun G a w T _ hr => ⟨_, ?_, .lit _⟩) h
    have rx := hr x (by simp [hop, Op.operands])
    have ry := hr y (by simp [hop, Op.operands])
    rw [hx] at rx; rw [hy] at ry
    have e2 := rep_lit ry
    generalize e1 : a.eval x = vx at rx
    cases rx
    cases neg <;> simp at hn <;> subst hn <;> simp [execOp, hop, e1, e2, eqGuard, binOp, heq]
  · rename_i hx hy
    refine snd_pure (fun G a w T _ hr => ⟨_, ?_, .lit _⟩) h
    have rx := hr x (by simp [hop, Op.operands])
    have ry := hr y (by simp [hop, Op.operands])
    rw [hx] at rx; rw [hy] at ry
    have e1 := rep_lit rx
    have e2 := rep_lit ry
    cases neg <;> simp at hn <;> subst hn <;> simp [execOp, hop, e1, e2, eqGuard, binOp, heq]
  · exact h.elim

theorem snd_un {op : UnOp} {t : TypeId} {x : Operand} (hop : o.op = .unOp op t x) (h : kUn op (ρ x) K) : SND P o ρ S K := by
  unfold kUn at h
  split at h
  · rename_i k n hx
    refine snd_pure (fun G a w T _ hr => ⟨_, ?_, .lit _⟩) h
    have rx := hr x (by simp [hop, Op.operands])
    rw [hx] at rx
    simp [execOp, hop, rep_lit rx, Op.unary, Op.intArith]
  · rename_i k n hx
    refine snd_pure (fun G a w T _ hr => ⟨_, ?_, .lit _⟩) h
    have rx := hr x (by simp [hop, Op.operands])
    rw [hx] at rx
    simp [execOp, hop, rep_lit rx, Op.unary, Op.intBits, bitsI]
  · rename_i b hx
    refine snd_pure (fun G a w T _ hr => ⟨_, ?_, .lit _⟩) h
    have rx := hr x (by simp [hop, Op.operands])
    rw [hx] at rx
    simp [execOp, hop, rep_lit rx, Op.unary]
  · exact h.elim

theorem snd_cvt {src dst : TypeId} {x : Operand} {k k0 : IntKind} (hop : o.op = .convert src dst x) (hs : P.underlying src = some (.int k0)) (hd : P.underlying dst = some (.int k)) (h : kCvt k (ρ x) K) : SND P o ρ S K := by
  unfold kCvt at h
  split at h
  · rename_i k' n hx
    refine snd_pure (fun G a w T _ hr => ⟨_, ?_, .lit _⟩) h
    have rx := hr x (by simp [hop, Op.operands])
    rw [hx] at rx
    simp [execOp, hop, rep_lit rx, convert, run_underlying hs, run_underlying hd, Conv.intToInt]
  · exact h.elim

theorem snd_ext {x : Operand} {i : Nat} (hop : o.op = .extract x i) (h : kExt (ρ x) i K) : SND P o ρ S K := by
  unfold kExt at h
  split at h
  · rename_i xs hx
    split at h
    · rename_i y hy
      refine snd_pure (fun G a w T _ hr => ?_) h
      have r := hr x (by simp [hop, Op.operands])
      rw [hx] at r
      generalize ha : a.eval x = va at r
      cases r with
      | @tup _ vs h0 h3 =>
        have hlt : i < vs.size := by rw [← h0]; exact (List.getElem?_eq_some_iff.1 hy).1
        have hv : vs[i]? = some vs[i] := Array.getElem?_eq_getElem hlt
        exact ⟨vs[i], by simp [execOp, hop, ha, Instr.extract, hv], h3 i y _ hy hv⟩
    · exact h.elim
  · exact h.elim

theorem snd_mx {isMax : Bool} {_t : TypeId} {x y : Operand} {c : Call} (hop : o.op = .call c) (hcal : c.callee = .builtin (if isMax then .max else .min)) (ha : c.args.toList = [x, y]) (h : kMx isMax (ρ x) (ρ y) K) : SND P o ρ S K := by
  unfold kMx at h
  split at h
  · rename_i k n k' m hx hy
    refine snd_pure (fun G a w T _ hr => ⟨_, ?_, .lit _⟩) h
    have hargs : c.args = #[x, y] := by rw [← ha]
    have rx := hr x (by simp [hop, Op.operands, Call.operands, hargs])
    have ry := hr y (by simp [hop, Op.operands, Call.operands, hargs])
    rw [hx] at rx; rw [hy] at ry
    have e1 := rep_lit rx
    have e2 := rep_lit ry
    cases isMax <;> simp [execOp, hop, resolve, hcal, hargs, invoke, builtin, Builtin.max_, Builtin.min_, Builtin.max2, Builtin.min2, e1, e2]
  · exact h.elim

theorem snd_mkf {f : FuncId} {fs cs : Array Operand} (hop : o.op = .makeFunc (.func f) fs cs) (h : K (.fn f (fs.toList.map ρ) (cs.toList.map ρ)) [] [] []) : SND P o ρ S K := by
  refine snd_pure (fun G a w T _ hr => ⟨.func (.func f) (fs.map a.eval) (cs.map a.eval), by simp [execOp, hop, Instr.makeFunc], ?_⟩) h
  refine .fn (by simp) (by simp) (fun j x v hx hv => ?_) (fun j x v hx hv => ?_)
  · obtain ⟨y, hy, rfl⟩ := map_get hx
    have hy' : fs[j]? = some y := by simpa using hy
    have : v = a.eval y := by simpa [hy'] using hv.symm
    subst this
    exact hr y (by simp [hop, Op.operands]; left; exact Array.mem_of_getElem? hy')
  · obtain ⟨y, hy, rfl⟩ := map_get hx
    have hy' : cs[j]? = some y := by simpa using hy
    have : v = a.eval y := by simpa [hy'] using hv.symm
    subst this
    exact hr y (by simp [hop, Op.operands]; right; exact Array.mem_of_getElem? hy')

theorem snd_len {x : Operand} {t e : TypeId} {c : Call} (hop : o.op = .call c) (hcal : c.callee = .builtin .len) (ha : c.args.toList = [x]) (hat : c.argTypes.toList = [t]) (ht : P.underlying t = some (.slice e)) (h : kLen false (ρ x) K) : SND P o ρ S K := by
  have hargs : c.args = #[x] := by rw [← ha]
  have hats : c.argTypes = #[t] := by rw [← hat]
  unfold kLen at h
  split at h
  · rename_i tg k xs _ hx
    refine snd_pure (fun G a w T _ hr => ⟨_, ?_, .lit _⟩) h
    have rx := hr x (by simp [hop, Op.operands, Call.operands, hargs])
    rw [hx] at rx
    generalize e1 : a.eval x = vx at rx
    cases rx with
    | sl => simp [execOp, hop, resolve, hcal, hargs, hats, invoke, builtin, Builtin.len_, e1, run_underlying ht, goInt]
  · rename_i j g _ hx
    refine snd_pure (fun G a w T _ hr => ⟨_, ?_, .lit _⟩) h
    have rx := hr x (by simp [hop, Op.operands, Call.operands, hargs])
    rw [hx] at rx
    generalize e1 : a.eval x = vx at rx
    cases rx with
    | ms => simp [execOp, hop, resolve, hcal, hargs, hats, invoke, builtin, Builtin.len_, e1, run_underlying ht, goInt]
  · rename_i hc _; cases hc
  · exact h.elim
theorem snd_lens {x : Operand} {t : TypeId} {c : Call} (hop : o.op = .call c) (hcal : c.callee = .builtin .len) (ha : c.args.toList = [x]) (hat : c.argTypes.toList = [t]) (ht : P.underlying t = some .string) (h : kLen true (ρ x) K) : SND P o ρ S K := by
  have hargs : c.args = #[x] := by rw [← ha]
  have hats : c.argTypes = #[t] := by rw [← hat]
  unfold kLen at h
  split at h
  · rename_i hc _; cases hc
  · rename_i hc _; cases hc
  · rename_i s _ hx
    refine snd_pure (fun G a w T _ hr => ⟨_, ?_, .lit _⟩) h
    have rx := hr x (by simp [hop, Op.operands, Call.operands, hargs])
    rw [hx] at rx
    have e1 := rep_lit rx
    simp [execOp, hop, resolve, hcal, hargs, hats, invoke, builtin, Builtin.len_, e1, run_underlying ht, goInt]
  · exact h.elim

theorem snd_lenc {t e : TypeId} {n : Nat} {x : Operand} {c : Call} (hop : o.op = .call c) (hcal : c.callee = .builtin .len) (ha : c.args.toList = [x]) (hat : c.argTypes.toList = [t]) (ht : P.underlying t = some (.array n e)) (h : K (.lit (.int .i64 n)) [] [] []) : SND P o ρ S K := by
  have hargs : c.args = #[x] := by rw [← ha]
  have hats : c.argTypes = #[t] := by rw [← hat]
  refine snd_pure (fun G a w T _ hr => ⟨_, ?_, .lit _⟩) h
  simp [execOp, hop, resolve, hcal, hargs, hats, invoke, builtin, Builtin.len_, run_underlying ht, goInt]

end
end Go.Proofs.Ytnfagphepkeedaa
end
section
namespace Go.Proofs.Ytnfagphepkeedaa

section
variable {P : Program} {o : Oper} {ρ : Operand → AV} {S : List AObj} {K : KT}

theorem run_bounds (P : Program) (w : World) (isS : Bool) (len cap : Nat) (lo hi mx : Option Value) (l h m : Int) (hlo : lo = none ∧ l = 0 ∨ ∃ k, lo = some (.int k l)) (hhi : hi = none ∧ mx = none ∧ h = len ∨ ∃ k, hi = some (.int k h))
    (hmx : mx = none ∧ m = cap ∨ ∃ k, mx = some (.int k m)) (h0 : 0 ≤ l) (h1 : l ≤ h) (h2 : h ≤ m) (h3 : m ≤ cap) (h4 : mx = none → h ≤ cap) : (Instr.sliceBounds isS len cap lo hi mx).run P w = .ok (l.toNat, h.toNat, m.toNat) w := by
  have b : ∀ (k : IntKind) (i : Int) (y : Nat) (c : BoundsCode), 0 ≤ i → i ≤ y → (Instr.sliceBound (.int k i) y c).run P w = .ok i.toNat w := fun k i y c e1 e2 => run_sliceBound w k i y c e1 e2
  rcases hmx with ⟨rfl, rfl⟩ | ⟨km, rfl⟩
  · rcases hhi with ⟨rfl, _, rfl⟩ | ⟨kh, rfl⟩ <;> rcases hlo with ⟨rfl, rfl⟩ | ⟨kl, rfl⟩
    · simp [Instr.sliceBounds]
    · simp [Instr.sliceBounds, b kl l len _ h0 h1]
    · simp [Instr.sliceBounds, b kh h cap _ (by omega) h2]
    · simp [Instr.sliceBounds, b kh h cap _ (by omega) h2, b kl l h.toNat _ h0 (by omega)]
  · rcases hhi with ⟨_, e, _⟩ | ⟨kh, rfl⟩
    · cases e
    · rcases hlo with ⟨rfl, rfl⟩ | ⟨kl, rfl⟩
      · simp [Instr.sliceBounds, b km m cap _ (by omega) h3, b kh h m.toNat _ (by omega) (by omega)]
      · simp [Instr.sliceBounds, b km m cap _ (by omega) h3, b kh h m.toNat _ (by omega) (by omega), b kl l h.toNat _ h0 (by omega)]

theorem bnd_some {G : Gh} {a : Act} {x : Option Operand} {d l : Int} (h : bnd (x.map ρ) d = some l) (hr : ∀ y, x = some y → Rep G (ρ y) (a.eval y)) : x.map a.eval = none ∧ x = none ∧ l = d ∨ ∃ k, x.map a.eval = some (.int k l) ∧ x.isSome = true := by
  cases x with
  | none => left; simp [bnd] at h; exact ⟨rfl, rfl, h.symm⟩
  | some y =>
    right
    simp only [Option.map_some, bnd] at h
    have r := hr y rfl
    cases hy : ρ y with
    | lit v =>
      rw [hy] at h r
      cases v <;> simp [AV.i] at h
      subst h
      exact ⟨_, by rw [Option.map_some, rep_lit r], rfl⟩
    | _ => rw [hy] at h; simp [AV.i] at h

theorem rep_part {G : Gh} {t : Tag} {k : Nat} {xs : List AV} {A : Option Addr} {n c : Nat} (r : Rep G (.sl t k xs) (.slice A n c)) (l h m : Nat) (s : Nat) (hs : k = s ∨ xs = []) (h1 : l ≤ h) (h2 : h ≤ xs.length) (h3 : h ≤ m) :
    Rep G (.sl .none k ((xs.drop l).take (h - l))) (.slice (if m = l then A else A.map (·.add (l * s))) (h - l) (m - l)) ∧ n = xs.length := by
  cases r with
  | @sl _ _ _ _ _ b o vs hc hA hk g1 g2 g3 ht =>
    refine ⟨?_, rfl⟩
    have hlen : ((xs.drop l).take (h - l)).length = h - l := by simp; omega
    have hget : ∀ {i : Nat} {x : AV}, ((xs.drop l).take (h - l))[i]? = some x → xs[l + i]? = some x := fun {i x} e => by
      rw [List.getElem?_take] at e
      split at e
      · rwa [List.getElem?_drop] at e
      · cases e
    have := Rep.sl (G := G) (t := .none) (k := k) (xs := (xs.drop l).take (h - l)) (A := if m = l then A else A.map (·.add (l * s))) (c := m - l) (b := b) (o := o + l * k) (fun i j => vs (l + i) j) (by omega)
      (fun hp => by
        rw [hlen] at hp
        rw [if_neg (by omega), hA (by omega)]
        simp only [Option.map_some, Option.some.injEq]
        rcases hs with rfl | hs
        · exact add_none _ _ _
        · subst hs; simp at h2; omega)
      (fun i x hx => hk _ x (hget hx)) (fun i j hi hj => by rw [← g1 (l + i) j (by omega) hj, Nat.add_mul]; congr 1; omega) (fun i j hi hj => g2 _ j (by omega) hj) (fun i j x y hx hy => g3 _ j x y (hget hx) hy) trivial
    rwa [hlen] at this

theorem Rep.retag {G : Gh} {t t' : Tag} {k : Nat} {xs : List AV} {A : Option Addr} {n c : Nat} (r : Rep G (.sl t k xs) (.slice A n c)) (h : TagOk G t' A n c) : Rep G (.sl t' k xs) (.slice A n c) := by
  cases r with
  | sl vs hc hA hk g1 g2 g3 ht => exact .sl vs hc hA hk g1 g2 g3 h
theorem Rep.rek {G : Gh} {t : Tag} {k k' : Nat} {v : Value} (r : Rep G (.sl t k []) v) : Rep G (.sl t k' []) v := by
  cases r with
  | sl vs hc hA hk g1 g2 g3 ht => exact .sl (b := 0) (o := 0) vs hc (fun h => by simp at h) (fun i x h => by simp at h) (fun i j h => by simp at h) (fun i j h => by simp at h) (fun i j x y h => by simp at h) ht

theorem snd_slice {t e : TypeId} {x : Operand} {lo hi mx : Option Operand} (hop : o.op = .slice t x lo hi mx) (ht : P.underlying t = some (.slice e)) {s : Nat} (hs : szO P e = some s) (h : kSlice s (ρ x) (lo.map ρ) (hi.map ρ) (mx.map ρ) K) : SND P o ρ S K := by
  unfold kSlice at h
  split at h
  · rename_i tg ks xs hx
    split at h
    · rename_i l hh hl hhh
      obtain ⟨hk, h0, h1, h2, h⟩ := h
      have hrun : ∀ (a : Act) (w : World) (A : Option Addr) (n c : Nat) (m : Int), a.eval x = .slice A n c → (Instr.sliceBounds true n c (lo.map a.eval) (hi.map a.eval) (mx.map a.eval)).run P w = .ok (l.toNat, hh.toNat, m.toNat) w →
          (execOp a.eval o).run P w = .ok (.value (.slice (if m.toNat = l.toNat then A else A.map (·.add (l.toNat * s))) (hh.toNat - l.toNat) (m.toNat - l.toNat))) w := by
        intro a w A n c m hv hb
        simp [execOp, hop, Instr.sliceAt, Instr.slice, run_underlying ht, hv, hb, run_sizeO hs]
      have hd : (hh - l).toNat = hh.toNat - l.toNat := by omega
      split at h
      · rename_i hm
        have hmx : mx = none := by simpa using hm
        subst hmx
        refine snd_pure (fun G a w T _ hr => ?_) h
        have rx := hr x (by simp [hop, Op.operands])
        rw [hx] at rx
        have rlo : ∀ y, lo = some y → Rep G (ρ y) (a.eval y) := fun y hy => hr y (by simp [hop, Op.operands, hy])
        have rhi : ∀ y, hi = some y → Rep G (ρ y) (a.eval y) := fun y hy => hr y (by simp [hop, Op.operands, hy])
        have blo := bnd_some hl rlo
        have bhi := bnd_some hhh rhi
        generalize ev1 : a.eval x = vx at rx
        have rx0 := rx
        cases rx with
        | @sl _ _ _ A c b off vs hc hA hk' g1 g2 g3 ht' =>
          have hb := run_bounds P w true xs.length c (lo.map a.eval) (hi.map a.eval) none l hh c (by rcases blo with ⟨q1, _, q2⟩ | ⟨k, q, _⟩; exact .inl ⟨q1, q2⟩; exact .inr ⟨k, q⟩) (by rcases bhi with ⟨q1, _, q2⟩ | ⟨k, q, _⟩; exact .inl ⟨q1, rfl, q2⟩; exact .inr ⟨k, q⟩) (.inl ⟨rfl, rfl⟩) h0 h1 (by omega) (by omega) (fun _ => by omega)
          refine ⟨_, hrun a w A _ c c ev1 (by simpa using hb), ?_⟩
          have hp := (rep_part rx0 l.toNat hh.toNat c s hk (by omega) (by omega) (by omega)).1
          rw [hd]
          simp only [Int.toNat_natCast]
          refine hp.retag ?_
          unfold sTag
          split
          · rename_i e1 e2 _
            have q1 : lo = none := by simpa using e1
            have q2 : hi = none := by simpa using e2
            subst q1 q2
            simp [bnd] at hl hhh
            subst hl hhh
            have e4 : (if c = (0 : Int).toNat then A else A.map (·.add ((0 : Int).toNat * s))) = A := by
              split
              · rfl
              · cases A <;> simp [Addr.add]
            rw [e4]
            simpa using ht'
          · rename_i y e1 e2 _
            have q2 : hi = none := by simpa using e2
            subst q2
            simp [bnd] at hhh
            subst hhh
            cases tg with
            | full =>
              have hcn : c = xs.length := ht'
              show c - l.toNat = (xs.length : Int).toNat - l.toNat
              omega
            | _ => trivial
          · trivial
      · rename_i m hm
        obtain ⟨⟨hhi, hmi⟩, hK⟩ := h
        obtain ⟨mo, rfl⟩ : ∃ mo, mx = some mo := by cases mx with | none => simp at hm | some mo => exact ⟨mo, rfl⟩
        have hme : ρ mo = m := by simpa using hm
        refine snd_pure (fun G a w T _ hr => ?_) hK
        have rx := hr x (by simp [hop, Op.operands])
        rw [hx] at rx
        have rlo : ∀ y, lo = some y → Rep G (ρ y) (a.eval y) := fun y hy => hr y (by simp [hop, Op.operands, hy])
        have rhi : ∀ y, hi = some y → Rep G (ρ y) (a.eval y) := fun y hy => hr y (by simp [hop, Op.operands, hy])
        have rm := hr mo (by simp [hop, Op.operands])
        have blo := bnd_some hl rlo
        have bhi := bnd_some hhh rhi
        have bm : ∃ k, a.eval mo = .int k hh := by
          rw [hme] at rm
          cases m with
          | lit v => cases v <;> simp [AV.i] at hmi; subst hmi; exact ⟨_, rep_lit rm⟩
          | _ => simp [AV.i] at hmi
        obtain ⟨km, bm⟩ := bm
        generalize ev1 : a.eval x = vx at rx
        have rx0 := rx
        cases rx with
        | @sl _ _ _ A c b off vs hc hA hk' g1 g2 g3 ht' =>
          have hb := run_bounds P w true xs.length c (lo.map a.eval) (hi.map a.eval) (some (.int km hh)) l hh hh (by rcases blo with ⟨q1, _, q2⟩ | ⟨k, q, _⟩; exact .inl ⟨q1, q2⟩; exact .inr ⟨k, q⟩)
            (by rcases bhi with ⟨_, q1, _⟩ | ⟨k, q, _⟩; (rw [q1] at hhi; simp at hhi); exact .inr ⟨k, q⟩) (.inr ⟨km, rfl⟩) h0 h1 (Int.le_refl _) (by omega) (fun e => by cases e)
          refine ⟨_, hrun a w A _ c hh ev1 (by simpa [bm] using hb), ?_⟩
          have hp := (rep_part rx0 l.toNat hh.toNat hh.toNat s hk (by omega) (by omega) (by omega)).1
          rw [hd]
          exact hp.retag rfl
    · exact h.elim
  · exact h.elim

theorem snd_sstr {t : TypeId} {x : Operand} {lo hi : Option Operand} (hop : o.op = .slice t x lo hi none) (ht : P.underlying t = some .string) (h : kSstr (ρ x) (lo.map ρ) (hi.map ρ) K) : SND P o ρ S K := by
  unfold kSstr at h
  split at h
  · rename_i s hx
    split at h
    · rename_i l hh hl hhh
      obtain ⟨h0, h1, h2, h⟩ := h
      refine snd_pure (fun G a w T _ hr => ⟨_, ?_, .lit _⟩) h
      have rx := hr x (by simp [hop, Op.operands])
      rw [hx] at rx
      have rlo : ∀ y, lo = some y → Rep G (ρ y) (a.eval y) := fun y hy => hr y (by simp [hop, Op.operands, hy])
      have rhi : ∀ y, hi = some y → Rep G (ρ y) (a.eval y) := fun y hy => hr y (by simp [hop, Op.operands, hy])
      have blo := bnd_some hl rlo
      have bhi := bnd_some hhh rhi
      have hb := run_bounds P w false s.size s.size (lo.map a.eval) (hi.map a.eval) none l hh s.size (by rcases blo with ⟨q1, _, q2⟩ | ⟨k, q, _⟩; exact .inl ⟨q1, q2⟩; exact .inr ⟨k, q⟩) (by rcases bhi with ⟨q1, _, q2⟩ | ⟨k, q, _⟩; exact .inl ⟨q1, rfl, q2⟩; exact .inr ⟨k, q⟩) (.inl ⟨rfl, rfl⟩) h0 h1 (by omega) (by omega) (fun _ => by omega)
      simp [execOp, hop, Instr.sliceAt, Instr.slice, run_underlying ht, rep_lit rx, hb]
    · exact h.elim
  · exact h.elim

theorem snd_fadr {t : TypeId} {x : Operand} {f : Nat} {fs : Array Field} {fd : Field} {s : Nat} (hop : o.op = .fieldAddr t x f) (ht : P.underlying t = some (.struct fs)) (hf : fs[f]? = some fd) (hs : szO P fd.type = some s) (h1 : 1 ≤ s) (h : kFadr fd.offset (ρ x) K) : SND P o ρ S K := by
  have hrun : ∀ (a : Act) (w : World) (ad : Addr), a.eval x = .pointer (some ad) → (execOp a.eval o).run P w = .ok (.value (.pointer (some (ad.add fd.offset)))) w := by
    intro a w ad ha
    simp [execOp, hop, Instr.fieldAt, run_underlying ht, hf, ha, Instr.sureAddr, fieldPlace, run_sizeO hs, show s ≠ 0 by omega]
  unfold kFadr at h
  split at h
  · rename_i i off hx
    refine snd_pure (fun G a w T _ hr => ?_) h
    have r := hr x (by simp [hop, Op.operands])
    rw [hx] at r
    generalize ha : a.eval x = va at r
    cases r with
    | ref hb => exact ⟨_, hrun a w _ ha, by rw [add_none]; exact .ref hb⟩
  · rename_i cs hx
    refine snd_pure (fun G a w T _ hr => ?_) h
    have r := hr x (by simp [hop, Op.operands])
    rw [hx] at r
    generalize ha : a.eval x = va at r
    cases r with
    | @iptr _ b off vs g1 g2 g3 =>
      refine ⟨_, hrun a w _ ha, ?_⟩
      rw [add_none]
      exact .iptr (fun j => vs (fd.offset + j)) (fun j hj => by simp at hj; rw [← g1 (fd.offset + j) (by omega), Nat.add_assoc]) (fun j hj => by simp at hj; exact g2 _ (by omega)) (fun j y hy => by rw [List.getElem?_drop] at hy; exact g3 _ y hy)
  · rename_i j g off hx
    refine snd_pure (fun G a w T _ hr => ?_) h
    have r := hr x (by simp [hop, Op.operands])
    rw [hx] at r
    generalize ha : a.eval x = va at r
    cases r with
    | mref hb => exact ⟨_, hrun a w _ ha, by rw [add_none]; exact .mref hb⟩
  · exact h.elim

/-- v is a part of an aggregate. -/
def partOk (n : Option Nat) (xs : List AV) (off : Nat) (v : AV) : Prop :=
  match n with
  | none => xs[off]? = some v
  | some n => off + n ≤ xs.length ∧ v = .agg ((xs.drop off).take n)
/-- A part of an aggregate. -/
theorem run_part {t : TypeId} {n : Option Nat} (hn : aggO P t = some n) {G : Gh} {xs : List AV} {vs : Array Value} (r : Rep G (.agg xs) (.agg vs)) (off : Nat) {v : AV}
    (h : partOk n xs off v) (w : World) : ∃ u, (part t vs off).run P w = .ok u w ∧ Rep G v u := by
  cases r with
  | agg h0 h2 h3 =>
    cases n with
    | none =>
      have hlt : off < vs.size := by rw [← h0]; exact (List.getElem?_eq_some_iff.1 h).1
      have hv : vs[off]? = some vs[off] := Array.getElem?_eq_getElem hlt
      exact ⟨vs[off], by simp [part, run_isAgg_no hn, hv], h3 off v _ h hv⟩
    | some n =>
      obtain ⟨hle, rfl⟩ := h
      obtain ⟨_, hs⟩ := aggO_agg hn
      refine ⟨_, by simp [part, run_isAgg_yes hn, run_sizeO hs]; rfl, ?_⟩
      have hget : ∀ {j : Nat} {u : Value}, (vs.extract off (off + n))[j]? = some u → vs[off + j]? = some u ∧ j < n := fun {j u} e => by
        rw [Array.getElem?_extract] at e
        split at e
        · exact ⟨e, by omega⟩
        · cases e
      refine .agg (by simp; omega) (fun j u hu => h2 _ u (hget hu).1) (fun j y u hy hu => h3 (off + j) y u ?_ (hget hu).1)
      rw [List.getElem?_take, if_pos (hget hu).2, List.getElem?_drop] at hy; exact hy

theorem kFld_sound {off : Nat} {n : Option Nat} {xs : List AV} (h : kFld off n (.agg xs) K) : ∃ v, partOk n xs off v ∧ K v [] [] [] := by
  unfold kFld at h
  cases n with
  | none =>
    simp only at h
    split at h
    · rename_i v hv; exact ⟨v, hv, h⟩
    · exact h.elim
  | some n => exact ⟨_, ⟨h.1, rfl⟩, h.2⟩

theorem snd_fld {t : TypeId} {x : Operand} {f : Nat} {fs : Array Field} {fd : Field} {n : Option Nat} (hop : o.op = .field t x f) (ht : P.underlying t = some (.struct fs)) (hf : fs[f]? = some fd) (hn : aggO P fd.type = some n) (h : kFld fd.offset n (ρ x) K) : SND P o ρ S K := by
  cases hx : ρ x with
  | agg xs =>
    rw [hx] at h
    obtain ⟨v, hv, hK⟩ := kFld_sound h
    refine snd_pure (fun G a w T _ hr => ?_) hK
    have r := hr x (by simp [hop, Op.operands])
    rw [hx] at r
    generalize ha : a.eval x = va at r
    cases r with
    | @agg _ vs h0 h2 h3 =>
      obtain ⟨u, hu, hru⟩ := run_part (P := P) hn (Rep.agg h0 h2 h3) fd.offset hv w
      exact ⟨u, by simp [execOp, hop, Instr.field, run_underlying ht, hf, ha, asAgg, hu], hru⟩
  | _ => rw [hx] at h; exact h.elim

theorem snd_idx {t e : TypeId} {x ix : Operand} {len s : Nat} {n : Option Nat} (hop : o.op = .index t x ix) (ht : P.underlying t = some (.array len e)) (hs : szO P e = some s) (hn : aggO P e = some n) (h : kIdx len s n (ρ x) (ρ ix) K) : SND P o ρ S K := by
  unfold kIdx at h
  split at h
  · rename_i xs k i hx hix
    obtain ⟨h0, h1, h⟩ := h
    obtain ⟨v, hv, hK⟩ := kFld_sound h
    refine snd_pure (fun G a w T _ hr => ?_) hK
    have r := hr x (by simp [hop, Op.operands])
    have ri := hr ix (by simp [hop, Op.operands])
    rw [hx] at r
    rw [hix] at ri
    have ei := rep_lit ri
    generalize ha : a.eval x = va at r
    cases r with
    | @agg _ vs g0 g2 g3 =>
      obtain ⟨u, hu, hru⟩ := run_part (P := P) hn (Rep.agg g0 g2 g3) (i.toNat * s) hv w
      exact ⟨u, by simp [execOp, hop, Instr.index, run_underlying ht, ha, ei, asIntOf, h0, h1, run_sizeO hs, hu], hru⟩
  · exact h.elim

theorem snd_iadr {t e : TypeId} {x ix : Operand} {s : Nat} (hop : o.op = .indexAddr t x ix) (ht : P.underlying t = some (.slice e)) (hs : szO P e = some s) (h : kIadr s (ρ x) (ρ ix) K) : SND P o ρ S K := by
  unfold kIadr at h
  split at h
  · rename_i tg ks xs k i hx hix
    obtain ⟨rfl, h0, h1, hK⟩ := h
    refine snd_pure (fun G a w T _ hr => ?_) hK
    have r := hr x (by simp [hop, Op.operands])
    have ri := hr ix (by simp [hop, Op.operands])
    rw [hx] at r
    rw [hix] at ri
    have ei := rep_lit ri
    generalize ha : a.eval x = va at r
    cases r with
    | @sl _ _ _ A c b off vs hc hA hk g1 g2 g3 htg =>
      have hlt : i.toNat < xs.length := by omega
      have hxi : xs[i.toNat]? = some (xs.getD i.toNat .any) := by rw [List.getElem?_eq_getElem hlt]; simp [hlt]
      have hA' := hA (by omega)
      subst hA'
      refine ⟨.pointer (some ⟨b, off + i.toNat * ks, none⟩), ?_, ?_⟩
      · simp [execOp, hop, Instr.indexAt, run_underlying ht, ha, ei, asIntOf, h0, h1, run_sizeO hs, add_none]
      · have hcl := hk _ _ hxi
        exact .iptr (vs i.toNat) (fun j hj => g1 _ j hlt (by omega)) (fun j hj => g2 _ j hlt (by omega)) (fun j y hy => g3 _ j _ y hxi hy)
  · rename_i j g k i hx hix
    obtain ⟨h0, h1, hK⟩ := h
    refine snd_pure (fun G a w T _ hr => ?_) hK
    have r := hr x (by simp [hop, Op.operands])
    have ri := hr ix (by simp [hop, Op.operands])
    rw [hx] at r
    rw [hix] at ri
    have ei := rep_lit ri
    generalize ha : a.eval x = va at r
    cases r with
    | @ms _ _ A c hh hA =>
      obtain ⟨b, rfl⟩ := hA (by omega)
      refine ⟨.pointer (some ⟨b, i.toNat * s, none⟩), ?_, .mref hh⟩
      simp [execOp, hop, Instr.indexAt, run_underlying ht, ha, ei, asIntOf, h0, h1, run_sizeO hs, add_none]
  · exact h.elim

theorem snd_aadr {t e : TypeId} {x ix : Operand} {len s : Nat} (hop : o.op = .indexAddr t x ix) (ht : P.underlying t = some (.array len e)) (hs : szO P e = some s) (h : kAadr len s (ρ x) (ρ ix) K) : SND P o ρ S K := by
  unfold kAadr at h
  split at h
  · rename_i i off k n hx hix
    obtain ⟨h0, h1, hK⟩ := h
    refine snd_pure (fun G a w T _ hr => ?_) hK
    have r := hr x (by simp [hop, Op.operands])
    have ri := hr ix (by simp [hop, Op.operands])
    rw [hx] at r
    rw [hix] at ri
    have ei := rep_lit ri
    generalize ha : a.eval x = va at r
    cases r with
    | @ref _ _ b hb =>
      refine ⟨.pointer (some ⟨b, off + n.toNat * s, none⟩), ?_, .ref hb⟩
      simp [execOp, hop, Instr.indexAt, run_underlying ht, ha, ei, asIntOf, Instr.sureAddr, h0, h1, run_sizeO hs, add_none]
  · rename_i cs k n hx hix
    obtain ⟨h0, h1, hK⟩ := h
    refine snd_pure (fun G a w T _ hr => ?_) hK
    have r := hr x (by simp [hop, Op.operands])
    have ri := hr ix (by simp [hop, Op.operands])
    rw [hx] at r
    rw [hix] at ri
    have ei := rep_lit ri
    generalize ha : a.eval x = va at r
    cases r with
    | @iptr _ b off vs g1 g2 g3 =>
      refine ⟨.pointer (some ⟨b, off + n.toNat * s, none⟩), ?_, ?_⟩
      · simp [execOp, hop, Instr.indexAt, run_underlying ht, ha, ei, asIntOf, Instr.sureAddr, h0, h1, run_sizeO hs, add_none]
      · exact .iptr (fun j => vs (n.toNat * s + j)) (fun j hj => by simp at hj; rw [← g1 (n.toNat * s + j) (by omega), Nat.add_assoc]) (fun j hj => by simp at hj; exact g2 _ (by omega)) (fun j y hy => by rw [List.getElem?_drop] at hy; exact g3 _ y hy)
  · exact h.elim

theorem snd_sidx {t : TypeId} {x ix : Operand} (hop : o.op = .index t x ix) (ht : P.underlying t = some .string) (h : kSidx (ρ x) (ρ ix) K) : SND P o ρ S K := by
  unfold kSidx at h
  split at h
  · rename_i s k i hx hix
    obtain ⟨h0, h1, hK⟩ := h
    refine snd_pure (fun G a w T _ hr => ⟨_, ?_, .lit _⟩) hK
    have r := hr x (by simp [hop, Op.operands])
    have ri := hr ix (by simp [hop, Op.operands])
    rw [hx] at r
    rw [hix] at ri
    have ex := rep_lit r
    have ei := rep_lit ri
    have hlt : i.toNat < s.size := by omega
    have hlt' : i.toNat < s.data.toList.length := by simpa using hlt
    have hg : s[i.toNat]? = some (s.data.toList.getD i.toNat 0) := by
      rw [ByteArray.getElem?_lt' s _ hlt]
      congr 1
      simp only [List.getD_eq_getElem?_getD, List.getElem?_eq_getElem hlt', Option.getD_some]
      rfl
    simp [execOp, hop, Instr.index, run_underlying ht, ex, ei, asIntOf, h0, hg]
  · exact h.elim

theorem snd_b2s {src dst e : TypeId} {x : Operand} (hop : o.op = .convert src dst x) (hs : P.underlying src = some (.slice e)) (he : P.underlying e = some (.int .u8)) (hd : P.underlying dst = some .string) (h : kB2s (ρ x) K) : SND P o ρ S K := by
  unfold kB2s at h
  split at h
  · rename_i tg k xs hx
    obtain ⟨hk, hu, hK⟩ := h
    refine snd_pure (fun G a w T hw hr => ⟨_, ?_, .lit _⟩) hK
    have r := hr x (by simp [hop, Op.operands])
    rw [hx] at r
    generalize ha : a.eval x = va at r
    cases r with
    | @sl _ _ _ A c b off vs hc hA hk' g1 g2 g3 htg =>
      have hbytes : ∀ (ns : List Int) (s : ByteArray), ns.foldl (fun r n => r.push (UInt8.ofNat n.toNat)) s = ⟨s.data ++ (ns.map fun n => UInt8.ofNat n.toNat).toArray⟩ := by
        intro ns
        induction ns with
        | nil => intro s; simp
        | cons n ns ih => intro s; rw [List.foldl_cons, ih]; simp [ByteArray.push]
      simp only [execOp, hop, ha]
      by_cases h0 : 0 < xs.length
      · have hA' := hA h0
        subst hA'
        have hk1 : k = 1 := by rcases hk with h | h; exact h; (subst h; simp at h0)
        subst hk1
        let ns : List Int := xs.map fun x => match x with | .lit (.int _ n) => n | _ => 0
        have hload : (loadCells ⟨b, off, none⟩ xs.length).run P w = .ok (ns.map (Value.int .u8)).toArray w := by
          rw [run_loadCells w ⟨b, off, none⟩ xs.length (fun j => vs j 0) (fun j hj => by rw [add_none]; have := hw.imm _ _ _ (g1 j 0 hj (by omega)); simpa using this)]
          congr 2
          apply List.ext_getElem?
          intro j
          by_cases hj : j < xs.length
          · have hxj := List.getElem?_eq_getElem hj
            have hone := List.all_eq_true.1 hu _ (List.getElem_mem hj)
            have hcell := hk' j _ hxj
            simp only [ns, List.getElem?_map, List.getElem?_range hj, Option.map_some, hxj]
            generalize hy : xs[j] = y at *
            cases y <;> simp [AV.isU8] at hone
            rename_i v
            cases v <;> try (simp at hone; done)
            rename_i kk n
            cases kk <;> try (simp at hone; done)
            have := g3 j 0 _ (.lit (.int .u8 n)) hxj (by simp [AV.cells])
            exact congrArg some (rep_lit this)
          · simp [ns, hj]
        have hb := run_bytesToString (P := P) w ⟨b, off, none⟩ xs.length c ns hload
        have hc2 := run_convert_bytes_string (P := P) w src dst e (some ⟨b, off, none⟩) xs.length c hs he hd
        simp only [Sem.run_bind, hc2, hb, Result.andThen_ok, Sem.run_pure]
        rw [hbytes]
        have : (ns.map fun n => UInt8.ofNat n.toNat) = xs.map AV.byte := by
          simp only [ns, List.map_map]
          apply List.map_congr_left
          intro y hy
          have hone := List.all_eq_true.1 hu _ hy
          cases y <;> simp [AV.isU8] at hone
          rename_i v
          cases v <;> try (simp at hone; done)
          rfl
        rw [this]
        simp [bytesOf]
      · have hx0 : xs = [] := List.eq_nil_of_length_eq_zero (by omega)
        subst hx0
        have hc2 := run_convert_bytes_string (P := P) w src dst e A ([] : List AV).length c hs he hd
        cases A with
        | none =>
          simp only [List.length_nil] at hc2 ⊢
          simp only [Sem.run_bind, hc2, Conv.bytesToString, Result.andThen_ok, Sem.run_pure]
          rfl
        | some ad =>
          have hb := run_bytesToString (P := P) w ad 0 c [] (by simp [loadCells, loadCellsFrom])
          simp only [List.length_nil] at hc2 ⊢
          simp only [Sem.run_bind, hc2, hb, Result.andThen_ok, Sem.run_pure]
          rfl
  · exact h.elim

end
end Go.Proofs.Ytnfagphepkeedaa
end
section
namespace Go.Proofs.Ytnfagphepkeedaa

section
variable {P : Program} {o : Oper} {ρ : Operand → AV} {S : List AObj} {K : KT}

theorem fold_get (cs : List Value) (off k : Nat) (A : Array Value) (i : Nat) (h : off + k + cs.length ≤ A.size) :
    ((cs.zipIdx k).foldl (fun A (p : Value × Nat) => A.setIfInBounds (off + p.2) p.1) A)[i]? = (if off + k ≤ i ∧ i < off + k + cs.length then cs[i - off - k]? else A[i]?) ∧
    ((cs.zipIdx k).foldl (fun A (p : Value × Nat) => A.setIfInBounds (off + p.2) p.1) A).size = A.size := by
  induction cs generalizing k A with
  | nil => simp; intro h1 h2; omega
  | cons c cs ih =>
    simp only [List.length_cons] at h ⊢
    simp only [List.zipIdx_cons, List.foldl_cons]
    obtain ⟨h1, h2⟩ := ih (k + 1) (A.setIfInBounds (off + k) c) (by simp; omega)
    refine ⟨?_, by rw [h2]; simp⟩
    rw [h1]
    by_cases e : i = off + k
    · subst e
      rw [if_neg (by omega), if_pos (by omega)]
      have : off + k < A.size := by omega
      simp [this]
    · by_cases e2 : off + (k + 1) ≤ i ∧ i < off + (k + 1) + cs.length
      · rw [if_pos e2, if_pos (by omega), show i - off - k = (i - off - (k + 1)) + 1 by omega]; simp
      · rw [if_neg e2, if_neg (by omega), Array.getElem?_setIfInBounds_ne (Ne.symm e)]

/-- One step of fill. -/
theorem fill_step (place : Nat → Option (Nat × Nat)) (A : Array Value) (i off size : Nat) (v : Value) (rest : List (Nat × Value)) (hp : place i = some (off, size)) (hs : v.cells.size = size) (hle : off + size ≤ A.size) :
    ∃ B, Instr.fill place A ((i, v) :: rest) = Instr.fill place B rest ∧ B.size = A.size ∧ ∀ q, B[q]? = if off ≤ q ∧ q < off + size then v.cells[q - off]? else A[q]? := by
  have hf := fun q => fold_get v.cells.toList off 0 A q (by simp [hs]; omega)
  refine ⟨_, ?_, (hf 0).2, fun q => ?_⟩
  · simp only [Instr.fill, hp, hs]
    rw [if_neg (by simp; omega)]
    rw [← Array.foldl_toList]
    simp only [Array.toList_zipIdx]
  · rw [(hf q).1]
    simp [hs]

theorem fillA_sound {G : Gh} {place : Nat → Option (Nat × Nat)} : ∀ (ps : List (Nat × Nat × AV)) (vs : List (Nat × Value)) (cells : List AV) (A : Array Value) (out : List AV),
    fillA cells ps = some out → ps.length = vs.length → (∀ (j : Nat) (p : Nat × Nat × AV) (q : Nat × Value), ps[j]? = some p → vs[j]? = some q → place q.1 = some (p.1, p.2.1) ∧ Rep G p.2.2 q.2) →
    RepL G cells A.toList → (∀ v ∈ A.toList, v.oneCell' = true) → ∃ B, Instr.fill place A vs = some B ∧ RepL G out B.toList ∧ ∀ v ∈ B.toList, v.oneCell' = true := by
  intro ps
  induction ps with
  | nil =>
    intro vs cells A out h hl _ hr ho
    cases vs with
    | nil => simp [fillA] at h; subst h; exact ⟨A, rfl, hr, ho⟩
    | cons => simp at hl
  | cons p ps ih =>
    intro vs cells A out h hl hp hr ho
    cases vs with
    | nil => simp at hl
    | cons q vs =>
      obtain ⟨off, size, x⟩ := p
      obtain ⟨i, v⟩ := q
      obtain ⟨hpl, hx⟩ := hp 0 _ _ rfl rfl
      simp only [fillA] at h
      split at h
      · rename_i cs hcs
        split at h
        · rename_i hc
          obtain ⟨h1, h2, h3⟩ := hx.parts hcs
          have hsz : v.cells.size = size := by have := h2.1; simp at this; omega
          have hA : cells.length = A.size := by simpa using hr.1
          obtain ⟨B, hB1, hB2, hB3⟩ := fill_step place A i off size v vs hpl hsz (by omega)
          have hBl : ∀ q, B.toList[q]? = if off ≤ q ∧ q < off + size then v.cells[q - off]? else A.toList[q]? := fun q => by simpa using hB3 q
          refine hB1 ▸ ih vs (splice cells off cs) B out h (by simpa using hl) (fun j p q hj hq => hp (j + 1) p q (by simpa using hj) (by simpa using hq)) ⟨by rw [splice_length]; simp [hB2, hA], fun j y u hy hu => ?_⟩ (fun u hu => ?_)
          · rw [splice_get _ _ _ (by omega)] at hy
            rw [hBl] at hu
            rw [hc.1] at hy
            split at hy
            · rename_i hj; rw [if_pos hj] at hu; exact h2.2 _ y u hy (by simpa using hu)
            · rename_i hj; rw [if_neg hj] at hu; exact hr.2 j y u hy hu
          · obtain ⟨j, hj, rfl⟩ := List.getElem_of_mem hu
            have e := List.getElem?_eq_getElem hj
            rw [hBl] at e
            split at e
            · exact h3 _ (List.mem_of_getElem? (by simpa using e))
            · exact ho _ (List.mem_of_getElem? e)
        · cases h
      · cases h

theorem optM_get {α β : Type} {f : α → Option β} : ∀ {l : List α} {r : List β}, optM f l = some r → l.length = r.length ∧ ∀ (j : Nat) (x : α) (y : β), l[j]? = some x → r[j]? = some y → f x = some y := by
  intro l
  induction l with
  | nil => intro r h; simp [optM] at h; subst h; exact ⟨rfl, fun j x y hx => by simp at hx⟩
  | cons a l ih =>
    intro r h
    simp only [optM] at h
    split at h
    · rename_i y ys hy hys
      injection h with h; subst h
      obtain ⟨h1, h2⟩ := ih hys
      refine ⟨by simp [h1], fun j x z hx hz => ?_⟩
      cases j with
      | zero => simp at hx hz; subst hx hz; exact hy
      | succ j => simp at hx hz; exact h2 j x z hx hz
    · cases h

theorem mem_parts {ps : Array (Nat × Operand)} {t : TypeId} (hop : o.op = .build t ps) {j : Nat} {p : Nat × Operand} (h : ps.toList[j]? = some p) : p.2 ∈ o.op.operands := by
  simp only [hop, Op.operands, List.mem_toArray, List.mem_map]
  exact ⟨p, List.mem_of_getElem? h, rfl⟩

theorem repL_zero {G : Gh} (zs : List Value) : RepL G (zs.map AV.ofC1) zs := ⟨by simp, fun j x v hx hv => by
  obtain ⟨y, hy, rfl⟩ := map_get hx
  rw [hv] at hy; injection hy with hy; subst hy
  exact rep_ofC1 G v⟩

theorem snd_build_struct {t : TypeId} {ps : Array (Nat × Operand)} {fs : Array Field} {zs : List Value} {qs : List (Nat × Nat × Operand)} (hop : o.op = .build t ps) (ht : P.underlying t = some (.struct fs)) (hz : zeroO P t = some zs)
    (hfs : fs.all (fun f => (szO P f.type).isSome) = true) (hq : optM (fun p : Nat × Operand => (fs[p.1]?).bind fun f => (szO P f.type).map fun s => (f.offset, s, p.2)) ps.toList = some qs)
    (h : kBuild (zs.map AV.ofC1) (qs.map fun (a, b, x) => (a, b, ρ x)) K) : SND P o ρ S K := by
  unfold kBuild at h
  split at h
  · rename_i out hout
    obtain ⟨hq1, hq2⟩ := optM_get hq
    obtain ⟨it, z, hit, hz0, rfl, ho⟩ := zeroO_some hz
    refine snd_pure (fun G a w T _ hr => ?_) h
    let pl : List (Nat × Nat) := fs.toList.map fun f => (f.offset, (szO P f.type).getD 0)
    have hpl : fs.toList.mapM (fun f => (P.info? f.type).map fun i => (f.offset, i.size)) = some pl := by
      have hall : ∀ f ∈ fs.toList, (szO P f.type).isSome = true := fun f hf => by
        obtain ⟨j, hj, rfl⟩ := List.getElem_of_mem hf
        have := Array.all_eq_true.1 hfs j (by simpa using hj)
        simpa using this
      simp only [pl]
      generalize fs.toList = l at hall
      clear pl
      induction l with
      | nil => rfl
      | cons f l ih =>
        have hf := hall f (by simp)
        obtain ⟨s, hs⟩ := Option.isSome_iff_exists.1 hf
        obtain ⟨i, hi, rfl⟩ := szO_some hs
        rw [List.mapM_cons]
        simp [hi, hs, ih (fun g hg => hall g (by simp [hg]))]
    obtain ⟨B, hB, hBr, hBo⟩ := fillA_sound (G := G) (place := fun i => pl[i]?) _ (ps.toList.map fun p => (p.1, a.eval p.2)) _ z.cells out hout (by simp [hq1]) (fun j p q hp hq' => by
      obtain ⟨⟨a1, b1, x1⟩, hp1, rfl⟩ := map_get hp
      obtain ⟨p1, hq1', rfl⟩ := map_get hq'
      have e := hq2 j p1 _ hq1' hp1
      cases hf : fs[p1.1]? with
      | none => simp [hf] at e
      | some f =>
        cases hs : szO P f.type with
        | none => simp [hf, hs] at e
        | some s =>
          simp [hf, hs] at e
          obtain ⟨rfl, rfl, rfl⟩ := e
          refine ⟨by simp [pl, hf, hs], hr _ (mem_parts hop hq1')⟩) (repL_zero _) ho
    refine ⟨.agg B, ?_, .agg (by simpa using hBr.1) (fun j v hv => hBo v (List.mem_of_getElem? (by simpa using hv))) (fun j x v hx hv => hBr.2 j x v hx (by simpa using hv))⟩
    have hbt : P.built t (ps.map fun (i, x) => (i, a.eval x)).toList = some B := by
      simp only [Program.built, hit, ht, hz0, hpl]
      have : (ps.map fun (i, x) => (i, a.eval x)).toList = ps.toList.map fun p => (p.1, a.eval p.2) := by simp
      rw [this]
      simpa using hB
    simp only [execOp, hop, Sem.run_bind, run_build w t _ B hbt, Result.andThen_ok, Sem.run_pure]
  · exact h.elim

theorem snd_build_array {t e : TypeId} {n s : Nat} {ps : Array (Nat × Operand)} {zs : List Value} (hop : o.op = .build t ps) (ht : P.underlying t = some (.array n e)) (hz : zeroO P t = some zs) (hs : szO P e = some s)
    (h : kBuild (zs.map AV.ofC1) ((ps.toList.map fun p => (p.1 * s, s, p.2)).map fun (a, b, x) => (a, b, ρ x)) K) : SND P o ρ S K := by
  unfold kBuild at h
  split at h
  · rename_i out hout
    obtain ⟨it, z, hit, hz0, rfl, ho⟩ := zeroO_some hz
    obtain ⟨ie, hie, rfl⟩ := szO_some hs
    refine snd_pure (fun G a w T _ hr => ?_) h
    obtain ⟨B, hB, hBr, hBo⟩ := fillA_sound (G := G) (place := fun i => some (i * ie.size, ie.size)) _ (ps.toList.map fun p => (p.1, a.eval p.2)) _ z.cells out hout (by simp) (fun j p q hp hq' => by
      obtain ⟨p2, hp2, rfl⟩ := map_get hp
      obtain ⟨p3, hp3, rfl⟩ := map_get hp2
      obtain ⟨p1, hq1', rfl⟩ := map_get hq'
      rw [hp3] at hq1'; injection hq1' with e; subst e
      exact ⟨rfl, hr _ (mem_parts hop hp3)⟩) (repL_zero _) ho
    refine ⟨.agg B, ?_, .agg (by simpa using hBr.1) (fun j v hv => hBo v (List.mem_of_getElem? (by simpa using hv))) (fun j x v hx hv => hBr.2 j x v hx (by simpa using hv))⟩
    have hbt : P.built t (ps.map fun (i, x) => (i, a.eval x)).toList = some B := by
      simp only [Program.built, hit, ht, hz0, hie]
      have : (ps.map fun (i, x) => (i, a.eval x)).toList = ps.toList.map fun p => (p.1, a.eval p.2) := by simp
      rw [this]
      exact hB
    simp only [execOp, hop, Sem.run_bind, run_build w t _ B hbt, Result.andThen_ok, Sem.run_pure]
  · exact h.elim

/-- fill of a row, element by element. -/
theorem fill_row (k : Nat) : ∀ (us : List Value) (s : Nat) (A : Array Value), (∀ u ∈ us, u.cells.size = k) → (s + us.length) * k ≤ A.size →
    ∃ B, Instr.fill (fun i => some (i * k, k)) A ((List.range' s us.length).zip us) = some B ∧ B.size = A.size ∧ (∀ q, q < s * k → B[q]? = A[q]?) ∧ ∀ i j u, us[i]? = some u → j < k → B[(s + i) * k + j]? = u.cells[j]? := by
  intro us
  induction us with
  | nil => intro s A _ _; exact ⟨A, rfl, rfl, fun _ _ => rfl, fun i j u h => by simp at h⟩
  | cons u us ih =>
    intro s A hk hle
    simp only [List.length_cons] at hle
    have hmul : (s + (us.length + 1)) * k = s * k + k + us.length * k := by rw [Nat.add_mul, Nat.add_mul]; omega
    obtain ⟨B, hB1, hB2, hB3⟩ := fill_step (fun i => some (i * k, k)) A s (s * k) k u ((List.range' (s + 1) us.length).zip us) rfl (hk u (by simp)) (by omega)
    obtain ⟨C, hC1, hC2, hC3, hC4⟩ := ih (s + 1) B (fun v hv => hk v (by simp [hv])) (by rw [hB2, show s + 1 + us.length = s + (us.length + 1) by omega]; exact hle)
    refine ⟨C, ?_, by rw [hC2, hB2], fun q hq => ?_, fun i j v hv hj => ?_⟩
    · simp only [List.length_cons, List.range'_succ, List.zip_cons_cons]
      rw [hB1]; exact hC1
    · rw [hC3 q (by rw [Nat.add_mul]; omega), hB3, if_neg (by omega)]
    · cases i with
      | zero =>
        simp at hv; subst hv
        rw [Nat.add_zero, hC3 _ (by rw [Nat.add_mul]; omega), hB3, if_pos (by omega), show s * k + j - s * k = j by omega]
      | succ i =>
        simp at hv
        rw [show s + (i + 1) = s + 1 + i by omega]
        exact hC4 i j v hv hj

theorem snd_bsl {t e : TypeId} {n k : Nat} {ps : Array (Nat × Operand)} {zs : List Value} (hop : o.op = .buildSlice t n ps) (ht : P.underlying t = some (.slice e)) (hs : szO P e = some k) (hz : zeroO P e = some zs)
    (_hzl : zs.length = k) (_hk1 : 1 ≤ k) (hlim : n * k ≤ 16777216) (hps : ps.toList.map (·.1) = List.range n) (h : kBsl k ((ps.toList.map (·.2)).map ρ) K) : SND P o ρ S K := by
  obtain ⟨hall, hK⟩ := h
  have hlen : ps.toList.length = n := by have := congrArg List.length hps; simpa using this
  refine ⟨_, [], [], [], fun T _ _ G a w hw hr Kc Q hk => ?_, (fun p hp => by cases hp), (fun i hi => by simp at hi), hK⟩
  obtain ⟨it, z, hit, hz0, hzc, ho⟩ := zeroO_some hz
  have hrep : ∀ (j : Nat) (p : Nat × Operand), ps.toList[j]? = some p → Rep G (ρ p.2) (a.eval p.2) := fun j p hp => hr p.2 (by
    simp only [hop, Op.operands, List.mem_toArray, List.mem_map]
    exact ⟨p, List.mem_of_getElem? hp, rfl⟩)
  have hpart : ∀ (j : Nat) (p : Nat × Operand), ps.toList[j]? = some p → ∃ cs, (ρ p.2).parts = some cs ∧ cs.length = k := fun j p hp => by
    have := List.all_eq_true.1 hall (ρ p.2) (by simp only [List.mem_map]; exact ⟨p.2, ⟨p, List.mem_of_getElem? hp, rfl⟩, rfl⟩)
    unfold okEl at this
    split at this
    · rename_i cs hcs; exact ⟨cs, hcs, by simpa using this⟩
    · cases this
  let us : List Value := ps.toList.map fun p => a.eval p.2
  have husl : us.length = n := by simp [us, hlen]
  have husk : ∀ u ∈ us, u.cells.size = k := by
    intro u hu
    simp only [us, List.mem_map] at hu
    obtain ⟨p, hp, rfl⟩ := hu
    obtain ⟨j, hj, rfl⟩ := List.getElem_of_mem hp
    obtain ⟨cs, hcs, hl⟩ := hpart j _ (List.getElem?_eq_getElem hj)
    have := ((hrep j _ (List.getElem?_eq_getElem hj)).parts hcs).2.1.1
    rw [← hl, this]; exact (Array.length_toList (xs := _)).symm
  let A : Array Value := (Array.range (n * k)).map (z.cells[· % z.cells.size]!)
  have hAs : A.size = n * k := by simp [A]
  obtain ⟨B, hB1, hB2, hB3, hB4⟩ := fill_row k us 0 A husk (by rw [hAs, husl, Nat.zero_add]; exact Nat.le_refl _)
  have hzip : (List.range' 0 us.length).zip us = (ps.map fun (i, x) => (i, a.eval x)).toList := by
    rw [husl, ← List.range_eq_range', ← hps]
    simp only [us, Array.toList_map]
    rw [List.zip_map']
  have hrun : (execOp a.eval o).run P w = .ok (.value (.slice (some ⟨w.heap.size, 0, none⟩) n n)) (w.alloc (.cells B e)) := by
    simp only [execOp, hop, Instr.buildSlice, Sem.run_bind, run_underlying ht, Result.andThen_ok, run_sizeO hs]
    rw [if_neg (by omega)]
    have hz' : zs.length = z.cells.size := by rw [hzc]; simp
    by_cases hn : n * k = 0
    · have hA0 : A = (Array.range (n * k)).map (fun x => (#[] : Array Value)[x % (#[] : Array Value).size]!) := by
        apply Array.ext
        · simp [A]
        · intro i h1 h2; simp [A, hn] at h1
      rw [hzip, hA0] at hB1
      simp [hn] at hB1 ⊢
      simp [hB1, newRow]
    · rw [hzip] at hB1
      simp [hn, zeroValue, typeInfo, hit, hz0]
      simp [A] at hB1
      simp [hB1, newRow]
  unfold Oper.wp
  rw [hrun]
  have hstill := Left.still_ (vs := B.toList) hw (More.alloc w (.cells B e)) (fun i v hv => by simpa using hv)
  refine hk _ _ _ ?_ (by simpa [newU] using hstill)
  have hxl : ((ps.toList.map (·.2)).map ρ).length = n := by simpa using hlen
  have hBc : ∀ i j, i < n → j < k → ∃ p cs u, ps.toList[i]? = some p ∧ (ρ p.2).parts = some cs ∧ cs.length = k ∧ B[i * k + j]? = some u ∧ (a.eval p.2).cells[j]? = some u := by
    intro i j hi hj
    have hp := List.getElem?_eq_getElem (show i < ps.toList.length by omega)
    obtain ⟨cs, hcs, hl⟩ := hpart i _ hp
    have hu : us[i]? = some (a.eval (ps.toList[i]'(by omega)).2) := by simp only [us, List.getElem?_map, hp, Option.map_some]
    have e := hB4 i j _ hu hj
    have hsz := husk _ (List.mem_of_getElem? hu)
    have hv := Array.getElem?_eq_getElem (show j < (a.eval (ps.toList[i]'(by omega)).2).cells.size by omega)
    refine ⟨_, cs, _, hp, hcs, hl, ?_, hv⟩
    rw [Nat.zero_add] at e
    rw [e]; exact hv
  have := Rep.sl (G := G.newImm w.heap.size B.toList) (t := .full) (k := k) (xs := (ps.toList.map (·.2)).map ρ) (A := some ⟨w.heap.size, 0, none⟩) (c := n) (b := w.heap.size) (o := 0) (fun i j => (B[i * k + j]?).getD undef) (by rw [hxl]; omega) (fun _ => rfl)
    (fun i x hx => by
      obtain ⟨p', hp', rfl⟩ := map_get hx
      obtain ⟨p, hp, rfl⟩ := map_get hp'
      obtain ⟨cs, hcs, hl⟩ := hpart i p hp
      rw [← ((hrep i p hp).parts hcs).1]; exact hl)
    (fun i j hi hj => by
      obtain ⟨p, cs, u, hp, hcs, hl, hBu, hu⟩ := hBc i j (by omega) hj
      simp [Gh.newImm, hBu])
    (fun i j hi hj => by
      obtain ⟨p, cs, u, hp, hcs, hl, hBu, hu⟩ := hBc i j (by omega) hj
      simp only [hBu, Option.getD_some]
      exact ((hrep i p hp).parts hcs).2.2 u (List.mem_of_getElem? (by simpa using hu)))
    (fun i j x y hx hy => by
      obtain ⟨p', hp', rfl⟩ := map_get hx
      obtain ⟨p, hp, rfl⟩ := map_get hp'
      have hi : i < n := by rw [← hlen]; exact (List.getElem?_eq_some_iff.1 hp).1
      obtain ⟨cs, hcs, hl⟩ := hpart i p hp
      have hpt := (hrep i p hp).parts hcs
      rw [← hpt.1] at hy
      have hj : j < k := by rw [← hl]; exact (List.getElem?_eq_some_iff.1 hy).1
      obtain ⟨p2, cs2, u, hp2, hcs2, hl2, hBu, hu⟩ := hBc i j hi hj
      rw [hp] at hp2; injection hp2 with e; subst e
      simp only [hBu, Option.getD_some]
      exact (hpt.2.1.2 j y u hy (by simpa using hu)).mono hstill.le)
    (by rw [hxl]; rfl)
  rwa [hxl] at this

end
end Go.Proofs.Ytnfagphepkeedaa
end
section
namespace Go.Proofs.Ytnfagphepkeedaa

section
variable {P : Program} {o : Oper} {ρ : Operand → AV} {S : List AObj} {K : KT}

/-- append into the room that there is, whatever the block's type. -/
theorem run_append_room' (w : World) (t ty e t0 : TypeId) (i : TypeInfo) (ht : P.underlying t = some (.slice e)) (hi : P.info? e = some i) (g sLen sCap : Nat) (cur : Array Value) (hg : w.heap[g]? = some (.cells cur t0 (0, 0)))
    (a : Addr) (m c : Nat) (news : List Value) (hl : news.length = m * i.size) (hnews : ∀ j u, news[j]? = some u → w.cell? (a.add j) = some u) (h1 : ∀ u ∈ news, u.oneCell' = true)
    (hroom : sLen + m ≤ sCap) (hfit : sLen * i.size + news.length ≤ cur.size) :
    (Builtin.append_ #[t, t] ty #[.slice (some ⟨g, 0, none⟩) sLen sCap, .slice (some a) m c]).run P w =
      .ok (.slice (some ⟨g, 0, none⟩) (sLen + m) sCap) (w.setRow g (cur.toList.take (sLen * i.size) ++ news ++ cur.toList.drop (sLen * i.size + news.length)).toArray) := by
  have hf := run_firstCells_some (P := P) w i.size m a m c news hl hnews
  have hst := run_storeCells_at P g (sLen * i.size) t0 news 0 cur w hg (by simpa using hfit) h1
  simp only [Nat.add_zero] at hst
  simp [Builtin.append_, run_underlying ht, sizeOf, typeInfo, hi, Builtin.lenOf, hroom, hf, add_none, hst]
/-- append of nothing. -/
theorem run_append_zero (w : World) (t ty e : TypeId) (i : TypeInfo) (ht : P.underlying t = some (.slice e)) (hi : P.info? e = some i) (A B : Option Addr) (n c c2 : Nat) (hc : n ≤ c) :
    (Builtin.append_ #[t, t] ty #[.slice A n c, .slice B 0 c2]).run P w = .ok (.slice A n c) w := by
  cases A <;> cases B <;> simp [Builtin.append_, run_underlying ht, sizeOf, typeInfo, hi, Builtin.lenOf, Builtin.firstCells, hc, storeCells, loadCells, loadCellsFrom]

/-- The cells of a slice, one behind the other. -/
theorem sl_cells {G : Gh} {t : Tag} {k : Nat} {xs : List AV} {A : Option Addr} {n c : Nat} (r : Rep G (.sl t k xs) (.slice A n c)) (hk : 1 ≤ k) :
    ∃ vs : List Value, n = xs.length ∧ n ≤ c ∧ vs.length = xs.length * k ∧ (∀ u ∈ vs, u.oneCell' = true) ∧ (∀ (i j : Nat) (x y : AV), xs[i]? = some x → x.cells[j]? = some y → ∃ u, vs[i * k + j]? = some u ∧ Rep G y u) ∧ (∀ (i : Nat) (x : AV), xs[i]? = some x → x.cells.length = k) ∧
      (0 < xs.length → ∃ b o, A = some ⟨b, o, none⟩ ∧ ∀ (q : Nat) (u : Value), vs[q]? = some u → G.imm b (o + q) = some u) ∧ TagOk G t A n c := by
  cases r with
  | @sl _ _ _ _ _ b o vs hc hA hk' g1 g2 g3 ht =>
    have hdm : ∀ i j, j < k → (i * k + j) / k = i ∧ (i * k + j) % k = j := fun i j hj => by
      rw [Nat.mul_comm]
      exact ⟨by rw [Nat.mul_add_div (by omega), Nat.div_eq_of_lt hj]; rfl, by rw [Nat.mul_add_mod, Nat.mod_eq_of_lt hj]⟩
    have hq : ∀ q, q < xs.length * k → q / k < xs.length ∧ q % k < k := fun q hq => ⟨Nat.div_lt_of_lt_mul (by rw [Nat.mul_comm]; exact hq), Nat.mod_lt _ (by omega)⟩
    refine ⟨(List.range (xs.length * k)).map fun q => vs (q / k) (q % k), rfl, hc, by simp, fun u hu => ?_, fun i j x y hx hy => ?_, hk', fun h0 => ⟨b, o, hA h0, fun q u hu => ?_⟩, ht⟩
    · simp only [List.mem_map, List.mem_range] at hu
      obtain ⟨q, hq1, rfl⟩ := hu
      exact g2 _ _ (hq q hq1).1 (hq q hq1).2
    · have hi : i < xs.length := (List.getElem?_eq_some_iff.1 hx).1
      have hj : j < k := by rw [← hk' i x hx]; exact (List.getElem?_eq_some_iff.1 hy).1
      have hlt : i * k + j < xs.length * k := by
        have : (i + 1) * k ≤ xs.length * k := Nat.mul_le_mul_right _ (by omega)
        rw [Nat.add_mul] at this; omega
      refine ⟨vs i j, ?_, g3 i j x y hx hy⟩
      rw [List.getElem?_map, List.getElem?_range hlt, Option.map_some, (hdm i j hj).1, (hdm i j hj).2]
    · have hlt : q < xs.length * k := by have := (List.getElem?_eq_some_iff.1 hu).1; simpa using this
      rw [List.getElem?_map, List.getElem?_range hlt] at hu
      simp at hu
      rw [← hu]
      have := g1 _ _ (hq q hlt).1 (hq q hlt).2
      rwa [Nat.add_assoc, Nat.mul_comm, Nat.div_add_mod] at this

/-- A slice of known cells that lie still at a block's head. -/
theorem rep_of_cells {G : Gh} {t : Tag} {k b c : Nat} {zs : List AV} {vs : List Value} (hl : vs.length = zs.length * k) (hc : zs.length ≤ c) (h1 : ∀ u ∈ vs, u.oneCell' = true) (hk : ∀ (i : Nat) (x : AV), zs[i]? = some x → x.cells.length = k)
    (hi : ∀ (q : Nat) (u : Value), vs[q]? = some u → G.imm b q = some u) (hr : ∀ (i j : Nat) (x y : AV) (u : Value), zs[i]? = some x → x.cells[j]? = some y → vs[i * k + j]? = some u → Rep G y u) (ht : TagOk G t (some ⟨b, 0, none⟩) zs.length c) :
    Rep G (.sl t k zs) (.slice (some ⟨b, 0, none⟩) zs.length c) := by
  have hlt : ∀ i j, i < zs.length → j < k → i * k + j < vs.length := fun i j h h' => by
    have : (i + 1) * k ≤ zs.length * k := Nat.mul_le_mul_right _ (by omega)
    rw [Nat.add_mul] at this; omega
  refine .sl (b := b) (o := 0) (fun i j => vs.getD (i * k + j) undef) hc (fun _ => rfl) hk (fun i j hi' hj => ?_) (fun i j hi' hj => ?_) (fun i j x y hx hy => ?_) ht
  · rw [Nat.zero_add]; exact hi _ _ (by simp [hlt i j hi' hj])
  · exact h1 _ (List.mem_of_getElem? (i := i * k + j) (by simp [hlt i j hi' hj]))
  · have hi' : i < zs.length := (List.getElem?_eq_some_iff.1 hx).1
    have hj : j < k := by rw [← hk i x hx]; exact (List.getElem?_eq_some_iff.1 hy).1
    exact hr i j x y _ hx hy (by simp [hlt i j hi' hj])

theorem append_reps {G : Gh} {k : Nat} {xs ys : List AV} {vs us : List Value} (hv : vs.length = xs.length * k) (h1 : ∀ (i j : Nat) (x y : AV), xs[i]? = some x → x.cells[j]? = some y → ∃ u, vs[i * k + j]? = some u ∧ Rep G y u) (hxk : ∀ (i : Nat) (x : AV), xs[i]? = some x → x.cells.length = k)
    (h2 : ∀ (i j : Nat) (x y : AV), ys[i]? = some x → x.cells[j]? = some y → ∃ u, us[i * k + j]? = some u ∧ Rep G y u) (hyk : ∀ (i : Nat) (x : AV), ys[i]? = some x → x.cells.length = k) :
    (∀ (i : Nat) (x : AV), (xs ++ ys)[i]? = some x → x.cells.length = k) ∧ ∀ (i j : Nat) (x y : AV) (u : Value), (xs ++ ys)[i]? = some x → x.cells[j]? = some y → (vs ++ us)[i * k + j]? = some u → Rep G y u := by
  refine ⟨fun i x hx => ?_, fun i j x y u hx hy hu => ?_⟩
  · rw [List.getElem?_append] at hx
    split at hx
    · exact hxk i x hx
    · exact hyk _ x hx
  · rw [List.getElem?_append] at hx
    split at hx
    · rename_i hi
      obtain ⟨u', hu', hr⟩ := h1 i j x y hx hy
      have hlt := (List.getElem?_eq_some_iff.1 hu').1
      rw [List.getElem?_append_left hlt, hu'] at hu
      injection hu with e; subst e; exact hr
    · rename_i hi
      obtain ⟨u', hu', hr⟩ := h2 _ j x y hx hy
      have hle : xs.length * k ≤ i * k := Nat.mul_le_mul_right _ (by omega)
      have hs : (i - xs.length) * k = i * k - xs.length * k := Nat.sub_mul _ _ _
      rw [List.getElem?_append_right (by omega), show i * k + j - vs.length = (i - xs.length) * k + j by omega, hu'] at hu
      injection hu with e; subst e; exact hr

theorem flat_nil : flat [] = [] := rfl
theorem flat_get {k : Nat} : ∀ (ys : List AV), (∀ (i : Nat) (x : AV), ys[i]? = some x → x.cells.length = k) → (flat ys).length = ys.length * k ∧ ∀ (q : Nat) (y : AV), (flat ys)[q]? = some y → ∃ i j x, q = i * k + j ∧ ys[i]? = some x ∧ x.cells[j]? = some y
  | [], _ => ⟨by simp [flat], fun q y h => by simp [flat] at h⟩
  | x :: ys, hk => by
    have hx : x.cells.length = k := hk 0 x rfl
    obtain ⟨h1, h2⟩ := flat_get ys (fun i x h => hk (i + 1) x (by simpa using h))
    have e : flat (x :: ys) = x.cells ++ flat ys := by simp [flat]
    refine ⟨by rw [e, List.length_append, h1, hx, List.length_cons, Nat.add_mul]; omega, fun q y hq => ?_⟩
    rw [e, List.getElem?_append] at hq
    split at hq
    · exact ⟨0, q, x, by omega, rfl, hq⟩
    · rename_i hge
      obtain ⟨i, j, z, h3, h4, h5⟩ := h2 _ y hq
      exact ⟨i + 1, j, z, by rw [Nat.add_mul]; omega, by simpa using h4, h5⟩

/-- append that lays a new row: what there was, what is put behind it, and room. -/
theorem run_app_new (w : World) {t e ty : TypeId} {i : TypeInfo} {z : Value} (ht : P.underlying t = some (.slice e)) (hi : P.info? e = some i) (hz0 : i.zero = some z) (hzs : z.cells.size = i.size) (hb1 : 1 ≤ i.bytes) (A : Option Addr) (n c : Nat) (olds : List Value) (hlo : olds.length = n * i.size)
    (holds : ∀ ad, A = some ad → ∀ j v, olds[j]? = some v → w.cell? (ad.add j) = some v) (hA : A = none → c = 0 ∧ n = 0) (B : Addr) (m cx : Nat) (news : List Value) (hl : news.length = m * i.size) (hnews : ∀ j v, news[j]? = some v → w.cell? (B.add j) = some v) (hm : 0 < m) (hcap : c < n + m) (hbd : (n + m) * i.bytes ≤ 140737488355328) :
    ∃ (cap : Nat) (cells : Array Value), (Builtin.append_ #[t, t] ty #[.slice A n c, .slice (some B) m cx]).run P w = .ok (.slice (some ⟨w.heap.size, 0, none⟩) (n + m) cap) (w.drew.alloc (.cells cells e)) ∧ n + m ≤ cap ∧ cap ≤ 9223372036854775807 ∧ cells.size = cap * i.size ∧
      ∀ (q : Nat) (v : Value), (olds ++ news)[q]? = some v → cells[q]? = some v := by
  have hsmall : n + m ≤ 140737488355328 := Nat.le_trans (Nat.le_mul_of_pos_right _ hb1) hbd
  let cap := grownCap w (n + m) c e
  have hge : n + m ≤ cap := grownCap_ge w _ c e
  have h63 : cap ≤ 9223372036854775807 := by
    have := grownCap_le_maxLen w (n + m) c e (by unfold maxLen; omega)
    unfold maxLen at this
    show grownCap w (n + m) c e ≤ _
    omega
  let cells : Array Value := olds.toArray ++ news.toArray ++ Builtin.zeroCells z.cells (cap - (n + m))
  refine ⟨cap, cells, ?_, hge, h63, ?_, fun q v hv => ?_⟩
  · cases A with
    | none =>
      obtain ⟨rfl, rfl⟩ := hA rfl
      have hvn : olds = [] := List.eq_nil_of_length_eq_zero (by rw [hlo]; omega)
      subst hvn
      have := run_append_nil (P := P) w t ty e i z ht hi hz0 B m cx news hl hnews hm (by omega) (by simp at hbd; omega)
      simpa [cells, cap] using this
    | some ad => exact run_append_grow (P := P) w t ty e i z ht hi hz0 ad n c olds hlo (holds ad rfl) B m cx news hl hnews hcap (by omega) (growslice_fits hcap hbd)
  · simp only [cells, Array.size_append, List.size_toArray, size_zeroCells, hzs, hlo, hl, ← Nat.add_mul]
    congr 1; omega
  · have hlt := (List.getElem?_eq_some_iff.1 hv).1
    have : cells.toList[q]? = some v := by
      simp only [cells, Array.toList_append]
      rw [List.getElem?_append_left (by simpa using hlt)]
      exact hv
    simpa using this

/-- append onto a row that may turn. -/
theorem snd_appM {t e : TypeId} {s x : Operand} {c : Call} {i : TypeInfo} {zs : List Value} (hop : o.op = .call c) (hcal : c.callee = .builtin .append) (ha : c.args.toList = [s, x]) (hat : c.argTypes.toList = [t, t])
    (ht : P.underlying t = some (.slice e)) (hi : P.info? e = some i) (hz : zeroO P e = some zs) (hzl : zs.length = i.size) (hk1 : 1 ≤ i.size) (hb1 : 1 ≤ i.bytes) {j g ky : Nat} {ys : List AV} {tg : Tag} (hs : ρ s = .ms j g) (hx : ρ x = .sl tg ky ys) (h : kAppM i.size i.bytes j g ky ys S K) : SND P o ρ S K := by
  have hargs : c.args = #[s, x] := by rw [← ha]
  have hats : c.argTypes = #[t, t] := by rw [← hat]
  obtain ⟨it, z, hit, hz0, hzc, ho⟩ := zeroO_some hz
  rw [hi] at hit; injection hit with hit; subst hit
  have hzs : z.cells.size = i.size := by rw [← hzl, hzc]; simp
  have hrun : ∀ (a : Act) (w : World) (v : Value) (w' : World), (Builtin.append_ #[t, t] o.type #[a.eval s, a.eval x]).run P w = .ok v w' → (execOp a.eval o).run P w = .ok (.value v) w' := by
    intro a w v w' hv
    simp [execOp, hop, resolve, hcal, hargs, hats, invoke, builtin, hv]
  unfold kAppM at h
  split at h
  · rename_i k m xs hS
    obtain ⟨rfl, rfl, hky, hbd, hK⟩ := h
    refine ⟨_, [j], [(j, _)], [], fun T hT _ G a w hw hr Kc Q hk => ?_, by simp, (fun q hq => by simp at hq; subst hq; exact (List.getElem?_eq_some_iff.1 hS).1), hK⟩
    have hTj : T[j]? = some (.mrow i.size m xs) := (hT j (by simp)).trans hS
    have hlt : j < T.length := (List.getElem?_eq_some_iff.1 hTj).1
    have r1 := hr s (by simp [hop, Op.operands, Call.operands, hargs])
    have r2 := hr x (by simp [hop, Op.operands, Call.operands, hargs])
    rw [hs] at r1
    rw [hx] at r2
    have r2' : Rep G (.sl tg i.size ys) (a.eval x) := by
      rcases hky with rfl | rfl
      · exact r2
      · exact r2.rek
    obtain ⟨B, m2, cx, ex⟩ : ∃ B m2 cx, a.eval x = .slice B m2 cx := by generalize a.eval x = vx at r2'; cases r2'; exact ⟨_, _, _, rfl⟩
    obtain ⟨A, c', es, hh⟩ : ∃ A c', a.eval s = .slice A m c' ∧ G.hist j m = some (.slice A m c') := by generalize a.eval s = vx at r1; cases r1 with | ms h _ => exact ⟨_, _, rfl, h⟩
    rw [ex] at r2'
    obtain ⟨us, hm, huc, hul, hu1, hu2, huk, hu3, _⟩ := sl_cells r2' hk1
    subst hm
    obtain ⟨_, hxl, A', cap', q1, q2, q3, q6, q4⟩ := hw.mrow j _ _ _ hTj
    rw [hh] at q1; injection q1 with q1; injection q1 with e1 _ e3; subst e1 e3
    obtain ⟨hfl, hfg⟩ := flat_get ys huk
    have hlen : (xs ++ flat ys).length = (m + ys.length) * i.size := by rw [List.length_append, hxl, hfl, Nat.add_mul]
    have hnewrep : ∀ (q : Nat) (x : AV) (v : Value), (flat ys)[q]? = some x → us[q]? = some v → v.oneCell' = true ∧ Rep G x v := fun q x v hx hv => by
      obtain ⟨i', j', y, rfl, h1, h2⟩ := hfg q x hx
      obtain ⟨u, h3, h4⟩ := hu2 i' j' y x h1 h2
      rw [hv] at h3; injection h3 with h3; subst h3
      exact ⟨hu1 v (List.mem_of_getElem? hv), h4⟩
    by_cases hy0 : 0 < ys.length
    · obtain ⟨b2, o2, rfl, hu4⟩ := hu3 hy0
      have hnews : ∀ j u, us[j]? = some u → w.cell? ((⟨b2, o2, none⟩ : Addr).add j) = some u := fun j u hu => by rw [add_none]; exact hw.imm _ _ _ (hu4 j u hu)
      by_cases hroom : m + ys.length ≤ c'
      · obtain ⟨b, cur, t0, e1, g2, g3, g4, g5⟩ := q4 (by omega)
        subst e1
        have hb : blk G T j = some b := by simp [blk, hTj, hh, show 0 < c' by omega]
        have hfit : m * i.size + us.length ≤ cur.size := by rw [hul, g3, ← Nat.add_mul]; exact Nat.mul_le_mul_right _ hroom
        have hrn := run_append_room' (P := P) w t o.type e t0 i ht hi b m c' cur g2 ⟨b2, o2, none⟩ ys.length cx us hul hnews hu1 hroom hfit
        have hrn2 := hrun a w _ _ (by rw [es, ex]; exact hrn)
        unfold Oper.wp
        rw [hrn2]
        have htn := turn_setRow (cs' := (cur.toList.take (m * i.size) ++ us ++ cur.toList.drop (m * i.size + us.length)).toArray) g2
        have hleft := Left.mrowTo (n := m + ys.length) (c := c') (A := some ⟨b, 0, none⟩) (xs := xs ++ flat ys) hw (.inr ⟨m, xs, hTj, .inl (by omega)⟩) hk1 hlen hroom q6 (htn.own hb)
          (fun _ => ⟨b, _, t0, rfl, htn.here, by simp; omega, fun q x v hx hv => by
            simp only [List.getElem?_toArray] at hv
            rw [List.getElem?_append] at hx
            split at hx
            · rename_i hq
              rw [List.append_assoc, List.getElem?_append_left (by simp; omega), List.getElem?_take, if_pos (by omega)] at hv
              exact g4 q x v hx (by simpa using hv)
            · rename_i hq
              have hq1 := (List.getElem?_eq_some_iff.1 hx).1
              have hq2 : (List.take (m * i.size) cur.toList).length = m * i.size := by simp; omega
              rw [List.append_assoc, List.getElem?_append_right (by omega), hq2, List.getElem?_append_left (by omega)] at hv
              rw [hxl] at hx
              exact hnewrep _ x v hx hv, .inr hb⟩)
        refine hk _ _ _ ?_ (by simpa [newU] using hleft)
        exact .ms (by simp [Gh.newHist]) fun _ => ⟨b, rfl⟩
      · have hold : ∃ olds : List Value, olds.length = m * i.size ∧ (∀ ad, A = some ad → ∀ j v, olds[j]? = some v → w.cell? (ad.add j) = some v) ∧ (A = none → c' = 0 ∧ m = 0) ∧ ∀ (q : Nat) (x : AV) (v : Value), xs[q]? = some x → olds[q]? = some v → v.oneCell' = true ∧ Rep G x v := by
          by_cases hc : 0 < c'
          · obtain ⟨b, cur, t0, e1, g2, g3, g4, g5⟩ := q4 hc
            subst e1
            have hmk : m * i.size ≤ c' * i.size := Nat.mul_le_mul_right _ q3
            have hcl : (cur.toList.take (m * i.size)).length = m * i.size := by simp; omega
            have hcg : ∀ (q : Nat) (v : Value), (cur.toList.take (m * i.size))[q]? = some v → cur[q]? = some v := fun q v hv => by
              have := (List.getElem?_eq_some_iff.1 hv).1
              rw [List.getElem?_take, if_pos (by omega)] at hv
              simpa using hv
            exact ⟨cur.toList.take (m * i.size), hcl, fun ad had j v hv => by injection had with had; subst had; rw [add_none, Nat.zero_add, cell_at g2]; exact hcg j v hv, fun hA => (by cases hA), fun q x v hx hv => g4 q x v hx (hcg q v hv)⟩
          · have hm0 : m = 0 := by omega
            exact ⟨[], by simp [hm0], fun _ _ _ _ h => by simp at h, fun _ => ⟨by omega, hm0⟩, fun q x v _ h => by simp at h⟩
        obtain ⟨olds, hol, ho1, ho2, ho3⟩ := hold
        obtain ⟨cap, cells, hrn, hge, h63, hcs, hpre⟩ := run_app_new (P := P) w (ty := o.type) ht hi hz0 hzs hb1 A m c' olds hol ho1 ho2 ⟨b2, o2, none⟩ ys.length cx us hul hnews hy0 (by omega) hbd
        have hrn2 := hrun a w _ _ (by rw [es, ex]; exact hrn)
        unfold Oper.wp
        rw [hrn2]
        have hmo := More.drew w (.cells cells e)
        have hleft := Left.mrowTo (n := m + ys.length) (c := cap) (A := some ⟨w.heap.size, 0, none⟩) (xs := xs ++ flat ys) hw (.inr ⟨m, xs, hTj, .inl (by omega)⟩) hk1 hlen hge h63 (hmo.kept _)
          (fun _ => ⟨w.heap.size, cells, e, rfl, hmo.new, hcs, fun q x v hx hv => by
            have hq1 := (List.getElem?_eq_some_iff.1 hx).1
            have hql : q < (olds ++ us).length := by rw [List.length_append, hol, hul, ← Nat.add_mul]; omega
            have hq2 := hpre q _ (List.getElem?_eq_getElem hql)
            rw [hv] at hq2; injection hq2 with hq2
            have hq3 : (olds ++ us)[q]? = some v := by rw [hq2]; exact List.getElem?_eq_getElem hql
            rw [List.getElem?_append] at hx hq3
            rw [hxl] at hx
            rw [hol] at hq3
            split at hx
            · rename_i hq; rw [if_pos hq] at hq3; exact ho3 q x v hx hq3
            · rename_i hq; rw [if_neg hq] at hq3; exact hnewrep _ x v hx hq3, .inl (Nat.le_refl _)⟩)
        refine hk _ _ _ ?_ (by simpa [newU] using hleft)
        exact .ms (by simp [Gh.newHist]) fun _ => ⟨_, rfl⟩
    · have hyn : ys = [] := List.eq_nil_of_length_eq_zero (by omega)
      subst hyn
      have hz := run_append_zero (P := P) w t o.type e i ht hi A B m c' cx q3
      have hrn := hrun a w _ _ (by rw [es, ex]; exact hz)
      unfold Oper.wp
      rw [hrn]
      refine hk _ w G (by rw [← es]; simpa using r1) ?_
      have : T.set j (.mrow i.size m xs) = T := by
        apply List.ext_getElem?
        intro q
        by_cases e : q = j
        · subst e; rw [List.getElem?_set_self hlt, hTj]
        · rw [List.getElem?_set_ne (Ne.symm e)]
      simpa [newU, this, flat] using Left.refl hw
  · exact h.elim

/-- append that copies a slice into a row that may turn. -/
theorem snd_appC {t e : TypeId} {s x : Operand} {c : Call} {i : TypeInfo} {zs : List Value} (hop : o.op = .call c) (hcal : c.callee = .builtin .append) (ha : c.args.toList = [s, x]) (hat : c.argTypes.toList = [t, t])
    (ht : P.underlying t = some (.slice e)) (hi : P.info? e = some i) (hz : zeroO P e = some zs) (hzl : zs.length = i.size) (hk1 : 1 ≤ i.size) (hb1 : 1 ≤ i.bytes) {ks ky : Nat} {ys : List AV} (hs : ρ s = .sl .full ks []) (hx : ρ x = .slc ky ys)
    (hky : ky = i.size ∨ ys = []) (hbd : ys.length * i.bytes ≤ 140737488355328) (hK : K (.ms S.length ys.length) [] [] [.mrow i.size ys.length (flat ys)]) : SND P o ρ S K := by
  have hargs : c.args = #[s, x] := by rw [← ha]
  have hats : c.argTypes = #[t, t] := by rw [← hat]
  obtain ⟨it, z, hit, hz0, hzc, ho⟩ := zeroO_some hz
  rw [hi] at hit; injection hit with hit; subst hit
  have hzs : z.cells.size = i.size := by rw [← hzl, hzc]; simp
  have hrun : ∀ (a : Act) (w : World) (v : Value) (w' : World), (Builtin.append_ #[t, t] o.type #[a.eval s, a.eval x]).run P w = .ok v w' → (execOp a.eval o).run P w = .ok (.value v) w' := by
    intro a w v w' hv
    simp [execOp, hop, resolve, hcal, hargs, hats, invoke, builtin, hv]
  refine ⟨_, [], [], [_], fun T _ hd G a w hw hr Kc Q hk => ?_, (fun p hp => by cases hp), (fun i hi => by simp at hi), hK⟩
  have hid : T[S.length]? = some .dead := hd (S.length, .mrow i.size ys.length (flat ys)) (by simp [newU])
  have r1 := hr s (by simp [hop, Op.operands, Call.operands, hargs])
  have r2 := hr x (by simp [hop, Op.operands, Call.operands, hargs])
  rw [hs] at r1
  rw [hx] at r2
  have r2' : Rep G (.sl .none i.size ys) (a.eval x) := by
    cases r2 with
    | slc r2 =>
      rcases hky with rfl | rfl
      · exact r2
      · exact r2.rek
  obtain ⟨B, m2, cx, ex⟩ : ∃ B m2 cx, a.eval x = .slice B m2 cx := by generalize a.eval x = vx at r2'; cases r2'; exact ⟨_, _, _, rfl⟩
  obtain ⟨A, es⟩ : ∃ A, a.eval s = .slice A 0 0 := by
    generalize a.eval s = vx at r1
    cases r1 with
    | @sl _ _ _ A c' _ _ _ _ _ _ _ _ _ ht' =>
      have : c' = 0 := ht'
      subst this; exact ⟨A, rfl⟩
  rw [ex] at r2'
  obtain ⟨us, hm, huc, hul, hu1, hu2, huk, hu3, _⟩ := sl_cells r2' hk1
  subst hm
  obtain ⟨hfl, hfg⟩ := flat_get ys huk
  have hnewrep : ∀ (q : Nat) (x : AV) (v : Value), (flat ys)[q]? = some x → us[q]? = some v → v.oneCell' = true ∧ Rep G x v := fun q x v hx hv => by
    obtain ⟨i', j', y, rfl, h1, h2⟩ := hfg q x hx
    obtain ⟨u, h3, h4⟩ := hu2 i' j' y x h1 h2
    rw [hv] at h3; injection h3 with h3; subst h3
    exact ⟨hu1 v (List.mem_of_getElem? hv), h4⟩
  by_cases hy0 : 0 < ys.length
  · obtain ⟨b2, o2, rfl, hu4⟩ := hu3 hy0
    have hnews : ∀ j u, us[j]? = some u → w.cell? ((⟨b2, o2, none⟩ : Addr).add j) = some u := fun j u hu => by rw [add_none]; exact hw.imm _ _ _ (hu4 j u hu)
    obtain ⟨cap, cells, hrn, hge, h63, hcs, hpre⟩ := run_app_new (P := P) w (ty := o.type) ht hi hz0 hzs hb1 A 0 0 [] (by simp) (fun _ _ _ _ h => by simp at h) (fun _ => ⟨rfl, rfl⟩) ⟨b2, o2, none⟩ ys.length cx us hul hnews hy0 (by omega) (by simpa using hbd)
    simp only [Nat.zero_add, List.nil_append] at hrn hge hpre
    have hrn2 := hrun a w _ _ (by rw [es, ex]; exact hrn)
    unfold Oper.wp
    rw [hrn2]
    have hmo := More.drew w (.cells cells e)
    have hleft := Left.mrowTo (n := ys.length) (c := cap) (A := some ⟨w.heap.size, 0, none⟩) (xs := flat ys) hw (.inl hid) hk1 hfl hge h63 (hmo.kept _)
      (fun _ => ⟨w.heap.size, cells, e, rfl, hmo.new, hcs, fun q x v hx hv => by
        have hq1 := (List.getElem?_eq_some_iff.1 hx).1
        have hql : q < us.length := by rw [hul]; omega
        have hq2 := hpre q _ (List.getElem?_eq_getElem hql)
        rw [hv] at hq2; injection hq2 with hq2
        exact hnewrep q x v hx (by rw [hq2]; exact List.getElem?_eq_getElem hql), .inl (Nat.le_refl _)⟩)
    refine hk _ _ _ ?_ (by simpa [newU] using hleft)
    exact .ms (by simp [Gh.newHist]) fun _ => ⟨_, rfl⟩
  · have hyn : ys = [] := List.eq_nil_of_length_eq_zero (by omega)
    subst hyn
    have hz := run_append_zero (P := P) w t o.type e i ht hi A B 0 0 cx (Nat.le_refl _)
    have hrn := hrun a w _ _ (by rw [es, ex]; exact hz)
    unfold Oper.wp
    rw [hrn]
    have hleft := Left.mrowTo (n := 0) (c := 0) (A := A) (xs := []) (j := S.length) (k := i.size) hw (.inl hid) hk1 (by simp) (Nat.le_refl _) (by omega) (Kept.refl _ w) (fun h => by omega)
    refine hk _ w _ ?_ (by simpa [newU, flat] using hleft)
    exact .ms (by simp [Gh.newHist]) fun h => by simp at h

theorem snd_app {t e : TypeId} {s x : Operand} {c : Call} {i : TypeInfo} {zs : List Value} (hop : o.op = .call c) (hcal : c.callee = .builtin .append) (ha : c.args.toList = [s, x]) (hat : c.argTypes.toList = [t, t])
    (ht : P.underlying t = some (.slice e)) (hi : P.info? e = some i) (hz : zeroO P e = some zs) (hzl : zs.length = i.size) (hk1 : 1 ≤ i.size) (hb1 : 1 ≤ i.bytes) (h : kApp i.size i.bytes (ρ s) (ρ x) S K) : SND P o ρ S K := by
  have hargs : c.args = #[s, x] := by rw [← ha]
  have hats : c.argTypes = #[t, t] := by rw [← hat]
  obtain ⟨it, z, hit, hz0, hzc, ho⟩ := zeroO_some hz
  rw [hi] at hit; injection hit with hit; subst hit
  have hzs : z.cells.size = i.size := by rw [← hzl, hzc]; simp
  generalize hK' : i.size = k at *
  have hrun : ∀ (a : Act) (w : World) (v : Value) (w' : World), (Builtin.append_ #[t, t] o.type #[a.eval s, a.eval x]).run P w = .ok v w' → (execOp a.eval o).run P w = .ok (.value v) w' := by
    intro a w v w' hv
    simp [execOp, hop, resolve, hcal, hargs, hats, invoke, builtin, hv]
  unfold kApp at h
  split at h
  · rename_i j g tg ky ys hs hx
    exact snd_appM hop hcal ha hat ht hi hz (by omega) (by omega) hb1 hs hx (by rw [hK']; exact h)
  · rename_i tg ks xs ky ys hs hx
    obtain ⟨rfl, rfl, hky, hbd, hK⟩ := h
    exact snd_appC hop hcal ha hat ht hi hz (by omega) (by omega) hb1 hs hx (by rw [hK']; exact hky) hbd (by rw [hK']; exact hK)
  · rename_i tg ks xs tg2 ky ys hs hx
    obtain ⟨hks, hky, hbd, h⟩ := h
    have hsmall : xs.length + ys.length ≤ 140737488355328 := Nat.le_trans (Nat.le_mul_of_pos_right _ hb1) hbd
    -- the two slices
    have hboth : ∀ (G : Gh) (a : Act), (∀ x ∈ o.op.operands, Rep G (ρ x) (a.eval x)) → (∃ A n c', a.eval s = .slice A n c' ∧ Rep G (.sl tg k xs) (.slice A n c')) ∧ ∃ B m c', a.eval x = .slice B m c' ∧ Rep G (.sl tg2 k ys) (.slice B m c') := by
      intro G a hr
      have r1 := hr s (by simp [hop, Op.operands, Call.operands, hargs])
      have r2 := hr x (by simp [hop, Op.operands, Call.operands, hargs])
      rw [hs] at r1
      rw [hx] at r2
      have r1' : Rep G (.sl tg k xs) (a.eval s) := by
        rcases hks with rfl | rfl
        · exact r1
        · exact r1.rek
      have r2' : Rep G (.sl tg2 k ys) (a.eval x) := by
        rcases hky with rfl | rfl
        · exact r2
        · exact r2.rek
      generalize a.eval s = u1 at r1'
      generalize a.eval x = u2 at r2'
      refine ⟨?_, ?_⟩
      · cases r1' with
        | @sl _ _ _ A c' _ _ vs q1 q2 q3 q4 q5 q6 q7 => exact ⟨A, _, c', rfl, .sl vs q1 q2 q3 q4 q5 q6 q7⟩
      · cases r2' with
        | @sl _ _ _ A c' _ _ vs q1 q2 q3 q4 q5 q6 q7 => exact ⟨A, _, c', rfl, .sl vs q1 q2 q3 q4 q5 q6 q7⟩
    -- the arm in which a new array is made
    have grown : ∀ (G : Gh) (a : Act) (w : World) (T : List AObj) (id : Nat) (A B : Option Addr) (cs cx : Nat), Wd G T w → a.eval s = .slice A xs.length cs → a.eval x = .slice B ys.length cx → Rep G (.sl tg k xs) (.slice A xs.length cs) → Rep G (.sl tg2 k ys) (.slice B ys.length cx) →
        0 < ys.length → cs < xs.length + ys.length → (A = none → cs = 0) → (T[id]? = some .dead ∨ ∃ m, m < xs.length + ys.length ∧ T[id]? = some (.row k m)) →
        ∃ v' w' G', (execOp a.eval o).run P w = .ok (.value v') w' ∧ Rep G' (.sl (.row id) k (xs ++ ys)) v' ∧ Left G T w G' (T.set id (.row k (xs.length + ys.length))) w' := by
      intro G a w T id A B cs cx hw es ex r1 r2 hy0 hcap hA0 hid
      obtain ⟨vs, _, hvc, hvl, hv1, hv2, hvk, hv3, _⟩ := sl_cells r1 hk1
      obtain ⟨us, _, huc, hul, hu1, hu2, huk, hu3, _⟩ := sl_cells r2 hk1
      obtain ⟨b2, o2, rfl, hu4⟩ := hu3 hy0
      have hnews : ∀ j u, us[j]? = some u → w.cell? ((⟨b2, o2, none⟩ : Addr).add j) = some u := fun j u hu => by rw [add_none]; exact hw.imm _ _ _ (hu4 j u hu)
      let cap := grownCap w (xs.length + ys.length) cs e
      have hge : xs.length + ys.length ≤ cap := grownCap_ge w _ cs e
      let cells : Array Value := vs.toArray ++ us.toArray ++ Builtin.zeroCells z.cells (cap - (xs.length + ys.length))
      have hrun2 : (Builtin.append_ #[t, t] o.type #[a.eval s, a.eval x]).run P w = .ok (.slice (some ⟨w.heap.size, 0, none⟩) (xs.length + ys.length) cap) (w.drew.alloc (.cells cells e)) := by
        rw [es, ex]
        cases A with
        | none =>
          have hcs := hA0 rfl
          have hx0 : xs.length = 0 := by omega
          have hxn : xs = [] := List.eq_nil_of_length_eq_zero hx0
          have hvn : vs = [] := List.eq_nil_of_length_eq_zero (by rw [hvl, hx0]; omega)
          subst hcs hxn hvn
          have := run_append_nil (P := P) w t o.type e i z ht hi hz0 ⟨b2, o2, none⟩ ys.length cx us (by rw [hul, hK']) hnews hy0 (by simp at hsmall; omega) (by simp at hbd; omega)
          simpa [cells, cap] using this
        | some ad =>
          have holds : ∀ j v, vs[j]? = some v → w.cell? (ad.add j) = some v := fun j v hv => by
            have hx0 : 0 < xs.length := by
              rcases Nat.eq_zero_or_pos xs.length with h | h
              · have := (List.getElem?_eq_some_iff.1 hv).1; rw [hvl, h] at this; omega
              · exact h
            obtain ⟨b1, o1, e1, hv4⟩ := hv3 hx0
            injection e1 with e1; subst e1
            rw [add_none]; exact hw.imm _ _ _ (hv4 j v hv)
          exact run_append_grow (P := P) w t o.type e i z ht hi hz0 ad xs.length cs vs (by rw [hvl, hK']) holds ⟨b2, o2, none⟩ ys.length cx us (by rw [hul, hK']) hnews hcap (by omega) (growslice_fits hcap hbd)
      have hlen : (vs ++ us).length = (xs.length + ys.length) * k := by rw [List.length_append, hvl, hul, Nat.add_mul]
      have hcells : cells.size = cap * k := by
        simp only [cells, Array.size_append, List.size_toArray, size_zeroCells, hzs, hvl, hul, ← Nat.add_mul]
        congr 1; omega
      have hpre : ∀ (q : Nat) (v : Value), (vs ++ us)[q]? = some v → cells[q]? = some v := by
        intro q v hv
        have hlt := (List.getElem?_eq_some_iff.1 hv).1
        have : cells.toList[q]? = some v := by
          simp only [cells, Array.toList_append]
          rw [List.getElem?_append_left (by simpa using hlt)]
          exact hv
        simpa using this
      have hleft := Left.rowNew (id := id) (k := k) (n := xs.length + ys.length) (c := cap) (vs := vs ++ us) (t := e) hw hid hk1 (More.drew w (.cells cells e)) hge hcells hlen hpre
      refine ⟨_, _, _, hrun a w _ _ hrun2, ?_, hleft⟩
      have hap := append_reps (G := G) hvl hv2 hvk hu2 huk
      have := rep_of_cells (G := (G.newImm w.heap.size (vs ++ us)).newHist id (xs.length + ys.length) (.slice (some ⟨w.heap.size, 0, none⟩) (xs.length + ys.length) cap)) (t := .row id) (k := k) (b := w.heap.size) (c := cap) (zs := xs ++ ys) (vs := vs ++ us)
        (by rw [hlen]; simp) (by simpa using hge) (fun u hu => by rcases List.mem_append.1 hu with h | h; exact hv1 u h; exact hu1 u h) hap.1 (fun q u hu => by simpa [Gh.newImm, Gh.newHist] using hu) (fun i j x y u h1 h2 h3 => (hap.2 i j x y u h1 h2 h3).mono hleft.le) (by simp [TagOk, Gh.newHist])
      simpa using this
    split at h
    · -- its capacity is its length
      refine ⟨_, [], [], [.row k (xs.length + ys.length)], fun T _ hd G a w hw hr Kc Q hk => ?_, (fun p hp => by cases hp), (fun i hi => by simp at hi), h⟩
      have hid : T[S.length]? = some .dead := hd (S.length, .row k (xs.length + ys.length)) (by simp [newU])
      obtain ⟨⟨A, n, c', es, r1⟩, B, m, cx, ex, r2⟩ := hboth G a hr
      obtain ⟨vs, hn, hvc, hvl, hv1, hv2, hvk, hv3, htag⟩ := sl_cells r1 hk1
      have hm : m = ys.length := (sl_cells r2 hk1).choose_spec.1
      subst hn hm
      have htag' : c' = xs.length := htag
      by_cases hy0 : 0 < ys.length
      · obtain ⟨v', w', G', hrn, hrep, hleft⟩ := grown G a w T S.length A B c' cx hw es ex r1 r2 hy0 (by omega) (fun hA => by
          rcases Nat.eq_zero_or_pos xs.length with h | h
          · omega
          · obtain ⟨_, _, e, _⟩ := hv3 h; rw [hA] at e; cases e) (.inl hid)
        unfold Oper.wp
        rw [hrn]
        exact hk v' w' G' hrep (by simpa [newU] using hleft)
      · have hyn : ys = [] := List.eq_nil_of_length_eq_zero (by omega)
        subst hyn
        have hz := run_append_zero (P := P) w t o.type e i ht hi A B xs.length c' cx hvc
        have hrn := hrun a w _ _ (by rw [es, ex]; exact hz)
        unfold Oper.wp
        rw [hrn]
        subst htag'
        obtain ⟨hleft, hh⟩ := Left.rowFull (id := S.length) (k := k) (n := xs.length) (A := A) hw hid hk1
        refine hk _ w _ ?_ (by simpa [newU] using hleft)
        have := (r1.mono hleft.le).retag (t' := .row S.length) hh
        simpa using this
    · -- the present one of a row
      rename_i j
      obtain ⟨hSj, hK⟩ := h
      refine ⟨_, [j], [(j, .row k (xs.length + ys.length))], [], fun T hT _ G a w hw hr Kc Q hk => ?_, by simp, (fun q hq => by simp at hq; subst hq; exact (List.getElem?_eq_some_iff.1 hSj).1), hK⟩
      have hTj : T[j]? = some (.row k xs.length) := (hT j (by simp)).trans hSj
      have hlt : j < T.length := (List.getElem?_eq_some_iff.1 hTj).1
      obtain ⟨⟨A, n, c', es, r1⟩, B, m, cx, ex, r2⟩ := hboth G a hr
      obtain ⟨vs, hn, hvc, hvl, hv1, hv2, hvk, hv3, htag⟩ := sl_cells r1 hk1
      obtain ⟨us, hm, huc, hul, hu1, hu2, huk, hu3, _⟩ := sl_cells r2 hk1
      subst hn hm
      have htag' : G.hist j xs.length = some (.slice A xs.length c') := htag
      obtain ⟨_, A', cap', q1, q2, q3, q4⟩ := hw.row j k _ hTj
      rw [htag'] at q1; injection q1 with q1; injection q1 with e1 _ e3; subst e1 e3
      by_cases hy0 : 0 < ys.length
      · by_cases hroom : xs.length + ys.length ≤ c'
        · obtain ⟨b, cur, t0, e1, g2, g3, g4⟩ := q4 (by omega)
          subst e1
          obtain ⟨b2, o2, rfl, hu4⟩ := hu3 hy0
          have hnews : ∀ j u, us[j]? = some u → w.cell? ((⟨b2, o2, none⟩ : Addr).add j) = some u := fun j u hu => by rw [add_none]; exact hw.imm _ _ _ (hu4 j u hu)
          have hfit : xs.length * k + us.length ≤ cur.size := by rw [hul, g3, ← Nat.add_mul]; exact Nat.mul_le_mul_right _ hroom
          have hrn := run_append_room' (P := P) w t o.type e t0 i ht hi b xs.length c' cur g2 ⟨b2, o2, none⟩ ys.length cx us (by rw [hul, hK']) hnews hu1 hroom (by rw [hK']; exact hfit)
          rw [hK'] at hrn
          have hrn2 := hrun a w _ _ (by rw [es, ex]; exact hrn)
          unfold Oper.wp
          rw [hrn2]
          have hcl : ∀ q, q < xs.length * k → cur[q]? = (cur.toList.take (xs.length * k) ++ us ++ cur.toList.drop (xs.length * k + us.length)).toArray[q]? := fun q hq => by
            simp only [List.getElem?_toArray]
            rw [List.append_assoc, List.getElem?_append_left (by simp; omega), List.getElem?_take, if_pos hq]; simp
          have hnw : ∀ (q : Nat) (v : Value), us[q]? = some v → (cur.toList.take (xs.length * k) ++ us ++ cur.toList.drop (xs.length * k + us.length)).toArray[xs.length * k + q]? = some v := fun q v hv => by
            simp only [List.getElem?_toArray]
            have hq := (List.getElem?_eq_some_iff.1 hv).1
            have hq2 : (List.take (xs.length * k) cur.toList).length = xs.length * k := by simp; omega
            rw [List.append_assoc, List.getElem?_append_right (by omega), hq2, List.getElem?_append_left (by omega)]
            rw [show xs.length * k + q - xs.length * k = q by omega]; exact hv
          have hleft := Left.rowGrow (n' := xs.length + ys.length) (vs := us) hw hTj htag' (by omega) hroom (turn_setRow (cs' := (cur.toList.take (xs.length * k) ++ us ++ cur.toList.drop (xs.length * k + us.length)).toArray) g2) (by simp; omega)
            (fun q hq => by rw [cell_at g2]; exact hcl q hq) (by rw [hul]; congr 1; omega) hnw
          refine hk _ _ _ ?_ (by simpa [newU] using hleft)
          have hap := append_reps (G := G) hvl hv2 hvk hu2 huk
          have hlen : (vs ++ us).length = (xs.length + ys.length) * k := by rw [List.length_append, hvl, hul, Nat.add_mul]
          have := rep_of_cells (G := (G.moreImm b (xs.length * k) us).newHist j (xs.length + ys.length) (.slice (some ⟨b, 0, none⟩) (xs.length + ys.length) c')) (t := .row j) (k := k) (b := b) (c := c') (zs := xs ++ ys) (vs := vs ++ us)
            (by rw [hlen]; simp) (by simpa using hroom) (fun u hu => by rcases List.mem_append.1 hu with h | h; exact hv1 u h; exact hu1 u h) hap.1 (fun q u hu => by
              rw [List.getElem?_append] at hu
              split at hu
              · rename_i hq
                have hx0 : 0 < xs.length := by
                  rcases Nat.eq_zero_or_pos xs.length with h | h
                  · rw [hvl, h] at hq; omega
                  · exact h
                obtain ⟨b1, o1, e1, hv4⟩ := hv3 hx0
                injection e1 with e1; injection e1 with e1 e2; subst e1 e2
                have := hv4 q u hu
                rw [Nat.zero_add] at this
                simpa [Gh.newHist, Gh.moreImm, show ¬ xs.length * k ≤ q by omega] using this
              · rename_i hq
                simp only [Gh.newHist, Gh.moreImm]
                rw [if_pos ⟨trivial, by omega⟩, ← hvl]; exact hu) (fun i j x y u h1 h2 h3 => (hap.2 i j x y u h1 h2 h3).mono hleft.le) (by simp [TagOk, Gh.newHist])
          simpa using this
        · obtain ⟨v', w', G', hrn, hrep, hleft⟩ := grown G a w T j A B c' cx hw es ex r1 r2 hy0 (by omega) (fun hA => by
            rcases Nat.lt_or_ge xs.length c' with h | h
            · obtain ⟨b, _, _, e, _⟩ := q4 h; rw [hA] at e; cases e
            · rcases Nat.eq_zero_or_pos xs.length with h' | h'
              · omega
              · obtain ⟨_, _, e, _⟩ := hv3 h'; rw [hA] at e; cases e) (.inr ⟨_, by omega, hTj⟩)
          unfold Oper.wp
          rw [hrn]
          exact hk v' w' G' hrep (by simpa [newU] using hleft)
      · have hyn : ys = [] := List.eq_nil_of_length_eq_zero (by omega)
        subst hyn
        have hz := run_append_zero (P := P) w t o.type e i ht hi A B xs.length c' cx hvc
        have hrn := hrun a w _ _ (by rw [es, ex]; exact hz)
        unfold Oper.wp
        rw [hrn]
        refine hk _ w G (by simpa using r1) ?_
        have : T.set j (.row k xs.length) = T := by
          apply List.ext_getElem?
          intro q
          by_cases e : q = j
          · subst e; rw [List.getElem?_set_self hlt, hTj]
          · rw [List.getElem?_set_ne (Ne.symm e)]
        simpa [newU, this] using Left.refl hw
    · exact h.elim
  · exact h.elim

theorem snd_s2b {src dst e : TypeId} {x : Operand} (hop : o.op = .convert src dst x) (hs : P.underlying src = some .string) (hd : P.underlying dst = some (.slice e)) (he : P.underlying e = some (.int .u8)) (h : kS2b (ρ x) K) : SND P o ρ S K := by
  unfold kS2b at h
  split at h
  · rename_i s hx
    obtain ⟨_, hK⟩ := h
    refine ⟨_, [], [], [], fun T _ _ G a w hw hr Kc Q hk => ?_, (fun p hp => by cases hp), (fun i hi => by simp at hi), hK⟩
    have r := hr x (by simp [hop, Op.operands])
    rw [hx] at r
    have ex := rep_lit r
    have hrun := run_bytes_of_string (P := P) w src dst e s hs hd he
    have hrn : (execOp a.eval o).run P w = .ok (.value (.slice (some ⟨w.heap.size, 0, none⟩) s.size (grownCap w s.size 0 e)))
        (w.drew.alloc (.cells (bytesRow s (grownCap w s.size 0 e)) e ((bytesRow s (grownCap w s.size 0 e)).size, (bytesRow s (grownCap w s.size 0 e)).size + 1))) := by
      simp only [execOp, hop, ex, Sem.run_bind, hrun, Result.andThen_ok, Sem.run_pure]
    unfold Oper.wp
    rw [hrn]
    let vs : List Value := s.data.toList.map fun b => .int .u8 b.toNat
    have hpre : ∀ (i : Nat) (v : Value), vs[i]? = some v → (bytesRow s (grownCap w s.size 0 e))[i]? = some v := by
      intro i v hv
      have hlt := (List.getElem?_eq_some_iff.1 hv).1
      simp only [bytesRow]
      rw [Array.getElem?_append_left (by simpa [vs] using hlt)]
      simpa [vs] using hv
    have hleft := Left.still_ (vs := vs) hw (More.drew w (.cells (bytesRow s (grownCap w s.size 0 e)) e ((bytesRow s (grownCap w s.size 0 e)).size, (bytesRow s (grownCap w s.size 0 e)).size + 1))) hpre
    refine hk _ _ _ ?_ (by simpa [newU] using hleft)
    have hl : (s.data.toList.map fun b => AV.lit (.int .u8 b.toNat)).length = s.size := by simp
    have := rep_of_cells (G := G.newImm w.heap.size vs) (t := .none) (k := 1) (b := w.heap.size) (c := grownCap w s.size 0 e) (zs := s.data.toList.map fun b => AV.lit (.int .u8 b.toNat)) (vs := vs) (by simp [vs]) (by rw [hl]; exact grownCap_ge w _ 0 e)
      (fun u hu => by simp only [vs, List.mem_map] at hu; obtain ⟨b, _, rfl⟩ := hu; rfl) (fun i x hx => by obtain ⟨b, _, rfl⟩ := map_get hx; rfl) (fun q u hu => by simpa [Gh.newImm] using hu)
      (fun i j x y u h1 h2 h3 => by
        obtain ⟨b, hb, rfl⟩ := map_get h1
        cases j with
        | zero =>
          simp [AV.cells] at h2; subst h2
          simp [vs] at h3
          have hb' : s.data[i]? = some b := by simpa using hb
          rw [hb'] at h3; simp at h3; subst h3; exact .lit _
        | succ j => simp [AV.cells] at h2) trivial
    rwa [hl] at this
  · exact h.elim

theorem snd_mksl {t e : TypeId} {l c : Operand} {i : TypeInfo} {zs : List Value} (hop : o.op = .makeSlice t l c) (ht : P.underlying t = some (.slice e)) (hi : P.info? e = some i) (hz : zeroO P e = some zs) (hzl : zs.length = i.size) (hk1 : 1 ≤ i.size)
    (h : kMksl i.size i.bytes (ρ l) (ρ c) S.length K) : SND P o ρ S K := by
  unfold kMksl at h
  split at h
  · rename_i l' c' hl hc
    obtain ⟨rfl, h0, hbd, h63, hK⟩ := h
    obtain ⟨it, z, hit, hz0, hzc, ho⟩ := zeroO_some hz
    rw [hi] at hit; injection hit with hit; subst hit
    refine ⟨_, [], [], [.row i.size 0], fun T _ hd G a w hw hr Kc Q hk => ?_, (fun p hp => by cases hp), (fun i hi => by simp at hi), hK⟩
    have hid : T[S.length]? = some .dead := hd (S.length, .row i.size 0) (by simp [newU])
    have rl := hr l (by simp [hop, Op.operands])
    have rc := hr c (by simp [hop, Op.operands])
    rw [hl] at rl
    rw [hc] at rc
    have hwc : IntKind.i64.wrap c' = c' := IntWalk.i64_in _ (by omega)
    have hw0 : IntKind.i64.wrap 0 = 0 := rfl
    have hzs : z.cells.size = i.size := by rw [← hzl, hzc]; simp
    have hcm : (i.bytes : Int) * c' ≤ 140737488355328 := by rw [Int.mul_comm]; exact hbd
    have h1 : ¬ (281474976710656 < (i.bytes : Int) * c') := by omega
    have h2 : ¬ c' < 0 := by omega
    let cells : Array Value := (Array.range (c'.toNat * i.size)).map (z.cells[· % z.cells.size]!)
    have hrn : (execOp a.eval o).run P w = .ok (.value (.slice (some ⟨w.heap.size, 0, none⟩) 0 c'.toNat)) (w.alloc (.cells cells e)) := by
      have hsz := run_sizeO (P := P) (t := e) (n := i.size) (by simp [szO, hi])
      by_cases hn : c'.toNat * i.size = 0
      · have hcell : cells = #[] := by simp [cells, hn]
        simp [execOp, hop, Instr.makeSlice, rep_lit rl, rep_lit rc, run_underlying ht, asInt, asIntOf, typeInfo, hi, hwc, hw0, h1, h2, hsz, hn, newRow, hcell]
        have : Array.map (fun _ : Nat => (default : Value)) (Array.range 0) = #[] := by apply Array.ext <;> simp
        rw [this]
      · simp [execOp, hop, Instr.makeSlice, rep_lit rl, rep_lit rc, run_underlying ht, asInt, asIntOf, typeInfo, hi, hwc, hw0, h1, h2, hsz, hn, newRow, zeroValue, hz0, cells]
    unfold Oper.wp
    rw [hrn]
    have hleft := Left.rowNew (id := S.length) (k := i.size) (n := 0) (c := c'.toNat) (vs := []) (t := e) hw (.inl hid) hk1 (More.alloc w (.cells cells e)) (Nat.zero_le _) (by simp [cells]) (by simp) (by simp)
    refine hk _ _ _ ?_ (by simpa [newU] using hleft)
    have := rep_of_cells (G := (G.newImm w.heap.size []).newHist S.length 0 (.slice (some ⟨w.heap.size, 0, none⟩) 0 c'.toNat)) (t := .row S.length) (k := i.size) (b := w.heap.size) (c := c'.toNat) (zs := []) (vs := []) (by simp) (by simp) (by simp) (by simp) (by simp) (by simp) (by simp [TagOk, Gh.newHist])
    simpa using this
  · exact h.elim

theorem snd_call {c : Call} {f : Operand} (hop : o.op = .call c) (hcal : c.callee = .value f) (h : kCall P (ρ f) (c.args.toList.map ρ) S K) : SND P o ρ S K := by
  unfold kCall at h
  split at h
  · rename_i g first cap hf
    obtain ⟨v, rd, upd, new, he, hu, hrl, hK⟩ := h
    refine ⟨v, rd, upd, new, fun T hT hd G a w hw hr Kc Q hk => ?_, hu, hrl, hK⟩
    obtain ⟨⟨fn, hfn, hbody, hname⟩, hdoes⟩ := he T hT hu hd
    have rf := hr f (by simp [hop, Op.operands, Call.operands, hcal])
    rw [hf] at rf
    generalize ef : a.eval f = vf at rf
    cases rf with
    | @fn _ _ _ fv cv q1 q2 q3 q4 =>
      have hrn : (execOp a.eval o).run P w = .ok (.enter g (fv ++ c.args.map a.eval ++ cv)) w := by
        have hb' : ¬ fn.body.isNone = true := by simp [hbody]
        have hname' : ¬ fn.name = "runtime.NumGoroutine" := by simpa using hname
        simp [execOp, hop, resolve, hcal, ef, Deferred.ofValue, invoke, callFunc, hfn, hname']
        cases hbd : fn.body with
        | none => simp [hbd] at hbody
        | some _ => simp
      unfold Oper.wp
      rw [hrn]
      refine (hdoes G w _ hw ?_).mono ?_
      · simp only [Array.toList_append, Array.toList_map]
        refine RepL.append (RepL.append ⟨by simpa using q1, fun j x v hx hv => q3 j x v hx (by simpa using hv)⟩ ⟨by simp, fun j x v hx hv => ?_⟩) ⟨by simpa using q2, fun j x v hx hv => q4 j x v hx (by simpa using hv)⟩
        obtain ⟨y, hy, rfl⟩ := map_get hx
        obtain ⟨y', hy', rfl⟩ := map_get hv
        rw [hy] at hy'; injection hy' with e; subst e
        exact hr y (by simp [hop, Op.operands, Call.operands, hcal]; right; exact Array.mem_of_getElem? (by simpa using hy))
      · rintro e w' ⟨v', G', rfl, hv', hleft⟩
        exact hk v' w' G' hv' hleft
  · exact h.elim

end
end Go.Proofs.Ytnfagphepkeedaa
end
end
