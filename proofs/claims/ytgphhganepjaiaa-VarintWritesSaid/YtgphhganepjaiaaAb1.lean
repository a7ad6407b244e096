/-
  Abstract values, a ghost of what lies still in memory, and how a world bears an abstract store: over any program.
-/
import Derived.Test.YtgphhganepjaiaaAb0
namespace Go.Proofs.Ytgphhganepjaiaa

/-- May one append onto a slice: not known; its capacity is its length; it is the present one of row j. -/
inductive Tag where
  | none
  | full
  | row (j : Nat)

inductive AV where
  | lit (v : Value)
  | any
  | ref (i off : Nat)
  | iptr (cs : List AV)
  | sl (t : Tag) (k : Nat) (xs : List AV)
  | agg (xs : List AV)
  | tup (xs : List AV)
  | fn (f : FuncId) (first cap : List AV)

def AV.cells : AV → List AV
  | .agg xs => xs
  | x => [x]
def AV.one : AV → Bool
  | .lit v => v.oneCell'
  | .ref .. | .iptr .. | .sl .. | .fn .. => true
  | _ => false

/-- What lies still: cells that do not turn any more; where the objects lie; what each row was at each length. -/
structure Gh where
  imm : Nat → Nat → Option Value
  loc : Nat → Option Nat
  hist : Nat → Nat → Option Value
structure Gh.Le (G G' : Gh) : Prop where
  imm : ∀ b i v, G.imm b i = some v → G'.imm b i = some v
  loc : ∀ i b, G.loc i = some b → G'.loc i = some b
  hist : ∀ j n v, G.hist j n = some v → G'.hist j n = some v
theorem Gh.Le.refl (G : Gh) : G.Le G := ⟨fun _ _ _ h => h, fun _ _ h => h, fun _ _ _ h => h⟩
theorem Gh.Le.trans {a b c : Gh} (h : a.Le b) (k : b.Le c) : a.Le c :=
  ⟨fun _ _ _ x => k.imm _ _ _ (h.imm _ _ _ x), fun _ _ x => k.loc _ _ (h.loc _ _ x), fun _ _ _ x => k.hist _ _ _ (h.hist _ _ _ x)⟩

def TagOk (G : Gh) (t : Tag) (A : Option Addr) (n c : Nat) : Prop :=
  match t with
  | .none => True
  | .full => c = n
  | .row j => G.hist j n = some (.slice A n c)

inductive Rep (G : Gh) : AV → Value → Prop
  | lit (v : Value) : Rep G (.lit v) v
  | any (v : Value) : Rep G .any v
  | ref {i o b : Nat} (h : G.loc i = some b) : Rep G (.ref i o) (.pointer (some ⟨b, o, none⟩))
  | iptr {cs : List AV} {b o : Nat} (vs : Nat → Value) (h1 : ∀ j, j < cs.length → G.imm b (o + j) = some (vs j)) (h2 : ∀ j, j < cs.length → (vs j).oneCell' = true)
      (h3 : ∀ (j : Nat) (x : AV), cs[j]? = some x → Rep G x (vs j)) : Rep G (.iptr cs) (.pointer (some ⟨b, o, none⟩))
  | sl {t : Tag} {k : Nat} {xs : List AV} {A : Option Addr} {c b o : Nat} (vs : Nat → Nat → Value) (hc : xs.length ≤ c) (hA : 0 < xs.length → A = some ⟨b, o, none⟩)
      (hk : ∀ (i : Nat) (x : AV), xs[i]? = some x → x.cells.length = k) (h1 : ∀ i j, i < xs.length → j < k → G.imm b (o + i * k + j) = some (vs i j)) (h2 : ∀ i j, i < xs.length → j < k → (vs i j).oneCell' = true)
      (h3 : ∀ (i j : Nat) (x y : AV), xs[i]? = some x → x.cells[j]? = some y → Rep G y (vs i j)) (ht : TagOk G t A xs.length c) : Rep G (.sl t k xs) (.slice A xs.length c)
  | agg {xs : List AV} {vs : Array Value} (h0 : xs.length = vs.size) (h2 : ∀ (j : Nat) (v : Value), vs[j]? = some v → v.oneCell' = true) (h3 : ∀ (j : Nat) (x : AV) (v : Value), xs[j]? = some x → vs[j]? = some v → Rep G x v) : Rep G (.agg xs) (.agg vs)
  | tup {xs : List AV} {vs : Array Value} (h0 : xs.length = vs.size) (h3 : ∀ (j : Nat) (x : AV) (v : Value), xs[j]? = some x → vs[j]? = some v → Rep G x v) : Rep G (.tup xs) (.tuple vs)
  | fn {f : FuncId} {fs cs : List AV} {fv cv : Array Value} (hf : fs.length = fv.size) (hc : cs.length = cv.size) (h1 : ∀ (j : Nat) (x : AV) (v : Value), fs[j]? = some x → fv[j]? = some v → Rep G x v)
      (h2 : ∀ (j : Nat) (x : AV) (v : Value), cs[j]? = some x → cv[j]? = some v → Rep G x v) : Rep G (.fn f fs cs) (.func (.func f) fv cv)

theorem TagOk.mono {G G' : Gh} (h : G.Le G') {t : Tag} {A : Option Addr} {n c : Nat} (ht : TagOk G t A n c) : TagOk G' t A n c := by
  cases t with
  | none => trivial
  | full => exact ht
  | row j => exact h.hist _ _ _ ht
theorem Rep.mono {G G' : Gh} (h : G.Le G') {x : AV} {v : Value} (r : Rep G x v) : Rep G' x v := by
  induction r with
  | lit v => exact .lit v
  | any v => exact .any v
  | ref hl => exact .ref (h.loc _ _ hl)
  | iptr vs h1 h2 _ ih => exact .iptr vs (fun j hj => h.imm _ _ _ (h1 j hj)) h2 ih
  | sl vs hc hA hk h1 h2 _ ht ih => exact .sl vs hc hA hk (fun i j hi hj => h.imm _ _ _ (h1 i j hi hj)) h2 ih (ht.mono h)
  | agg h0 h2 _ ih => exact .agg h0 h2 ih
  | tup h0 _ ih => exact .tup h0 ih
  | fn hf hc _ _ ih1 ih2 => exact .fn hf hc ih1 ih2
theorem Rep.oneC {G : Gh} {x : AV} {v : Value} (r : Rep G x v) (h : x.one = true) : v.oneCell' = true := by
  cases r <;> simp_all [AV.one, Value.oneCell']

def RepL (G : Gh) (xs : List AV) (vs : List Value) : Prop := xs.length = vs.length ∧ ∀ (j : Nat) (x : AV) (v : Value), xs[j]? = some x → vs[j]? = some v → Rep G x v
theorem RepL.mono {G G' : Gh} (h : G.Le G') {xs : List AV} {vs : List Value} (r : RepL G xs vs) : RepL G' xs vs := ⟨r.1, fun j x v hx hv => (r.2 j x v hx hv).mono h⟩
theorem RepL.nil (G : Gh) : RepL G [] [] := ⟨rfl, fun j x v h => by simp at h⟩
theorem RepL.cons {G : Gh} {x : AV} {v : Value} {xs : List AV} {vs : List Value} (h : Rep G x v) (r : RepL G xs vs) : RepL G (x :: xs) (v :: vs) := by
  refine ⟨by simp [r.1], fun j y u hy hu => ?_⟩
  cases j with
  | zero => simp at hy hu; subst hy hu; exact h
  | succ j => simp at hy hu; exact r.2 j y u hy hu
theorem RepL.append {G : Gh} {xs ys : List AV} {vs us : List Value} (h : RepL G xs vs) (k : RepL G ys us) : RepL G (xs ++ ys) (vs ++ us) := by
  refine ⟨by simp [h.1, k.1], fun j x v hx hv => ?_⟩
  rw [List.getElem?_append] at hx hv
  rw [h.1] at hx
  split at hx
  · rename_i hl; rw [if_pos hl] at hv; exact h.2 j x v hx hv
  · rename_i hl; rw [if_neg hl] at hv; exact k.2 _ x v hx hv

/-- An object of the abstract store: none (a place that is kept free); cells that may turn; a row of elements of k cells that has n of them now and may grow. -/
inductive AObj where
  | dead
  | cells (xs : List AV)
  | row (k n : Nat)

def blk (G : Gh) (S : List AObj) (i : Nat) : Option Nat :=
  match S[i]? with
  | some (.cells _) => G.loc i
  | some (.row _ n) => match G.hist i n with
    | some (.slice (some a) _ c) => if n < c then some a.block else none
    | _ => none
  | _ => none

structure Wd (G : Gh) (S : List AObj) (w : World) : Prop where
  imm : ∀ b i v, G.imm b i = some v → w.cell? ⟨b, i, none⟩ = some v
  dom : ∀ (i : Nat), (S[i]? = none ∨ S[i]? = some .dead) → G.loc i = none ∧ ∀ n, G.hist i n = none
  obj : ∀ (i : Nat) (xs : List AV), S[i]? = some (.cells xs) → ∃ (b : Nat) (cs : Array Value) (t : TypeId), G.loc i = some b ∧ w.heap[b]? = some (.cells cs t (0, 0)) ∧ cs.size = xs.length ∧
    (∀ (k : Nat) (x : AV) (v : Value), xs[k]? = some x → cs[k]? = some v → v.oneCell' = true ∧ Rep G x v) ∧ ∀ k, G.imm b k = none
  row : ∀ (j k n : Nat), S[j]? = some (.row k n) → 1 ≤ k ∧ ∃ A c, G.hist j n = some (.slice A n c) ∧ (∀ n' v', G.hist j n' = some v' → n' ≤ n) ∧ n ≤ c ∧
    (n < c → ∃ (b : Nat) (cs : Array Value) (t : TypeId), A = some ⟨b, 0, none⟩ ∧ w.heap[b]? = some (.cells cs t (0, 0)) ∧ cs.size = c * k ∧ ∀ i, n * k ≤ i → G.imm b i = none)
  sep : ∀ i j b, blk G S i = some b → blk G S j = some b → i = j

/-- The blocks that are no object's and no row's. -/
def Un (G : Gh) (S : List AObj) (b : Nat) : Prop := ∀ i, blk G S i ≠ some b
/-- What a step leaves: the ghost has grown, the world bears the new store, only the store's own blocks have turned, and its blocks are its own or new. -/
structure Left (G : Gh) (S : List AObj) (w : World) (G' : Gh) (S' : List AObj) (w' : World) : Prop where
  le : G.Le G'
  wd : Wd G' S' w'
  kept : Kept (Un G S) w w'
  own : ∀ i b, blk G' S' i = some b → w.heap.size ≤ b ∨ ∃ j, blk G S j = some b
  still : ∀ b k v, G'.imm b k = some v → G.imm b k = some v ∨ w.heap.size ≤ b ∨ ∃ j, blk G S j = some b

theorem Left.refl {G : Gh} {S : List AObj} {w : World} (h : Wd G S w) : Left G S w G S w := ⟨Gh.Le.refl _, h, Kept.refl _ _, fun i _ hb => .inr ⟨i, hb⟩, fun _ _ _ h => .inl h⟩
theorem Left.trans {G G' G'' : Gh} {S S' S'' : List AObj} {w w' w'' : World} (h : Left G S w G' S' w') (k : Left G' S' w' G'' S'' w'') : Left G S w G'' S'' w'' := by
  refine ⟨h.le.trans k.le, k.wd, ⟨k.kept.os.trans h.kept.os, k.kept.tape.trans h.kept.tape, k.kept.output.trans h.kept.output, Nat.le_trans h.kept.size k.kept.size, fun i hi hu => ?_⟩, fun i b hb => ?_, fun b i v hv => ?_⟩
  · rw [k.kept.block i (Nat.lt_of_lt_of_le hi h.kept.size) ?_]
    · exact h.kept.block i hi hu
    · intro j hj
      rcases h.own j i hj with h1 | ⟨j', h1⟩
      · omega
      · exact hu j' h1
  · rcases k.own i b hb with h1 | ⟨j, h1⟩
    · exact .inl (Nat.le_trans h.kept.size h1)
    · exact h.own j b h1
  · rcases k.still b i v hv with h1 | h1 | ⟨j, h1⟩
    · exact h.still b i v h1
    · exact .inr (.inl (Nat.le_trans h.kept.size h1))
    · exact .inr (h.own j b h1)

def Callable (P : Program) (f : FuncId) : Prop := ∃ fn, P.funcs[f]? = some fn ∧ fn.body.isNone = false ∧ (fn.name == "runtime.NumGoroutine") = false
/-- f, called with such arguments in such a store, returns r and leaves the store S'. -/
def Does (P : Program) (f : FuncId) (args : List AV) (S : List AObj) (r : AV) (S' : List AObj) : Prop :=
  Callable P f ∧ ∀ G w (vs : Array Value), Wd G S w → RepL G args vs.toList → Calls P f vs w fun e w' => ∃ v G', e = .returned v ∧ Rep G' r v ∧ Left G S w G' S' w'

end Go.Proofs.Ytgphhganepjaiaa
