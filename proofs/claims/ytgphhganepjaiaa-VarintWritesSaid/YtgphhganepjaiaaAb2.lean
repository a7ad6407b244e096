/-
  A contract in a small store serves in any greater one, and what a call leaves may be told in a smaller one: over any program.
-/
import Derived.Test.YtgphhganepjaiaaAb1
namespace Go.Proofs.Ytgphhganepjaiaa

def Tag.ren (ρ : Nat → Nat) : Tag → Tag
  | .row j => .row (ρ j)
  | t => t
def AV.ren (ρ : Nat → Nat) : AV → AV
  | .lit v => .lit v
  | .any => .any
  | .ref i o => .ref (ρ i) o
  | .iptr cs => .iptr (cs.map fun x => x.ren ρ)
  | .sl t k xs => .sl (t.ren ρ) k (xs.map fun x => x.ren ρ)
  | .agg xs => .agg (xs.map fun x => x.ren ρ)
  | .tup xs => .tup (xs.map fun x => x.ren ρ)
  | .fn f a b => .fn f (a.map fun x => x.ren ρ) (b.map fun x => x.ren ρ)
def AObj.ren (ρ : Nat → Nat) : AObj → AObj
  | .dead => .dead
  | .cells xs => .cells (xs.map fun x => x.ren ρ)
  | .row k n => .row k n

theorem AV.cells_ren (ρ : Nat → Nat) (x : AV) : (x.ren ρ).cells = x.cells.map fun x => x.ren ρ := by
  cases x <;> simp [AV.ren, AV.cells]

theorem map_get {α β : Type} {f : α → β} {l : List α} {j : Nat} {y : β} (h : (l.map f)[j]? = some y) : ∃ x, l[j]? = some x ∧ f x = y := by
  simpa using h

theorem Rep.ren {G G' : Gh} {ρ : Nat → Nat} (hi : ∀ b i v, G.imm b i = some v → G'.imm b i = some v) (hl : ∀ k b, G.loc k = some b → G'.loc (ρ k) = some b)
    (hh : ∀ k n v, G.hist k n = some v → G'.hist (ρ k) n = some v) {x : AV} {v : Value} (r : Rep G x v) : Rep G' (x.ren ρ) v := by
  induction r with
  | lit v => rw [AV.ren]; exact .lit v
  | any v => rw [AV.ren]; exact .any v
  | ref h => rw [AV.ren]; exact .ref (hl _ _ h)
  | iptr vs h1 h2 _ ih =>
    rw [AV.ren]
    refine .iptr vs (fun j hj => hi _ _ _ (h1 j (by simpa using hj))) (fun j hj => h2 j (by simpa using hj)) fun j x hx => ?_
    obtain ⟨y, hy, rfl⟩ := map_get hx
    exact ih j y hy
  | @sl t k xs A c b o vs hc hA hk h1 h2 _ ht ih =>
    rw [AV.ren]
    have hlen : (xs.map fun x => x.ren ρ).length = xs.length := by simp
    have ht' : TagOk G' (t.ren ρ) A xs.length c := by
      cases t with
      | none => trivial
      | full => exact ht
      | row j => exact hh _ _ _ ht
    rw [← hlen] at ht' hc hA ⊢
    refine .sl (b := b) (o := o) vs hc hA (fun i x hx => ?_) (fun i j hii hj => hi _ _ _ (h1 i j (by simpa using hii) hj)) (fun i j hii hj => h2 i j (by simpa using hii) hj) (fun i j x y hx hy => ?_) ht'
    · obtain ⟨z, hz, rfl⟩ := map_get hx
      rw [AV.cells_ren]; simpa using hk i z hz
    · obtain ⟨z, hz, rfl⟩ := map_get hx
      rw [AV.cells_ren] at hy
      obtain ⟨u, hu, rfl⟩ := map_get hy
      exact ih i j z u hz hu
  | agg h0 h2 _ ih =>
    rw [AV.ren]
    refine .agg (by simpa using h0) h2 fun j x v hx hv => ?_
    obtain ⟨y, hy, rfl⟩ := map_get hx
    exact ih j y v hy hv
  | tup h0 _ ih =>
    rw [AV.ren]
    refine .tup (by simpa using h0) fun j x v hx hv => ?_
    obtain ⟨y, hy, rfl⟩ := map_get hx
    exact ih j y v hy hv
  | fn hf hc _ _ ih1 ih2 =>
    rw [AV.ren]
    refine .fn (by simpa using hf) (by simpa using hc) (fun j x v hx hv => ?_) (fun j x v hx hv => ?_)
    · obtain ⟨y, hy, rfl⟩ := map_get hx
      exact ih1 j y v hy hv
    · obtain ⟨y, hy, rfl⟩ := map_get hx
      exact ih2 j y v hy hv

def Gh.pull (G : Gh) (ρ : Nat → Nat) : Gh := ⟨G.imm, fun k => G.loc (ρ k), fun k => G.hist (ρ k)⟩

theorem Rep.pull {G : Gh} {ρ : Nat → Nat} {y : AV} {v : Value} (r : Rep G y v) : ∀ x : AV, x.ren ρ = y → Rep (G.pull ρ) x v := by
  induction r with
  | lit v => intro x hx; cases x <;> simp [AV.ren] at hx; subst hx; exact .lit _
  | any v => intro x hx; cases x <;> simp [AV.ren] at hx; exact .any v
  | ref h => intro x hx; cases x <;> simp [AV.ren] at hx; obtain ⟨rfl, rfl⟩ := hx; exact .ref h
  | iptr vs h1 h2 _ ih =>
    intro x hx
    cases x <;> simp [AV.ren] at hx
    subst hx
    exact .iptr vs (fun j hj => h1 j (by simpa using hj)) (fun j hj => h2 j (by simpa using hj)) fun j z hz => ih j _ (by simp [hz]) z rfl
  | @sl t k xs A c b o vs hc hA hk h1 h2 _ ht ih =>
    intro x hx
    cases x <;> simp [AV.ren] at hx
    rename_i t' k' xs'
    obtain ⟨rfl, rfl, rfl⟩ := hx
    have hlen : (xs'.map fun x => x.ren ρ).length = xs'.length := by simp
    rw [hlen]
    refine .sl (b := b) (o := o) vs (by simpa using hc) (by simpa using hA) (fun i z hz => ?_) (fun i j hii hj => h1 i j (by simpa using hii) hj) (fun i j hii hj => h2 i j (by simpa using hii) hj) (fun i j z u hz hu => ?_) ?_
    · have := hk i (z.ren ρ) (by simp [hz])
      rw [AV.cells_ren] at this; simpa using this
    · exact ih i j (z.ren ρ) (u.ren ρ) (by simp [hz]) (by rw [AV.cells_ren]; simp [hu]) u rfl
    · rw [hlen] at ht
      cases t' with
      | none => trivial
      | full => exact ht
      | row j => exact ht
  | agg h0 h2 _ ih =>
    intro x hx
    cases x <;> simp [AV.ren] at hx
    subst hx
    exact .agg (by simpa using h0) h2 fun j z v hz hv => ih j _ v (by simp [hz]) hv z rfl
  | tup h0 _ ih =>
    intro x hx
    cases x <;> simp [AV.ren] at hx
    subst hx
    exact .tup (by simpa using h0) fun j z v hz hv => ih j _ v (by simp [hz]) hv z rfl
  | fn hf hc _ _ ih1 ih2 =>
    intro x hx
    cases x <;> simp [AV.ren] at hx
    obtain ⟨rfl, rfl, rfl⟩ := hx
    exact .fn (by simpa using hf) (by simpa using hc) (fun j z v hz hv => ih1 j _ v (by simp [hz]) hv z rfl) (fun j z v hz hv => ih2 j _ v (by simp [hz]) hv z rfl)

theorem RepL.pull {G : Gh} {ρ : Nat → Nat} {xs : List AV} {vs : List Value} (h : RepL G (xs.map fun x => x.ren ρ) vs) : RepL (G.pull ρ) xs vs :=
  ⟨by simpa using h.1, fun j x v hx hv => (h.2 j (x.ren ρ) v (by simp [hx]) hv).pull x rfl⟩

/-- The k-th of some places; behind these places at which nothing lies. -/
def ixs (ids : List Nat) (N k : Nat) : Nat := ids.getD k (N + k)

/-- A part of a store, by its places, told anew. -/
theorem Wd.pull {G : Gh} {T S : List AObj} {w : World} (h : Wd G T w) (ids : List Nat) (hn : ids.Nodup) (_hl : S.length ≤ ids.length)
    (hT : ∀ (k : Nat) (o : AObj), S[k]? = some o → ∃ i, ids[k]? = some i ∧ T[i]? = some (o.ren (ixs ids T.length))) (hD : ∀ (k i : Nat), S.length ≤ k → ids[k]? = some i → T[i]? = some .dead) :
    Wd (G.pull (ixs ids T.length)) S w ∧ ∀ k, blk (G.pull (ixs ids T.length)) S k = none ∨ blk (G.pull (ixs ids T.length)) S k = blk G T (ixs ids T.length k) := by
  generalize hρ : ixs ids T.length = ρ at *
  have hix : ∀ {k i : Nat}, ids[k]? = some i → ρ k = i := fun {k i} e => by rw [← hρ]; simp [ixs, e]
  have hblk : ∀ k, blk (G.pull ρ) S k = none ∨ blk (G.pull ρ) S k = blk G T (ρ k) := by
    intro k
    cases ho : S[k]? with
    | none => left; simp [blk, ho]
    | some o =>
      right
      obtain ⟨i, hi, hTi⟩ := hT k o ho
      rw [hix hi]
      cases o <;> simp [blk, ho, hTi, AObj.ren, Gh.pull, hix hi]
  refine ⟨⟨h.imm, ?_, ?_, ?_, ?_⟩, hblk⟩
  · intro k hk
    have key : T[ρ k]? = none ∨ T[ρ k]? = some .dead := by
      cases hi : ids[k]? with
      | none =>
        left
        have hge : ids.length ≤ k := by simpa using hi
        rw [← hρ]; simp [ixs, hi]
      | some i =>
        right
        rw [hix hi]
        by_cases hkS : S.length ≤ k
        · exact hD k i hkS hi
        · obtain ⟨o, ho⟩ : ∃ o, S[k]? = some o := ⟨S[k]'(by omega), by simp⟩
          obtain ⟨i', hi', hTi⟩ := hT k o ho
          rw [hi] at hi'
          injection hi' with hi'
          subst hi'
          rcases hk with hk | hk
          · rw [hk] at ho; cases ho
          · rw [hk] at ho; injection ho with ho; subst ho; exact hTi
    exact ⟨(h.dom _ key).1, (h.dom _ key).2⟩
  · intro k xs hk
    obtain ⟨i, hi, hTi⟩ := hT k _ hk
    obtain ⟨b, cs, t, h1, h2, h3, h4, h5⟩ := h.obj i _ hTi
    refine ⟨b, cs, t, ?_, h2, by simpa using h3, fun j x v hx hv => ?_, h5⟩
    · show G.loc (ρ k) = some b
      rw [hix hi]; exact h1
    · obtain ⟨g1, g2⟩ := h4 j (x.ren ρ) v (by simp [hx]) hv
      exact ⟨g1, g2.pull x rfl⟩
  · intro j k n hj
    obtain ⟨i, hi, hTi⟩ := hT j _ hj
    obtain ⟨h0, A, c, h1, h2, h3⟩ := h.row i k n hTi
    exact ⟨h0, A, c, by show G.hist (ρ j) n = _; rw [hix hi]; exact h1, fun n' v' e => h2 n' v' (by rw [← hix hi]; exact e), h3⟩
  · intro i j b hi hj
    have bound : ∀ {k : Nat} {b : Nat}, blk (G.pull ρ) S k = some b → ∃ o, S[k]? = some o := fun {k b} e => by
      cases ho : S[k]? with
      | none => simp [blk, ho] at e
      | some o => exact ⟨o, rfl⟩
    obtain ⟨oi, hoi⟩ := bound hi
    obtain ⟨oj, hoj⟩ := bound hj
    obtain ⟨pi, hpi, _⟩ := hT i oi hoi
    obtain ⟨pj, hpj, _⟩ := hT j oj hoj
    have e1 := (hblk i).resolve_left (by rw [hi]; simp)
    have e2 := (hblk j).resolve_left (by rw [hj]; simp)
    have := h.sep (ρ i) (ρ j) b (by rw [← e1]; exact hi) (by rw [← e2]; exact hj)
    rw [hix hpi, hix hpj] at this
    subst this
    exact (List.getElem?_inj (by
      rcases Nat.lt_or_ge i ids.length with hlt | hge
      · exact hlt
      · rw [List.getElem?_eq_none hge] at hpi; cases hpi) hn).1 (hpi.trans hpj.symm)

def updL (T : List AObj) (u : List (Nat × AObj)) : List AObj := u.foldl (fun T p => T.set p.1 p.2) T
@[simp] theorem updL_nil (T : List AObj) : updL T [] = T := rfl
@[simp] theorem updL_cons (T : List AObj) (p : Nat × AObj) (u : List (Nat × AObj)) : updL T (p :: u) = updL (T.set p.1 p.2) u := rfl
@[simp] theorem updL_length (T : List AObj) (u : List (Nat × AObj)) : (updL T u).length = T.length := by
  induction u generalizing T with
  | nil => rfl
  | cons p u ih => rw [updL_cons, ih]; simp
theorem updL_other (T : List AObj) (u : List (Nat × AObj)) (i : Nat) (h : i ∉ u.map (·.1)) : (updL T u)[i]? = T[i]? := by
  induction u generalizing T with
  | nil => rfl
  | cons p u ih =>
    simp only [List.map_cons, List.mem_cons, not_or] at h
    rw [updL_cons, ih _ h.2, List.getElem?_set_ne (Ne.symm h.1)]
theorem updL_at (T : List AObj) (u : List (Nat × AObj)) (hn : (u.map (·.1)).Nodup) (i : Nat) (o : AObj) (h : (i, o) ∈ u) (hi : i < T.length) : (updL T u)[i]? = some o := by
  induction u generalizing T with
  | nil => cases h
  | cons p u ih =>
    simp only [List.map_cons, List.nodup_cons] at hn
    rw [updL_cons]
    rcases List.mem_cons.1 h with rfl | h
    · rw [updL_other _ _ _ hn.1]; simp [hi]
    · exact ih _ hn.2 h (by simpa using hi)


theorem ixs_get {ids : List Nat} {N k i : Nat} (e : ids[k]? = some i) : ixs ids N k = i := by simp [ixs, e]
theorem nodup_get {ids : List Nat} (hn : ids.Nodup) {k k' i : Nat} (h : ids[k]? = some i) (h' : ids[k']? = some i) : k = k' :=
  (List.getElem?_inj (by
      rcases Nat.lt_or_ge k ids.length with hlt | hge
      · exact hlt
      · rw [List.getElem?_eq_none hge] at h; cases h) hn).1 (h.trans h'.symm)

/-- The ghost of the greater store behind a step of a part of it. -/
def Gh.push (G G' : Gh) (ids : List Nat) : Gh :=
  ⟨G'.imm, fun i => if i ∈ ids then G'.loc (ids.idxOf i) else G.loc i, fun i => if i ∈ ids then G'.hist (ids.idxOf i) else G.hist i⟩
theorem push_at {G G' : Gh} {ids : List Nat} (hn : ids.Nodup) {k i : Nat} (h : ids[k]? = some i) : (G.push G' ids).loc i = G'.loc k ∧ (G.push G' ids).hist i = G'.hist k := by
  have hm : i ∈ ids := List.mem_of_getElem? h
  have hk : ids.idxOf i = k := nodup_get hn (by rw [List.getElem?_eq_getElem (List.idxOf_lt_length_of_mem hm)]; simp) h
  simp [Gh.push, hm, hk]

/-- A step of a part of a store is a step of the whole. -/
theorem Left.push {G : Gh} {T S S' : List AObj} {w w' : World} {G' : Gh} (h : Wd G T w) (ids : List Nat) (hn : ids.Nodup) (hl : ids.length = S'.length) (hSl : S.length ≤ S'.length)
    (hT : ∀ (k : Nat) (o : AObj), S[k]? = some o → ∃ i, ids[k]? = some i ∧ T[i]? = some (o.ren (ixs ids T.length))) (hD : ∀ (k i : Nat), S.length ≤ k → ids[k]? = some i → T[i]? = some .dead)
    (hs : Left (G.pull (ixs ids T.length)) S w G' S' w') :
    Left G T w (G.push G' ids) (updL T (ids.zip (S'.map fun o => o.ren (ixs ids T.length)))) w' ∧ ∀ x v, Rep G' x v → Rep (G.push G' ids) (x.ren (ixs ids T.length)) v := by
  have hpull := Wd.pull h ids hn (by omega) hT hD
  have hTlt : ∀ {k i : Nat}, ids[k]? = some i → i < T.length := fun {k i} e => by
    rcases Nat.lt_or_ge k S.length with hk | hk
    · obtain ⟨i', h1, h2⟩ := hT k _ (List.getElem?_eq_getElem hk)
      rw [e] at h1; injection h1 with h1; subst h1
      exact (List.getElem?_eq_some_iff.1 h2).1
    · exact (List.getElem?_eq_some_iff.1 (hD k i hk e)).1
  generalize hρ : ixs ids T.length = ρ at *
  have hix : ∀ {k i : Nat}, ids[k]? = some i → ρ k = i := fun {k i} e => by rw [← hρ]; exact ixs_get e
  have hge : ∀ {k : Nat}, ids[k]? = none → ρ k = T.length + k := fun {k} e => by rw [← hρ]; simp [ixs, e]
  have hzip : (ids.zip (S'.map fun o => o.ren ρ)).map (·.1) = ids := by rw [List.map_fst_zip]; simp [hl]
  have hat : ∀ (k i : Nat) (o : AObj), ids[k]? = some i → S'[k]? = some o → (updL T (ids.zip (S'.map fun o => o.ren ρ)))[i]? = some (o.ren ρ) := by
    intro k i o hk ho
    refine updL_at _ _ (by rw [hzip]; exact hn) i _ (List.mem_of_getElem? (i := k) ?_) (hTlt hk)
    rw [List.getElem?_zip_eq_some]
    exact ⟨hk, by simp [ho]⟩
  have hout : ∀ i, i ∉ ids → (updL T (ids.zip (S'.map fun o => o.ren ρ)))[i]? = T[i]? := fun i hi => updL_other _ _ _ (by rw [hzip]; exact hi)
  have hin : ∀ i, i ∈ ids → ∃ (k : Nat) (o : AObj), ids[k]? = some i ∧ S'[k]? = some o := by
    intro i hi
    obtain ⟨k, hk, rfl⟩ := List.getElem_of_mem hi
    exact ⟨k, S'[k]'(by omega), by simp, by simp⟩
  have hloc : ∀ k b, G'.loc k = some b → (G.push G' ids).loc (ρ k) = some b := by
    intro k b hb
    cases hk : ids[k]? with
    | none =>
      have : S'[k]? = none := by rw [List.getElem?_eq_none_iff] at hk ⊢; omega
      rw [(hs.wd.dom k (.inl this)).1] at hb; cases hb
    | some i => rw [hix hk, (push_at hn hk).1]; exact hb
  have hhist : ∀ k n v, G'.hist k n = some v → (G.push G' ids).hist (ρ k) n = some v := by
    intro k n v hb
    cases hk : ids[k]? with
    | none =>
      have : S'[k]? = none := by rw [List.getElem?_eq_none_iff] at hk ⊢; omega
      rw [(hs.wd.dom k (.inl this)).2] at hb; cases hb
    | some i => rw [hix hk, (push_at hn hk).2]; exact hb
  have himm : ∀ b i v, G'.imm b i = some v → (G.push G' ids).imm b i = some v := fun _ _ _ e => e
  have hren : ∀ {x : AV} {v : Value}, Rep G' x v → Rep (G.push G' ids) (x.ren ρ) v := fun r => r.ren himm hloc hhist
  have hle : G.Le (G.push G' ids) := by
    refine ⟨fun b i v hv => hs.le.imm b i v hv, fun i b hb => ?_, fun i n v hv => ?_⟩
    · by_cases hi : i ∈ ids
      · obtain ⟨k, o, hk, _⟩ := hin i hi
        rw [(push_at hn hk).1]
        exact hs.le.loc k b (by show G.loc (ρ k) = _; rw [hix hk]; exact hb)
      · simpa [Gh.push, hi] using hb
    · by_cases hi : i ∈ ids
      · obtain ⟨k, o, hk, _⟩ := hin i hi
        rw [(push_at hn hk).2]
        exact hs.le.hist k n v (by show G.hist (ρ k) n = _; rw [hix hk]; exact hv)
      · simpa [Gh.push, hi] using hv
  have hblkin : ∀ {k i : Nat} {b : Nat}, ids[k]? = some i → (blk (G.push G' ids) (updL T (ids.zip (S'.map fun o => o.ren ρ))) i = some b ↔ blk G' S' k = some b) := by
    intro k i b hk
    have hk' : k < S'.length := by
      rw [← hl]
      rcases Nat.lt_or_ge k ids.length with hlt | hge
      · exact hlt
      · rw [List.getElem?_eq_none hge] at hk; cases hk
    have ho := List.getElem?_eq_getElem hk'
    have e := hat k i _ hk ho
    unfold blk
    rw [e, ho]
    cases S'[k] with
    | dead => simp [AObj.ren]
    | cells xs => simp only [AObj.ren, (push_at hn hk).1]
    | row k n => simp only [AObj.ren, (push_at hn hk).2]
  have hblkout : ∀ {i : Nat}, i ∉ ids → blk (G.push G' ids) (updL T (ids.zip (S'.map fun o => o.ren ρ))) i = blk G T i := by
    intro i hi
    unfold blk
    rw [hout i hi]
    cases T[i]? with
    | none => rfl
    | some o => cases o <;> simp [Gh.push, hi]
  have hpin : ∀ {k i : Nat} {b : Nat}, ids[k]? = some i → blk (G.pull ρ) S k = some b → blk G T i = some b := by
    intro k i b hk hb
    rw [← hix hk, ← hb]
    exact ((hpull.2 k).resolve_left (by rw [hb]; simp)).symm
  have hpk : ∀ {k : Nat} {b : Nat}, blk (G.pull ρ) S k = some b → ∃ i, ids[k]? = some i := by
    intro k b hb
    cases ho : S[k]? with
    | none => simp [blk, ho] at hb
    | some o => obtain ⟨i, hi, _⟩ := hT k o ho; exact ⟨i, hi⟩
  -- a block of the whole that is not one of the part's is left
  have hlt : ∀ {i b : Nat}, blk G T i = some b → b < w.heap.size := by
    intro i b hb
    unfold blk at hb
    split at hb
    · rename_i xs hi
      obtain ⟨b', cs, t, h1, h2, _⟩ := h.obj i xs hi
      rw [h1] at hb; injection hb with hb; subst hb
      exact (Array.getElem?_eq_some_iff.1 h2).1
    · rename_i k n hi
      obtain ⟨_, A, c, h1, h2, h3, h4⟩ := h.row i k n hi
      rw [h1] at hb
      split at hb
      · rename_i a _ c' heq
        split at hb
        · rename_i hlt
          injection heq with heq
          injection heq with e1 e2 e3
          subst e1 e3
          obtain ⟨b', cs, t, h5, h6, _⟩ := h4 hlt
          injection h5 with h5
          injection hb with hb
          rw [← hb, h5]
          exact (Array.getElem?_eq_some_iff.1 h6).1
        · cases hb
      · cases hb
    · cases hb
  have hsep : ∀ {i k b : Nat}, i ∉ ids → blk G T i = some b → blk (G.pull ρ) S k = some b → False := by
    intro i k b hi hb hb'
    obtain ⟨i', hi'⟩ := hpk hb'
    have := h.sep i i' b hb (hpin hi' hb')
    subst this
    exact hi (List.mem_of_getElem? hi')
  have hun : ∀ {i b : Nat}, i ∉ ids → blk G T i = some b → Un (G.pull ρ) S b := fun {i b} hi hb k hk => hsep hi hb hk
  have hstill : ∀ {i b k : Nat}, i ∉ ids → blk G T i = some b → G.imm b k = none → (G.push G' ids).imm b k = none := by
    intro i b k hi hb hk
    cases hc : (G.push G' ids).imm b k with
    | none => rfl
    | some u =>
      exfalso
      rcases hs.still b k u hc with h1 | h1 | ⟨j, h1⟩
      · have : G.imm b k = some u := h1
        rw [hk] at this; cases this
      · have := hlt hb; omega
      · exact hsep hi hb h1
  have hcross : ∀ {k i j b : Nat}, ids[k]? = some i → blk G' S' k = some b → j ∉ ids → blk G T j = some b → False := by
    intro k i j b hk hb hj hb'
    rcases hs.own k b hb with h1 | ⟨q, h1⟩
    · have := hlt hb'; omega
    · exact hsep hj hb' h1
  refine ⟨⟨hle, ⟨hs.wd.imm, ?_, ?_, ?_, ?_⟩, ?_, ?_, ?_⟩, fun x v r => hren r⟩
  · intro i hi
    by_cases hm : i ∈ ids
    · obtain ⟨k, o, hk, ho⟩ := hin i hm
      rw [hat k i o hk ho] at hi
      have hd : o = .dead := by
        rcases hi with hi | hi
        · cases hi
        · cases o <;> simp [AObj.ren] at hi ⊢
      subst hd
      rw [(push_at hn hk).1, (push_at hn hk).2]
      exact hs.wd.dom k (.inr ho)
    · rw [hout i hm] at hi
      simpa [Gh.push, hm] using h.dom i hi
  · intro i xs hi
    by_cases hm : i ∈ ids
    · obtain ⟨k, o, hk, ho⟩ := hin i hm
      rw [hat k i o hk ho] at hi
      cases o <;> simp [AObj.ren] at hi
      rename_i ys
      subst hi
      obtain ⟨b, cs, t, h1, h2, h3, h4, h5⟩ := hs.wd.obj k ys ho
      refine ⟨b, cs, t, by rw [(push_at hn hk).1]; exact h1, h2, by simpa using h3, fun j x v hx hv => ?_, h5⟩
      obtain ⟨y, hy, rfl⟩ := map_get hx
      exact ⟨(h4 j y v hy hv).1, hren (h4 j y v hy hv).2⟩
    · rw [hout i hm] at hi
      obtain ⟨b, cs, t, h1, h2, h3, h4, h5⟩ := h.obj i xs hi
      have hb : blk G T i = some b := by simp [blk, hi, h1]
      have e := hs.kept.block b (hlt hb) (hun hm hb)
      exact ⟨b, cs, t, by simpa [Gh.push, hm] using h1, by rw [e]; exact h2, h3, fun j x v hx hv => ⟨(h4 j x v hx hv).1, (h4 j x v hx hv).2.mono hle⟩, fun k => hstill hm hb (h5 k)⟩
  · intro i k n hi
    by_cases hm : i ∈ ids
    · obtain ⟨q, o, hq, ho⟩ := hin i hm
      rw [hat q i o hq ho] at hi
      cases o <;> simp [AObj.ren] at hi
      obtain ⟨rfl, rfl⟩ := hi
      obtain ⟨h0, A, c, h1, h2, h3, h4⟩ := hs.wd.row q _ _ ho
      exact ⟨h0, A, c, by rw [(push_at hn hq).2]; exact h1, fun n' v' e => h2 n' v' (by rw [← (push_at hn hq).2]; exact e), h3, h4⟩
    · rw [hout i hm] at hi
      obtain ⟨h0, A, c, h1, h2, h3, h4⟩ := h.row i k n hi
      refine ⟨h0, A, c, by simpa [Gh.push, hm] using h1, fun n' v' e => h2 n' v' (by simpa [Gh.push, hm] using e), h3, fun hlt' => ?_⟩
      obtain ⟨b, cs, t, g1, g2, g3, g4⟩ := h4 hlt'
      have hb : blk G T i = some b := by simp [blk, hi, h1, hlt', g1]
      have e := hs.kept.block b (hlt hb) (hun hm hb)
      exact ⟨b, cs, t, g1, by rw [e]; exact g2, g3, fun q hq1 => hstill hm hb (g4 q hq1)⟩
  · intro i j b hi hj
    by_cases hm : i ∈ ids <;> by_cases hm' : j ∈ ids
    · obtain ⟨k, o, hk, ho⟩ := hin i hm
      obtain ⟨k', o', hk', ho'⟩ := hin j hm'
      have := hs.wd.sep k k' b ((hblkin hk).1 hi) ((hblkin hk').1 hj)
      subst this
      rw [hk] at hk'; injection hk'
    · obtain ⟨k, o, hk, ho⟩ := hin i hm
      exact (hcross hk ((hblkin hk).1 hi) hm' (by rw [← hblkout hm']; exact hj)).elim
    · obtain ⟨k, o, hk, ho⟩ := hin j hm'
      exact (hcross hk ((hblkin hk).1 hj) hm (by rw [← hblkout hm]; exact hi)).elim
    · exact h.sep i j b (by rw [← hblkout hm]; exact hi) (by rw [← hblkout hm']; exact hj)
  · exact hs.kept.mono fun b _ hu k hk => by
      obtain ⟨i, hi⟩ := hpk hk
      exact hu i (hpin hi hk)
  · intro i b hi
    by_cases hm : i ∈ ids
    · obtain ⟨k, o, hk, ho⟩ := hin i hm
      rcases hs.own k b ((hblkin hk).1 hi) with h1 | ⟨j, h1⟩
      · exact .inl h1
      · obtain ⟨i', hi'⟩ := hpk h1
        exact .inr ⟨i', hpin hi' h1⟩
    · exact .inr ⟨i, by rw [← hblkout hm]; exact hi⟩
  · intro b k v hv
    rcases hs.still b k v hv with h1 | h1 | ⟨j, h1⟩
    · exact .inl h1
    · exact .inr (.inl h1)
    · obtain ⟨i', hi'⟩ := hpk h1
      exact .inr (.inr ⟨i', hpin hi' h1⟩)

theorem Does.embed {P : Program} {f : FuncId} {args : List AV} {S : List AObj} {r : AV} {S' : List AObj} (hd : Does P f args S r S') (T : List AObj) (ids : List Nat) (hn : ids.Nodup) (hl : ids.length = S'.length) (hSl : S.length ≤ S'.length)
    (hT : ∀ (k : Nat) (o : AObj), S[k]? = some o → ∃ i, ids[k]? = some i ∧ T[i]? = some (o.ren (ixs ids T.length))) (hD : ∀ (k i : Nat), S.length ≤ k → ids[k]? = some i → T[i]? = some .dead) :
    Does P f (args.map fun x => x.ren (ixs ids T.length)) T (r.ren (ixs ids T.length)) (updL T (ids.zip (S'.map fun o => o.ren (ixs ids T.length)))) := by
  refine ⟨hd.1, ?_⟩
  intro G w vs hw hr
  refine (hd.2 (G.pull (ixs ids T.length)) w vs (Wd.pull hw ids hn (by omega) hT hD).1 hr.pull).mono ?_
  rintro e w' ⟨v, G', rfl, hv, hs⟩
  have := Left.push hw ids hn hl hSl hT hD hs
  exact ⟨v, _, rfl, this.2 r v hv, this.1⟩

/-- What a call leaves, told in a smaller store. -/
theorem Does.clean {P : Program} {f : FuncId} {args : List AV} {S : List AObj} {r r' : AV} {S' T : List AObj} (hd : Does P f args S r' T) (ids : List Nat) (hn : ids.Nodup) (hl : ids.length = S'.length) (hSl : S.length ≤ S'.length)
    (hp : ∀ (k i : Nat), k < S.length → ids[k]? = some i → i = k)
    (hT : ∀ (k : Nat) (o : AObj), S'[k]? = some o → ∃ i, ids[k]? = some i ∧ T[i]? = some (o.ren (ixs ids T.length))) (hr : r.ren (ixs ids T.length) = r') : Does P f args S r S' := by
  refine ⟨hd.1, ?_⟩
  intro G w vs hw hra
  refine (hd.2 G w vs hw hra).mono ?_
  rintro e w' ⟨v, G', rfl, hv, hs⟩
  have hD : ∀ (k i : Nat), S'.length ≤ k → ids[k]? = some i → T[i]? = some .dead := fun k i hk hi => by
    rw [List.getElem?_eq_none (by omega)] at hi; cases hi
  obtain ⟨hwd, hblk⟩ := Wd.pull hs.wd ids hn (by omega) hT hD
  have hid : ∀ k, k < S.length → ixs ids T.length k = k := fun k hk => by
    have e : ids[k]? = some (ids[k]'(by omega)) := by simp
    rw [ixs_get e]; exact hp k _ hk e
  refine ⟨v, _, rfl, hv.pull r hr, ⟨⟨hs.le.imm, fun i b hb => ?_, fun i n u hb => ?_⟩, hwd, hs.kept, fun i b hb => ?_, hs.still⟩⟩
  · have hi : i < S.length := by
      rcases Nat.lt_or_ge i S.length with h | h
      · exact h
      · rw [(hw.dom i (.inl (List.getElem?_eq_none h))).1] at hb; cases hb
    show G'.loc (ixs ids T.length i) = _
    rw [hid i hi]; exact hs.le.loc i b hb
  · have hi : i < S.length := by
      rcases Nat.lt_or_ge i S.length with h | h
      · exact h
      · rw [(hw.dom i (.inl (List.getElem?_eq_none h))).2] at hb; cases hb
    show G'.hist (ixs ids T.length i) n = _
    rw [hid i hi]; exact hs.le.hist i n u hb
  · rcases hblk i with h | h
    · rw [h] at hb; cases hb
    · rw [h] at hb; exact hs.own _ b hb

end Go.Proofs.Ytgphhganepjaiaa
