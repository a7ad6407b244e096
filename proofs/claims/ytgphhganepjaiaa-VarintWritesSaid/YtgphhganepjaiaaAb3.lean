/-
  What single steps leave in a world that bears a store: a new object, a cell that is stored, a new row that lies still, a row that grows: over any program.
-/
import Derived.Test.YtgphhganepjaiaaAb2
namespace Go.Proofs.Ytgphhganepjaiaa

theorem blk_lt {G : Gh} {T : List AObj} {w : World} (h : Wd G T w) {i b : Nat} (hb : blk G T i = some b) : b < w.heap.size := by
  unfold blk at hb
  split at hb
  · rename_i xs hi
    obtain ⟨b', cs, t, h1, h2, _⟩ := h.obj i xs hi
    rw [h1] at hb; injection hb with hb; subst hb
    exact (Array.getElem?_eq_some_iff.1 h2).1
  · rename_i k n hi
    obtain ⟨_, A, c, h1, h2, h3, h4⟩ := h.row i k n hi
    rw [h1] at hb
    split at hb
    · rename_i a _ c' heq
      split at hb
      · rename_i hlt
        injection heq with heq
        injection heq with e1 e2 e3
        subst e1 e3
        obtain ⟨b', cs, t, h5, h6, _⟩ := h4 hlt
        injection h5 with h5
        injection hb with hb
        rw [← hb, h5]
        exact (Array.getElem?_eq_some_iff.1 h6).1
      · cases hb
    · cases hb
  · cases hb
theorem imm_lt {G : Gh} {T : List AObj} {w : World} (h : Wd G T w) {b i : Nat} {v : Value} (hv : G.imm b i = some v) : b < w.heap.size :=
  World.block_lt_of_cell? w _ (h.imm b i v hv)

/-- A world that has one block more, all else of the memory as it was. -/
structure More (w w' : World) (o : Obj) : Prop where
  os : w'.os = w.os
  tape : w'.tape = w.tape
  output : w'.output = w.output
  heap : w'.heap = w.heap.push o
theorem More.alloc (w : World) (o : Obj) : More w (w.alloc o) o := ⟨rfl, rfl, rfl, rfl⟩
theorem More.drew (w : World) (o : Obj) : More w (w.drew.alloc o) o := ⟨rfl, rfl, rfl, rfl⟩
theorem More.old {w w' : World} {o : Obj} (h : More w w' o) {i : Nat} (hi : i < w.heap.size) : w'.heap[i]? = w.heap[i]? := by
  rw [h.heap, Array.getElem?_push_lt hi]; simp [hi]
theorem More.new {w w' : World} {o : Obj} (h : More w w' o) : w'.heap[w.heap.size]? = some o := by
  rw [h.heap]; simp
theorem More.size {w w' : World} {o : Obj} (h : More w w' o) : w'.heap.size = w.heap.size + 1 := by rw [h.heap]; simp
theorem More.kept {w w' : World} {o : Obj} (h : More w w' o) (K : Nat → Prop) : Kept K w w' := ⟨h.os, h.tape, h.output, by rw [h.size]; omega, fun _ hi _ => h.old hi⟩
theorem More.cell {w w' : World} {o : Obj} (h : More w w' o) {a : Addr} {v : Value} (hc : w.cell? a = some v) : w'.cell? a = some v :=
  (World.cell?_of_block (w := w) (h.old (World.block_lt_of_cell? w _ hc))).trans hc

def Gh.newLoc (G : Gh) (id b : Nat) : Gh := ⟨G.imm, fun i => if i = id then some b else G.loc i, G.hist⟩
def Gh.newImm (G : Gh) (b : Nat) (vs : List Value) : Gh := ⟨fun b' i => if b' = b then vs[i]? else G.imm b' i, G.loc, G.hist⟩
def Gh.newHist (G : Gh) (id n : Nat) (v : Value) : Gh := ⟨G.imm, G.loc, fun j m => if j = id ∧ m = n then some v else G.hist j m⟩

/-- What a store bears stays where the memory has one block more (and nothing of the ghost has turned). -/
theorem Wd.more {G : Gh} {T : List AObj} {w w' : World} {o : Obj} (h : Wd G T w) (hm : More w w' o) : Wd G T w' := by
  refine ⟨fun b i v hv => hm.cell (h.imm b i v hv), h.dom, fun i xs hi => ?_, fun j k n hj => ?_, h.sep⟩
  · obtain ⟨b, cs, t, h1, h2, h3, h4, h5⟩ := h.obj i xs hi
    exact ⟨b, cs, t, h1, by rw [hm.old (Array.getElem?_eq_some_iff.1 h2).1]; exact h2, h3, h4, h5⟩
  · obtain ⟨h0, A, c, h1, h2, h3, h4⟩ := h.row j k n hj
    refine ⟨h0, A, c, h1, h2, h3, fun hlt => ?_⟩
    obtain ⟨b, cs, t, g1, g2, g3, g4⟩ := h4 hlt
    exact ⟨b, cs, t, g1, by rw [hm.old (Array.getElem?_eq_some_iff.1 g2).1]; exact g2, g3, g4⟩
theorem Left.more {G : Gh} {T : List AObj} {w w' : World} {o : Obj} (h : Wd G T w) (hm : More w w' o) : Left G T w G T w' :=
  ⟨Gh.Le.refl _, h.more hm, hm.kept _, fun i _ hb => .inr ⟨i, hb⟩, fun _ _ _ h => .inl h⟩
theorem Wd.drawn {G : Gh} {T : List AObj} {w w' : World} (h : Wd G T w) (hh : w'.heap = w.heap) : Wd G T w' := by
  refine ⟨fun b i v hv => (World.cell?_of_block (w := w) (by rw [hh])).trans (h.imm b i v hv), h.dom, fun i xs hi => ?_, fun j k n hj => ?_, h.sep⟩
  · rw [hh]; exact h.obj i xs hi
  · rw [hh]; exact h.row j k n hj

/-- More is claimed of blocks that were not there before, and that are no object's. -/
theorem Wd.claim {G : Gh} {T : List AObj} {w : World} (h : Wd G T w) (b : Nat) (vs : List Value) (hc : ∀ (i : Nat) (v : Value), vs[i]? = some v → w.cell? ⟨b, i, none⟩ = some v)
    (hn : ∀ i, G.imm b i = none) (hb : ∀ i, blk G T i ≠ some b) : Wd (G.newImm b vs) T w ∧ G.Le (G.newImm b vs) := by
  have hle : G.Le (G.newImm b vs) := by
    refine ⟨fun b' i v hv => ?_, fun _ _ h => h, fun _ _ _ h => h⟩
    by_cases e : b' = b
    · subst e; rw [hn i] at hv; cases hv
    · simpa [Gh.newImm, e] using hv
  have hblk : ∀ i, blk (G.newImm b vs) T i = blk G T i := fun i => rfl
  refine ⟨⟨fun b' i v hv => ?_, h.dom, fun i xs hi => ?_, fun j k n hj => ?_, fun i j b' hi hj => h.sep i j b' hi hj⟩, hle⟩
  · by_cases e : b' = b
    · subst e; simp [Gh.newImm] at hv; exact hc i v hv
    · simp [Gh.newImm, e] at hv; exact h.imm b' i v hv
  · obtain ⟨b', cs, t, h1, h2, h3, h4, h5⟩ := h.obj i xs hi
    refine ⟨b', cs, t, h1, h2, h3, fun k x v hx hv => ⟨(h4 k x v hx hv).1, (h4 k x v hx hv).2.mono hle⟩, fun k => ?_⟩
    have : b' ≠ b := by rintro rfl; exact hb i (by simp [blk, hi, h1])
    simpa [Gh.newImm, this] using h5 k
  · obtain ⟨h0, A, c, h1, h2, h3, h4⟩ := h.row j k n hj
    refine ⟨h0, A, c, h1, h2, h3, fun hlt => ?_⟩
    obtain ⟨b', cs, t, g1, g2, g3, g4⟩ := h4 hlt
    refine ⟨b', cs, t, g1, g2, g3, fun i hi => ?_⟩
    have : b' ≠ b := by rintro rfl; exact hb j (by simp [blk, hj, h1, hlt, g1])
    simpa [Gh.newImm, this] using g4 i hi

/-- A new object at a place that was kept free. -/
theorem Left.new {G : Gh} {T : List AObj} {w w' : World} {id : Nat} {xs : List AV} {vs : List Value} {t : TypeId} (h : Wd G T w) (hid : T[id]? = some .dead) (hr : RepL G xs vs) (ho : ∀ v ∈ vs, v.oneCell' = true)
    (hm : More w w' (.cells vs.toArray t)) : Left G T w (G.newLoc id w.heap.size) (T.set id (.cells xs)) w' := by
  have hlt : id < T.length := (List.getElem?_eq_some_iff.1 hid).1
  have hd := h.dom id (.inr hid)
  have hw := h.more hm
  have hle : G.Le (G.newLoc id w.heap.size) := by
    refine ⟨fun _ _ _ h => h, fun i b hb => ?_, fun _ _ _ h => h⟩
    by_cases e : i = id
    · subst e; rw [hd.1] at hb; cases hb
    · simpa [Gh.newLoc, e] using hb
  have hold : ∀ {i : Nat}, i ≠ id → (T.set id (.cells xs))[i]? = T[i]? := fun {i} e => by rw [List.getElem?_set_ne (Ne.symm e)]
  have hnew : (T.set id (.cells xs))[id]? = some (.cells xs) := by simp [hlt]
  have hbnew : blk (G.newLoc id w.heap.size) (T.set id (.cells xs)) id = some w.heap.size := by simp [blk, hnew, Gh.newLoc]
  have hbold : ∀ {i : Nat}, i ≠ id → blk (G.newLoc id w.heap.size) (T.set id (.cells xs)) i = blk G T i := by
    intro i e
    unfold blk
    rw [hold e]
    simp [Gh.newLoc, e]
  refine ⟨hle, ⟨hw.imm, fun i hi => ?_, fun i ys hi => ?_, fun j k n hj => ?_, fun i j b hi hj => ?_⟩, hm.kept _, fun i b hb => ?_, fun _ _ _ h => .inl h⟩
  · by_cases e : i = id
    · subst e; rw [hnew] at hi; simp at hi
    · rw [hold e] at hi; simpa [Gh.newLoc, e] using h.dom i hi
  · by_cases e : i = id
    · subst e
      rw [hnew] at hi; injection hi with hi; injection hi with hi; subst hi
      refine ⟨w.heap.size, vs.toArray, t, by simp [Gh.newLoc], hm.new, by simpa using hr.1.symm, fun k x v hx hv => ⟨ho v ?_, (hr.2 k x v hx (by simpa using hv)).mono hle⟩, fun k => ?_⟩
      · exact List.mem_of_getElem? (by simpa using hv)
      · cases hc : G.imm w.heap.size k with
        | none => exact hc
        | some u => have := imm_lt h hc; omega
    · rw [hold e] at hi
      obtain ⟨b, cs, t, h1, h2, h3, h4, h5⟩ := hw.obj i ys hi
      exact ⟨b, cs, t, by simpa [Gh.newLoc, e] using h1, h2, h3, fun k x v hx hv => ⟨(h4 k x v hx hv).1, (h4 k x v hx hv).2.mono hle⟩, h5⟩
  · have e : j ≠ id := by rintro rfl; rw [hnew] at hj; cases hj
    rw [hold e] at hj
    exact hw.row j k n hj
  · by_cases e : i = id <;> by_cases e' : j = id
    · rw [e, e']
    · rw [e, hbnew] at hi; injection hi with hi
      rw [hbold e'] at hj
      have := blk_lt h hj; omega
    · rw [e', hbnew] at hj; injection hj with hj
      rw [hbold e] at hi
      have := blk_lt h hi; omega
    · rw [hbold e] at hi; rw [hbold e'] at hj; exact h.sep i j b hi hj
  · by_cases e : i = id
    · rw [e, hbnew] at hb; injection hb with hb; left; omega
    · rw [hbold e] at hb; exact .inr ⟨i, hb⟩


/-- A world one of whose blocks has turned. -/
structure Turn (w w' : World) (b : Nat) (o : Obj) : Prop where
  os : w'.os = w.os
  tape : w'.tape = w.tape
  output : w'.output = w.output
  size : w'.heap.size = w.heap.size
  other : ∀ i, i ≠ b → w'.heap[i]? = w.heap[i]?
  here : w'.heap[b]? = some o
theorem Turn.cell {w w' : World} {b : Nat} {o : Obj} (h : Turn w w' b o) {a : Addr} {v : Value} (ha : a.block ≠ b) (hc : w.cell? a = some v) : w'.cell? a = some v :=
  (World.cell?_of_block (w := w) (h.other _ ha)).trans hc
theorem Turn.kept {w w' : World} {b : Nat} {o : Obj} (h : Turn w w' b o) {K : Nat → Prop} (hK : ¬ K b) : Kept K w w' :=
  ⟨h.os, h.tape, h.output, by rw [h.size]; omega, fun i _ hk => h.other i (by rintro rfl; exact hK hk)⟩
theorem cell_at {w : World} {b : Nat} {cs : Array Value} {t : TypeId} {fz : Nat × Nat} (h : w.heap[b]? = some (.cells cs t fz)) (i : Nat) : w.cell? ⟨b, i, none⟩ = cs[i]? := cell_of_row w b i cs t fz h

theorem Left.turn {G : Gh} {T : List AObj} {w w' : World} {i b : Nat} {xs xs' : List AV} {cs : Array Value} {t : TypeId} (h : Wd G T w) (hi : T[i]? = some (.cells xs)) (hb : G.loc i = some b)
    (hm : Turn w w' b (.cells cs t (0, 0))) (hs : cs.size = xs'.length) (hc : ∀ (k : Nat) (x : AV) (v : Value), xs'[k]? = some x → cs[k]? = some v → v.oneCell' = true ∧ Rep G x v) :
    Left G T w G (T.set i (.cells xs')) w' := by
  have hlt : i < T.length := (List.getElem?_eq_some_iff.1 hi).1
  have hold : ∀ {j : Nat}, j ≠ i → (T.set i (.cells xs'))[j]? = T[j]? := fun {j} e => by rw [List.getElem?_set_ne (Ne.symm e)]
  have hnew : (T.set i (.cells xs'))[i]? = some (.cells xs') := by simp [hlt]
  have hbi : blk G T i = some b := by simp [blk, hi, hb]
  have hblk : ∀ j, blk G (T.set i (.cells xs')) j = blk G T j := by
    intro j
    by_cases e : j = i
    · subst e; simp [blk, hnew, hi]
    · simp [blk, hold e]
  have hfar : ∀ {j b' : Nat}, j ≠ i → blk G T j = some b' → b' ≠ b := fun {j b'} e hj he => e (h.sep j i b (he ▸ hj) hbi)
  have himm : ∀ k, G.imm b k = none := by
    obtain ⟨b', _, _, h1, _, _, _, h5⟩ := h.obj i xs hi
    rw [hb] at h1; injection h1 with h1; subst h1; exact h5
  refine ⟨Gh.Le.refl _, ⟨fun b' k v hv => ?_, fun j hj => ?_, fun j ys hj => ?_, fun j k n hj => ?_, fun j j' b' hj hj' => ?_⟩, hm.kept fun hu => hu i hbi, fun j b' hj => ?_, fun _ _ _ h => .inl h⟩
  · refine hm.cell (fun e => ?_) (h.imm b' k v hv)
    have e' : b' = b := e
    subst e'; rw [himm k] at hv; cases hv
  · by_cases e : j = i
    · subst e; rw [hnew] at hj; simp at hj
    · rw [hold e] at hj; exact h.dom j hj
  · by_cases e : j = i
    · subst e
      rw [hnew] at hj; injection hj with hj; injection hj with hj; subst hj
      exact ⟨b, cs, t, hb, hm.here, hs, hc, himm⟩
    · rw [hold e] at hj
      obtain ⟨b', cs', t', h1, h2, h3⟩ := h.obj j ys hj
      exact ⟨b', cs', t', h1, by rw [hm.other b' (hfar e (by simp [blk, hj, h1]))]; exact h2, h3⟩
  · have e : j ≠ i := by rintro rfl; rw [hnew] at hj; cases hj
    rw [hold e] at hj
    obtain ⟨h0, A, c, h1, h2, h3, h4⟩ := h.row j k n hj
    refine ⟨h0, A, c, h1, h2, h3, fun hlt => ?_⟩
    obtain ⟨b', cs', t', g1, g2, g3⟩ := h4 hlt
    exact ⟨b', cs', t', g1, by rw [hm.other b' (hfar e (by simp [blk, hj, h1, hlt, g1]))]; exact g2, g3⟩
  · rw [hblk] at hj hj'; exact h.sep j j' b' hj hj'
  · rw [hblk] at hj; exact .inr ⟨j, hj⟩

/-- A new row at a place (kept free, or a shorter row's) whose slice is all of its capacity. -/
theorem Left.rowFull {G : Gh} {T : List AObj} {w : World} {id k n : Nat} {A : Option Addr} (h : Wd G T w) (hid : T[id]? = some .dead) (hk : 1 ≤ k) :
    Left G T w (G.newHist id n (.slice A n n)) (T.set id (.row k n)) w ∧ (G.newHist id n (.slice A n n)).hist id n = some (.slice A n n) := by
  have hlt : id < T.length := (List.getElem?_eq_some_iff.1 hid).1
  have hd := h.dom id (.inr hid)
  have hle : G.Le (G.newHist id n (.slice A n n)) := by
    refine ⟨fun _ _ _ h => h, fun _ _ h => h, fun j m v hv => ?_⟩
    by_cases e : j = id
    · subst e; rw [hd.2] at hv; cases hv
    · simpa [Gh.newHist, e] using hv
  have hold : ∀ {i : Nat}, i ≠ id → (T.set id (.row k n))[i]? = T[i]? := fun {i} e => by rw [List.getElem?_set_ne (Ne.symm e)]
  have hnew : (T.set id (.row k n))[id]? = some (.row k n) := by simp [hlt]
  have hhist : (G.newHist id n (.slice A n n)).hist id n = some (.slice A n n) := by simp [Gh.newHist]
  have hbnew : blk (G.newHist id n (.slice A n n)) (T.set id (.row k n)) id = none := by
    simp only [blk, hnew, hhist]; cases A <;> simp
  have hbold : ∀ {i : Nat}, i ≠ id → blk (G.newHist id n (.slice A n n)) (T.set id (.row k n)) i = blk G T i := by
    intro i e
    unfold blk
    rw [hold e]
    simp [Gh.newHist, e]
  refine ⟨⟨hle, ⟨h.imm, fun i hi => ?_, fun i ys hi => ?_, fun j k' n' hj => ?_, fun i j b hi hj => ?_⟩, Kept.refl _ _, fun i b hb => ?_, fun _ _ _ h => .inl h⟩, hhist⟩
  · by_cases e : i = id
    · subst e; rw [hnew] at hi; simp at hi
    · rw [hold e] at hi; simpa [Gh.newHist, e] using h.dom i hi
  · have e : i ≠ id := by rintro rfl; rw [hnew] at hi; cases hi
    rw [hold e] at hi
    obtain ⟨b, cs, t, h1, h2, h3, h4, h5⟩ := h.obj i ys hi
    exact ⟨b, cs, t, h1, h2, h3, fun k x v hx hv => ⟨(h4 k x v hx hv).1, (h4 k x v hx hv).2.mono hle⟩, h5⟩
  · by_cases e : j = id
    · subst e
      rw [hnew] at hj; injection hj with hj; injection hj with e1 e2; subst e1 e2
      refine ⟨hk, A, n, hhist, fun n' v' hv => ?_, Nat.le_refl _, fun hlt => by omega⟩
      by_cases e : n' = n
      · omega
      · simp [Gh.newHist, e] at hv; rw [hd.2] at hv; cases hv
    · rw [hold e] at hj
      obtain ⟨h0, A', c, h1, h2, h3⟩ := h.row j k' n' hj
      exact ⟨h0, A', c, by simpa [Gh.newHist, e] using h1, fun n' v' hv => h2 n' v' (by simpa [Gh.newHist, e] using hv), h3⟩
  · have e : i ≠ id := by rintro rfl; rw [hbnew] at hi; cases hi
    have e' : j ≠ id := by rintro rfl; rw [hbnew] at hj; cases hj
    rw [hbold e] at hi; rw [hbold e'] at hj; exact h.sep i j b hi hj
  · have e : i ≠ id := by rintro rfl; rw [hbnew] at hb; cases hb
    rw [hbold e] at hb; exact .inr ⟨i, hb⟩

/-- A row that lies in a new block: at a place kept free, or at a shorter row's. -/
theorem Left.rowNew {G : Gh} {T : List AObj} {w w' : World} {id k n c : Nat} {vs : List Value} {cs : Array Value} {t : TypeId} (h : Wd G T w) (hid : T[id]? = some .dead ∨ ∃ m, m < n ∧ T[id]? = some (.row k m)) (hk : 1 ≤ k)
    (hm : More w w' (.cells cs t (0, 0))) (hn : n ≤ c) (hcs : cs.size = c * k) (hvs : vs.length = n * k) (hc : ∀ (i : Nat) (v : Value), vs[i]? = some v → cs[i]? = some v) :
    Left G T w ((G.newImm w.heap.size vs).newHist id n (.slice (some ⟨w.heap.size, 0, none⟩) n c)) (T.set id (.row k n)) w' := by
  have hlt : id < T.length := by rcases hid with h | ⟨m, _, h⟩ <;> exact (List.getElem?_eq_some_iff.1 h).1
  have hw := h.more hm
  have hnone : ∀ i, G.imm w.heap.size i = none := fun i => by
    cases hc : G.imm w.heap.size i with
    | none => rfl
    | some u => have := imm_lt h hc; omega
  have hbn : ∀ i, blk G T i ≠ some w.heap.size := fun i hi => by have := blk_lt h hi; omega
  obtain ⟨hw1, hle1⟩ := hw.claim w.heap.size vs (fun i v hv => by rw [cell_at hm.new]; exact hc i v hv) hnone hbn
  have hhn : G.hist id n = none := by
    rcases hid with h0 | ⟨m, hmn, h0⟩
    · exact (h.dom id (.inr h0)).2 n
    · obtain ⟨_, A, c', _, h2, _⟩ := h.row id k m h0
      cases hv : G.hist id n with
      | none => rfl
      | some u => have := h2 n u hv; omega
  generalize hG1 : G.newImm w.heap.size vs = G1 at *
  have hG1h : G1.hist = G.hist := by rw [← hG1]; rfl
  have hG1l : G1.loc = G.loc := by rw [← hG1]; rfl
  generalize hG2 : G1.newHist id n (.slice (some ⟨w.heap.size, 0, none⟩) n c) = G2
  have hh2 : ∀ j m, j ≠ id → G2.hist j m = G.hist j m := fun j m e => by rw [← hG2, ← hG1h]; simp [Gh.newHist, e]
  have hhid : ∀ m, m ≠ n → G2.hist id m = G.hist id m := fun m e => by rw [← hG2, ← hG1h]; simp [Gh.newHist, e]
  have hl2 : G2.loc = G.loc := by rw [← hG2, ← hG1l]; rfl
  have hi2 : G2.imm = G1.imm := by rw [← hG2]; rfl
  have hle2 : G1.Le G2 := by
    refine ⟨fun _ _ _ h => by rw [hi2]; exact h, fun _ _ h => by rw [hl2, ← hG1l]; exact h, fun j m v hv => ?_⟩
    rw [hG1h] at hv
    by_cases e : j = id
    · subst e
      by_cases e' : m = n
      · subst e'; rw [hhn] at hv; cases hv
      · rw [hhid m e']; exact hv
    · rw [hh2 j m e]; exact hv
  have hhist : G2.hist id n = some (.slice (some ⟨w.heap.size, 0, none⟩) n c) := by rw [← hG2]; simp [Gh.newHist]
  have hold : ∀ {i : Nat}, i ≠ id → (T.set id (.row k n))[i]? = T[i]? := fun {i} e => by rw [List.getElem?_set_ne (Ne.symm e)]
  have hnew : (T.set id (.row k n))[id]? = some (.row k n) := by simp [hlt]
  have hbnew : ∀ {b : Nat}, blk G2 (T.set id (.row k n)) id = some b → b = w.heap.size := by
    intro b hb
    simp only [blk, hnew, hhist] at hb
    split at hb
    · injection hb with hb; exact hb.symm
    · cases hb
  have hbold : ∀ {i : Nat}, i ≠ id → blk G2 (T.set id (.row k n)) i = blk G T i := by
    intro i e
    unfold blk
    rw [hold e, hl2]
    simp only [hh2 i _ e]
  refine ⟨hle1.trans hle2, ⟨fun b i v hv => hw1.imm b i v (by rw [← hi2]; exact hv), fun i hi => ?_, fun i ys hi => ?_, fun j k' n' hj => ?_, fun i j b hi hj => ?_⟩, hm.kept _, fun i b hb => ?_, fun b i v hv => ?_⟩
  · by_cases e : i = id
    · subst e; rw [hnew] at hi; simp at hi
    · rw [hold e] at hi
      refine ⟨by rw [hl2]; exact (h.dom i hi).1, fun m => by rw [hh2 i m e]; exact (h.dom i hi).2 m⟩
  · have e : i ≠ id := by rintro rfl; rw [hnew] at hi; cases hi
    rw [hold e] at hi
    obtain ⟨b, cs, t, h1, h2, h3, h4, h5⟩ := hw1.obj i ys hi
    exact ⟨b, cs, t, by rw [hl2, ← hG1l]; exact h1, h2, h3, fun k x v hx hv => ⟨(h4 k x v hx hv).1, (h4 k x v hx hv).2.mono hle2⟩, fun k => by rw [hi2]; exact h5 k⟩
  · by_cases e : j = id
    · subst e
      rw [hnew] at hj; injection hj with hj; injection hj with e1 e2; subst e1 e2
      refine ⟨hk, _, c, hhist, fun n' v' hv => ?_, hn, fun _ => ⟨w.heap.size, cs, t, rfl, hm.new, hcs, fun i hi => ?_⟩⟩
      · by_cases e : n' = n
        · omega
        · rw [hhid n' e] at hv
          rcases hid with h0 | ⟨m, hmn, h0⟩
          · rw [(h.dom j (.inr h0)).2] at hv; cases hv
          · obtain ⟨_, A, c', _, h2, _⟩ := h.row j k m h0
            have := h2 n' v' hv; omega
      · rw [hi2, ← hG1]
        simp only [Gh.newImm, if_true]
        exact List.getElem?_eq_none (by omega)
    · rw [hold e] at hj
      obtain ⟨h0, A', c', h1, h2, h3, h4⟩ := hw1.row j k' n' hj
      rw [hG1h] at h1 h2
      exact ⟨h0, A', c', by rw [hh2 j _ e]; exact h1, fun n' v' hv => h2 n' v' (by rw [← hh2 j _ e]; exact hv), h3, fun hl => by
        obtain ⟨b, cs, t, g1, g2, g3, g4⟩ := h4 hl
        exact ⟨b, cs, t, g1, g2, g3, fun i hi => by rw [hi2]; exact g4 i hi⟩⟩
  · by_cases e : i = id <;> by_cases e' : j = id
    · rw [e, e']
    · subst e
      have := hbnew hi; subst this
      rw [hbold e'] at hj; exact (hbn _ hj).elim
    · subst e'
      have := hbnew hj; subst this
      rw [hbold e] at hi; exact (hbn _ hi).elim
    · rw [hbold e] at hi; rw [hbold e'] at hj; exact h.sep i j b hi hj
  · by_cases e : i = id
    · subst e; left; rw [hbnew hb]; omega
    · rw [hbold e] at hb; exact .inr ⟨i, hb⟩
  · rw [hi2, ← hG1] at hv
    by_cases e : b = w.heap.size
    · right; left; omega
    · left; simpa [Gh.newImm, e] using hv


def Gh.moreImm (G : Gh) (b at_ : Nat) (vs : List Value) : Gh := ⟨fun b' i => if b' = b ∧ at_ ≤ i then vs[i - at_]? else G.imm b' i, G.loc, G.hist⟩

/-- A row that grows in its own block. -/
theorem Left.rowGrow {G : Gh} {T : List AObj} {w w' : World} {j k n n' b c : Nat} {vs : List Value} {cs : Array Value} {t : TypeId} (h : Wd G T w) (hj : T[j]? = some (.row k n)) (hh : G.hist j n = some (.slice (some ⟨b, 0, none⟩) n c))
    (hn : n < n') (hc : n' ≤ c) (hm : Turn w w' b (.cells cs t (0, 0))) (hcs : cs.size = c * k) (hold : ∀ i, i < n * k → w.cell? ⟨b, i, none⟩ = cs[i]?) (hvs : vs.length = (n' - n) * k)
    (hnew : ∀ (i : Nat) (v : Value), vs[i]? = some v → cs[n * k + i]? = some v) :
    Left G T w ((G.moreImm b (n * k) vs).newHist j n' (.slice (some ⟨b, 0, none⟩) n' c)) (T.set j (.row k n')) w' := by
  have hlt : j < T.length := (List.getElem?_eq_some_iff.1 hj).1
  obtain ⟨hk, A, c', h1, h2, h3, h4⟩ := h.row j k n hj
  rw [hh] at h1; injection h1 with h1; injection h1 with e1 e2 e3; subst e1 e3
  obtain ⟨b', cs0, t0, g1, g2, g3, g4⟩ := h4 (by omega)
  injection g1 with g1; injection g1 with g1; subst g1
  have hbj : blk G T j = some b := by simp [blk, hj, hh, show n < c by omega]
  have hfar : ∀ {i b' : Nat}, i ≠ j → blk G T i = some b' → b' ≠ b := fun {i b'} e hi he => e (h.sep i j b (he ▸ hi) hbj)
  have hhn : G.hist j n' = none := by
    cases hv : G.hist j n' with
    | none => rfl
    | some u => have := h2 n' u hv; omega
  generalize hG2 : (G.moreImm b (n * k) vs).newHist j n' (.slice (some ⟨b, 0, none⟩) n' c) = G2
  have hh2 : ∀ i m, i ≠ j → G2.hist i m = G.hist i m := fun i m e => by rw [← hG2]; simp [Gh.newHist, Gh.moreImm, e]
  have hhj : ∀ m, m ≠ n' → G2.hist j m = G.hist j m := fun m e => by rw [← hG2]; simp [Gh.newHist, Gh.moreImm, e]
  have hl2 : G2.loc = G.loc := by rw [← hG2]; rfl
  have hhist : G2.hist j n' = some (.slice (some ⟨b, 0, none⟩) n' c) := by rw [← hG2]; simp [Gh.newHist]
  have hifar : ∀ b' i, b' ≠ b → G2.imm b' i = G.imm b' i := fun b' i e => by rw [← hG2]; simp [Gh.newHist, Gh.moreImm, e]
  have hilow : ∀ i, i < n * k → G2.imm b i = G.imm b i := fun i e => by rw [← hG2]; simp [Gh.newHist, Gh.moreImm, show ¬ n * k ≤ i by omega]
  have hihigh : ∀ i, n * k ≤ i → G2.imm b i = vs[i - n * k]? := fun i e => by rw [← hG2]; simp [Gh.newHist, Gh.moreImm, e]
  have hle : G.Le G2 := by
    refine ⟨fun b' i v hv => ?_, fun _ _ h => by rw [hl2]; exact h, fun i m v hv => ?_⟩
    · by_cases e : b' = b
      · subst e
        by_cases e' : i < n * k
        · rw [hilow i e']; exact hv
        · rw [g4 i (by omega)] at hv; cases hv
      · rw [hifar b' i e]; exact hv
    · by_cases e : i = j
      · subst e
        by_cases e' : m = n'
        · subst e'; rw [hhn] at hv; cases hv
        · rw [hhj m e']; exact hv
      · rw [hh2 i m e]; exact hv
  have hset : ∀ {i : Nat}, i ≠ j → (T.set j (.row k n'))[i]? = T[i]? := fun {i} e => by rw [List.getElem?_set_ne (Ne.symm e)]
  have hsetj : (T.set j (.row k n'))[j]? = some (.row k n') := by simp [hlt]
  have hbnew : ∀ {b' : Nat}, blk G2 (T.set j (.row k n')) j = some b' → b' = b := by
    intro b' hb'
    simp only [blk, hsetj, hhist] at hb'
    split at hb'
    · injection hb' with hb'; exact hb'.symm
    · cases hb'
  have hbold : ∀ {i : Nat}, i ≠ j → blk G2 (T.set j (.row k n')) i = blk G T i := by
    intro i e
    unfold blk
    rw [hset e, hl2]
    simp only [hh2 i _ e]
  refine ⟨hle, ⟨fun b' i v hv => ?_, fun i hi => ?_, fun i ys hi => ?_, fun i k' m hi => ?_, fun i i' b' hi hi' => ?_⟩, hm.kept fun hu => hu j hbj, fun i b' hb' => ?_, fun b' i v hv => ?_⟩
  · by_cases e : b' = b
    · subst e
      rw [cell_at hm.here]
      by_cases e' : i < n * k
      · rw [hilow i e'] at hv
        rw [← hold i e']; exact h.imm b' i v hv
      · rw [hihigh i (by omega)] at hv
        have := hnew (i - n * k) v hv
        rwa [show n * k + (i - n * k) = i by omega] at this
    · rw [hifar b' i e] at hv
      exact hm.cell e (h.imm b' i v hv)
  · by_cases e : i = j
    · subst e; rw [hsetj] at hi; simp at hi
    · rw [hset e] at hi
      exact ⟨by rw [hl2]; exact (h.dom i hi).1, fun m => by rw [hh2 i m e]; exact (h.dom i hi).2 m⟩
  · have e : i ≠ j := by rintro rfl; rw [hsetj] at hi; cases hi
    rw [hset e] at hi
    obtain ⟨b', cs', t', q1, q2, q3, q4, q5⟩ := h.obj i ys hi
    have hne : b' ≠ b := hfar e (by simp [blk, hi, q1])
    exact ⟨b', cs', t', by rw [hl2]; exact q1, by rw [hm.other b' hne]; exact q2, q3, fun k x v hx hv => ⟨(q4 k x v hx hv).1, (q4 k x v hx hv).2.mono hle⟩, fun k => by rw [hifar b' k hne]; exact q5 k⟩
  · by_cases e : i = j
    · subst e
      rw [hsetj] at hi; injection hi with hi; injection hi with e1 e2; subst e1 e2
      refine ⟨hk, _, c, hhist, fun m' v' hv => ?_, hc, fun _ => ⟨b, cs, t, rfl, hm.here, hcs, fun q hq => ?_⟩⟩
      · by_cases e : m' = n'
        · omega
        · rw [hhj m' e] at hv
          have := h2 m' v' hv; omega
      · have : n * k ≤ n' * k := Nat.mul_le_mul_right _ (by omega)
        rw [hihigh q (by omega)]
        have hmul : (n' - n) * k = n' * k - n * k := Nat.sub_mul _ _ _
        exact List.getElem?_eq_none (by omega)
    · rw [hset e] at hi
      obtain ⟨h0, A', c', q1, q2, q3, q4⟩ := h.row i k' m hi
      refine ⟨h0, A', c', by rw [hh2 i _ e]; exact q1, fun n' v' hv => q2 n' v' (by rw [← hh2 i _ e]; exact hv), q3, fun hl => ?_⟩
      obtain ⟨b', cs', t', p1, p2, p3, p4⟩ := q4 hl
      have hne : b' ≠ b := hfar e (by simp [blk, hi, q1, hl, p1])
      exact ⟨b', cs', t', p1, by rw [hm.other b' hne]; exact p2, p3, fun q hq => by rw [hifar b' q hne]; exact p4 q hq⟩
  · by_cases e : i = j <;> by_cases e' : i' = j
    · rw [e, e']
    · subst e
      have := hbnew hi; subst this
      rw [hbold e'] at hi'; exact (hfar e' hi' rfl).elim
    · subst e'
      have := hbnew hi'; subst this
      rw [hbold e] at hi; exact (hfar e hi rfl).elim
    · rw [hbold e] at hi; rw [hbold e'] at hi'; exact h.sep i i' b' hi hi'
  · by_cases e : i = j
    · subst e; right; exact ⟨i, by rw [hbnew hb']; exact hbj⟩
    · rw [hbold e] at hb'; exact .inr ⟨i, hb'⟩
  · by_cases e : b' = b
    · subst e; exact .inr (.inr ⟨j, hbj⟩)
    · rw [hifar b' i e] at hv; exact .inl hv

/-- New cells that lie still, in a block of their own. -/
theorem Left.still_ {G : Gh} {T : List AObj} {w w' : World} {cs : Array Value} {t : TypeId} {fz : Nat × Nat} {vs : List Value} (h : Wd G T w) (hm : More w w' (.cells cs t fz)) (hc : ∀ (i : Nat) (v : Value), vs[i]? = some v → cs[i]? = some v) :
    Left G T w (G.newImm w.heap.size vs) T w' := by
  have hnone : ∀ i, G.imm w.heap.size i = none := fun i => by
    cases hc : G.imm w.heap.size i with
    | none => rfl
    | some u => have := imm_lt h hc; omega
  obtain ⟨hw1, hle1⟩ := (h.more hm).claim w.heap.size vs (fun i v hv => by rw [cell_at hm.new]; exact hc i v hv) hnone (fun i hi => by have := blk_lt h hi; omega)
  refine ⟨hle1, hw1, hm.kept _, fun i b hb => .inr ⟨i, hb⟩, fun b i v hv => ?_⟩
  by_cases e : b = w.heap.size
  · right; left; omega
  · left; simpa [Gh.newImm, e] using hv

end Go.Proofs.Ytgphhganepjaiaa
