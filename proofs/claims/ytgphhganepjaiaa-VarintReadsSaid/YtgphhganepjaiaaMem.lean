/-
  What a call leaves as it was (Kept), over any program; readers and writers as they lie in memory.
-/
import Derived.Test.YtgphhganepjaiaaGen
namespace Go.Proofs.Ytgphhganepjaiaa
open Go.RowKit

/-- The blocks that K names are as they were, the others may have turned, new ones may be there. -/
structure Kept (K : Nat → Prop) (w w' : World) : Prop where
  os : w'.os = w.os
  tape : w'.tape = w.tape
  output : w'.output = w.output
  size : w.heap.size ≤ w'.heap.size
  block : ∀ i, i < w.heap.size → K i → w'.heap[i]? = w.heap[i]?
/-- All that was there is as it was. -/
abbrev Ext (w w' : World) : Prop := Kept (fun _ => True) w w'

section
variable {K K' : Nat → Prop} {w w' w'' : World}
theorem Kept.refl (K : Nat → Prop) (w : World) : Kept K w w := ⟨rfl, rfl, rfl, Nat.le_refl _, fun _ _ _ => rfl⟩
theorem Kept.trans (h : Kept K w w') (h' : Kept K w' w'') : Kept K w w'' :=
  ⟨h'.os.trans h.os, h'.tape.trans h.tape, h'.output.trans h.output, Nat.le_trans h.size h'.size, fun i hi hk => (h'.block i (Nat.lt_of_lt_of_le hi h.size) hk).trans (h.block i hi hk)⟩
theorem Kept.mono (h : Kept K w w') (hK : ∀ i, i < w.heap.size → K' i → K i) : Kept K' w w' := ⟨h.os, h.tape, h.output, h.size, fun i hi hk => h.block i hi (hK i hi hk)⟩
theorem Kept.any (h : Kept (fun _ => True) w w') : Kept K w w' := h.mono fun _ _ _ => trivial
theorem Kept.toBelow (h : Kept (fun _ => True) w w') : Below w.heap.size w w' := ⟨h.os, h.tape, h.output, h.size, fun i hi => h.block i hi trivial⟩
theorem Kept.lt_ext {B : Nat} (h : Kept (· < B) w w') (hB : w.heap.size = B) : Ext w w' := ⟨h.os, h.tape, h.output, h.size, fun i hi _ => h.block i hi (by omega)⟩
theorem Kept.trans_ext (h : Kept (fun _ => True) w w') (h' : Kept (· < w.heap.size) w' w'') : Kept (fun _ => True) w w'' :=
  ⟨h'.os.trans h.os, h'.tape.trans h.tape, h'.output.trans h.output, Nat.le_trans h.size h'.size, fun i hi _ => (h'.block i (Nat.lt_of_lt_of_le hi h.size) hi).trans (h.block i hi trivial)⟩
theorem Below.ext (h : Below w.heap.size w w') : Ext w w' := ⟨h.os, h.tape, h.output, h.size, fun i hi _ => h.block i hi⟩
theorem Kept.below {B : Nat} (h : Kept K w w') (hB : ∀ i, i < B → K i) (hs : B ≤ w.heap.size) : Below B w w' := ⟨h.os, h.tape, h.output, h.size, fun i hi => h.block i (by omega) (hB i hi)⟩
theorem Kept.bel {B : Nat} (h : Kept (fun _ => True) w w') (hB : B ≤ w.heap.size) : Below B w w' := h.below (fun _ _ => trivial) hB
theorem Kept.alloc (h : Kept K w w') (o : Obj) : Kept K w (w'.alloc o) :=
  ⟨h.os, h.tape, h.output, Nat.le_trans h.size (by simp), fun i hi hk => (Below.heap_alloc w' o i (Nat.lt_of_lt_of_le hi h.size)).trans (h.block i hi hk)⟩
theorem Kept.drew (h : Kept K w w') : Kept K w w'.drew := ⟨h.os, h.tape, h.output, h.size, h.block⟩
theorem Kept.drewN (h : Kept K w w') (n : Nat) : Kept K w (w'.drewN n) := ⟨h.os, h.tape, h.output, h.size, h.block⟩
theorem Kept.setCell (h : Kept K w w') {p : Addr} (hp : p.block < w.heap.size → ¬ K p.block) (u : Value) : Kept K w (w'.setCell p u) :=
  ⟨h.os, h.tape, h.output, by simpa [World.setCell] using h.size, fun i hi hk => (Below.heap_setCell w' p u i (by rintro rfl; exact hp hi hk)).trans (h.block i hi hk)⟩
theorem Kept.grown (h : Kept K w w') {row : Option Nat} (hg : w'.grownBy w'' row) (hr : ∀ k, row = some k → k < w.heap.size → ¬ K k) : Kept K w w'' :=
  ⟨hg.os.trans h.os, hg.tape.trans h.tape, hg.output.trans h.output, Nat.le_trans h.size hg.size, fun i hi hk => (hg.block i (Nat.lt_of_lt_of_le hi h.size) (fun e => hr i e.symm hi hk)).trans (h.block i hi hk)⟩
theorem Kept.cell (h : Kept K w w') {p : Addr} {u : Value} (hc : w.cell? p = some u) (hk : K p.block) : w'.cell? p = some u :=
  (World.cell?_of_block (w := w) (h.block p.block (World.block_lt_of_cell? w p hc) hk)).trans hc
theorem Kept.heap (h : Kept K w w') {i : Nat} {o : Obj} (hc : w.heap[i]? = some o) (hk : K i) : w'.heap[i]? = some o :=
  (h.block i (Array.getElem?_eq_some_iff.1 hc).1 hk).trans hc

theorem RdI.kept {k : IntKind} {F : Nat → Prop} {v : Value} {l : List Int} (h : RdI k w F v l) (hk : Kept K w w') (hF : ∀ i, i < w.heap.size → F i → K i) : RdI k w' F v l := by
  obtain ⟨A, c, hv, h1, h2, h3⟩ := h
  refine ⟨A, c, hv, h1, h2, fun h0 => ?_⟩
  obtain ⟨b, o, hA, hb, hc⟩ := h3 h0
  refine ⟨b, o, hA, hb, fun i hi => hk.cell (hc i hi) (hF b ?_ hb)⟩
  exact World.block_lt_of_cell? w ⟨b, o + 0, none⟩ (hc 0 h0)
theorem RdI.ext {k : IntKind} {F : Nat → Prop} {v : Value} {l : List Int} (h : RdI k w F v l) (hk : Ext w w') : RdI k w' F v l := h.kept hk fun _ _ _ => trivial
theorem RdI.mono {k : IntKind} {F F' : Nat → Prop} {v : Value} {l : List Int} (h : RdI k w F v l) (hF : ∀ i, i < w.heap.size → F i → F' i) : RdI k w F' v l := by
  obtain ⟨A, c, hv, h1, h2, h3⟩ := h
  refine ⟨A, c, hv, h1, h2, fun h0 => ?_⟩
  obtain ⟨b, o, hA, hb, hc⟩ := h3 h0
  exact ⟨b, o, hA, hF b (World.block_lt_of_cell? w ⟨b, o + 0, none⟩ (hc 0 h0)) hb, hc⟩
end

/-- A block that is just these cells, none of them frozen. -/
def Blk (w : World) (g : Nat) (t : TypeId) (cs : Array Value) : Prop := w.heap[g]? = some (.cells cs t (0, 0))
section
variable {w w' : World} {g : Nat} {t : TypeId} {cs : Array Value}
theorem Blk.lt (h : Blk w g t cs) : g < w.heap.size := (Array.getElem?_eq_some_iff.1 h).1
theorem Blk.cell (h : Blk w g t cs) (i : Nat) : w.cell? ⟨g, i, none⟩ = cs[i]? := cell_of_row w g i cs t (0, 0) h
theorem Blk.frozen (h : Blk w g t cs) (i : Nat) : w.frozen? ⟨g, i, none⟩ = false := by
  unfold Blk at h
  simp [World.frozen?, h]
theorem Blk.new (w : World) (t : TypeId) (cs : Array Value) : Blk (w.alloc (.cells cs t)) w.heap.size t cs := heap_alloc_new w _
theorem Blk.drew (h : Blk w g t cs) : Blk w.drew g t cs := h
theorem Blk.drewN (h : Blk w g t cs) (n : Nat) : Blk (w.drewN n) g t cs := h
theorem Blk.alloc (h : Blk w g t cs) (o : Obj) : Blk (w.alloc o) g t cs := (Below.heap_alloc w o g h.lt).trans h
theorem Blk.set_ (h : Blk w g t cs) (i : Nat) (u : Value) : Blk (w.setCell ⟨g, i, none⟩ u) g t (cs.setIfInBounds i u) := by
  unfold Blk at h ⊢
  simp [World.setCell, Array.getElem?_modify, h]
theorem Blk.far (h : Blk w g t cs) {p : Addr} (hp : g ≠ p.block) (u : Value) : Blk (w.setCell p u) g t cs := (Below.heap_setCell w p u g hp).trans h
theorem Blk.kept {K : Nat → Prop} (h : Blk w g t cs) (hk : Kept K w w') (hg : K g) : Blk w' g t cs := (hk.block g h.lt hg).trans h
theorem Blk.grown {row : Option Nat} (h : Blk w g t cs) (hb : w.grownBy w' row) (hg : some g ≠ row) : Blk w' g t cs := (hb.block g h.lt hg).trans h
end

/-- A reader: its bytes, its place, its fault. -/
structure RS where
  l : List Int
  at_ : Int
  code : Int
  fat : Int
def Rdr (B : Nat → Prop) (w : World) (g : Nat) (s : RS) : Prop :=
  ∃ v, Blk w g 137 #[v, .int .i64 s.at_, .int .i64 s.code, .int .i64 s.fat] ∧ RdI .u8 w (fun i => i ≠ g ∧ B i) v s.l ∧ Bys s.l ∧ 0 ≤ s.at_ ∧ s.at_ ≤ s.l.length ∧ s.l.length ≤ 140737488355328
abbrev ptr (g : Nat) : Value := .pointer (some ⟨g, 0, none⟩)
theorem Rdr.kept {B K : Nat → Prop} {w w' : World} {g : Nat} {s : RS} (h : Rdr B w g s) (hk : Kept K w w') (hg : K g) (hK : ∀ i, i < w.heap.size → i ≠ g → B i → K i) : Rdr B w' g s := by
  obtain ⟨v, hb, hr, h1, h2, h3, h4⟩ := h
  exact ⟨v, hb.kept hk hg, hr.kept hk (fun i hi h => hK i hi h.1 h.2), h1, h2, h3, h4⟩
theorem Rdr.ext {B : Nat → Prop} {w w' : World} {g : Nat} {s : RS} (h : Rdr B w g s) (hk : Ext w w') : Rdr B w' g s := h.kept hk trivial fun _ _ _ _ => trivial
theorem Rdr.drewN {B : Nat → Prop} {w : World} {g : Nat} {s : RS} (h : Rdr B w g s) (n : Nat) : Rdr B (w.drewN n) g s := h
end Go.Proofs.Ytgphhganepjaiaa
