/-
  What a call leaves as it was (Kept), over any program.
-/
import Derived.WalkKit
import Derived.WalkSpells
import Derived.WalkLawsBesides
import Derived.ProofKit
import Derived.OpenShut
namespace Go.Proofs.Ytgphhganepjaiaa
open Go.RowKit

/-- The blocks that K names are as they were, the others may have turned, new ones may be there. -/
structure Kept (K : Nat → Prop) (w w' : World) : Prop where
  os : w'.os = w.os
  tape : w'.tape = w.tape
  output : w'.output = w.output
  size : w.heap.size ≤ w'.heap.size
  block : ∀ i, i < w.heap.size → K i → w'.heap[i]? = w.heap[i]?
/-- All that was there is as it was. -/
abbrev Ext (w w' : World) : Prop := Kept (fun _ => True) w w'

section
variable {K K' : Nat → Prop} {w w' w'' : World}
theorem Kept.refl (K : Nat → Prop) (w : World) : Kept K w w := ⟨rfl, rfl, rfl, Nat.le_refl _, fun _ _ _ => rfl⟩
theorem Kept.trans (h : Kept K w w') (h' : Kept K w' w'') : Kept K w w'' :=
  ⟨h'.os.trans h.os, h'.tape.trans h.tape, h'.output.trans h.output, Nat.le_trans h.size h'.size, fun i hi hk => (h'.block i (Nat.lt_of_lt_of_le hi h.size) hk).trans (h.block i hi hk)⟩
theorem Kept.mono (h : Kept K w w') (hK : ∀ i, i < w.heap.size → K' i → K i) : Kept K' w w' := ⟨h.os, h.tape, h.output, h.size, fun i hi hk => h.block i hi (hK i hi hk)⟩
theorem Kept.any (h : Kept (fun _ => True) w w') : Kept K w w' := h.mono fun _ _ _ => trivial
theorem Kept.toBelow (h : Kept (fun _ => True) w w') : Below w.heap.size w w' := ⟨h.os, h.tape, h.output, h.size, fun i hi => h.block i hi trivial⟩
theorem Kept.lt_ext {B : Nat} (h : Kept (· < B) w w') (hB : w.heap.size = B) : Ext w w' := ⟨h.os, h.tape, h.output, h.size, fun i hi _ => h.block i hi (by omega)⟩
theorem Kept.trans_ext (h : Kept (fun _ => True) w w') (h' : Kept (· < w.heap.size) w' w'') : Kept (fun _ => True) w w'' :=
  ⟨h'.os.trans h.os, h'.tape.trans h.tape, h'.output.trans h.output, Nat.le_trans h.size h'.size, fun i hi _ => (h'.block i (Nat.lt_of_lt_of_le hi h.size) hi).trans (h.block i hi trivial)⟩
theorem Below.ext (h : Below w.heap.size w w') : Ext w w' := ⟨h.os, h.tape, h.output, h.size, fun i hi _ => h.block i hi⟩
theorem Kept.below {B : Nat} (h : Kept K w w') (hB : ∀ i, i < B → K i) (hs : B ≤ w.heap.size) : Below B w w' := ⟨h.os, h.tape, h.output, h.size, fun i hi => h.block i (by omega) (hB i hi)⟩
theorem Kept.bel {B : Nat} (h : Kept (fun _ => True) w w') (hB : B ≤ w.heap.size) : Below B w w' := h.below (fun _ _ => trivial) hB
theorem Kept.alloc (h : Kept K w w') (o : Obj) : Kept K w (w'.alloc o) :=
  ⟨h.os, h.tape, h.output, Nat.le_trans h.size (by simp), fun i hi hk => (Below.heap_alloc w' o i (Nat.lt_of_lt_of_le hi h.size)).trans (h.block i hi hk)⟩
theorem Kept.drew (h : Kept K w w') : Kept K w w'.drew := ⟨h.os, h.tape, h.output, h.size, h.block⟩
theorem Kept.drewN (h : Kept K w w') (n : Nat) : Kept K w (w'.drewN n) := ⟨h.os, h.tape, h.output, h.size, h.block⟩
theorem Kept.setCell (h : Kept K w w') {p : Addr} (hp : p.block < w.heap.size → ¬ K p.block) (u : Value) : Kept K w (w'.setCell p u) :=
  ⟨h.os, h.tape, h.output, by simpa [World.setCell] using h.size, fun i hi hk => (Below.heap_setCell w' p u i (by rintro rfl; exact hp hi hk)).trans (h.block i hi hk)⟩
theorem Kept.grown (h : Kept K w w') {row : Option Nat} (hg : w'.grownBy w'' row) (hr : ∀ k, row = some k → k < w.heap.size → ¬ K k) : Kept K w w'' :=
  ⟨hg.os.trans h.os, hg.tape.trans h.tape, hg.output.trans h.output, Nat.le_trans h.size hg.size, fun i hi hk => (hg.block i (Nat.lt_of_lt_of_le hi h.size) (fun e => hr i e.symm hi hk)).trans (h.block i hi hk)⟩
theorem Kept.cell (h : Kept K w w') {p : Addr} {u : Value} (hc : w.cell? p = some u) (hk : K p.block) : w'.cell? p = some u :=
  (World.cell?_of_block (w := w) (h.block p.block (World.block_lt_of_cell? w p hc) hk)).trans hc
theorem Kept.heap (h : Kept K w w') {i : Nat} {o : Obj} (hc : w.heap[i]? = some o) (hk : K i) : w'.heap[i]? = some o :=
  (h.block i (Array.getElem?_eq_some_iff.1 hc).1 hk).trans hc
end
end Go.Proofs.Ytgphhganepjaiaa
