/-
  Slices of integers that are cut, appended to, read: laws over any program, whatever the address.
-/
import Derived.Test.YtgphhganepjaiaaMem
import Derived.Maps.AppendAt
import Derived.Deep.AppendLies
import Derived.RegionTactic
import Derived.ScopeJumps
namespace Go.Proofs.Ytgphhganepjaiaa
open Go.RowKit

section
variable {P : Program}
theorem elem_of {t e : TypeId} (ht : P.underlying t = some (.slice e)) : P.elem t = e := by
  unfold Program.elem; rw [ht]
theorem run_sizeOf {e : TypeId} {i : TypeInfo} (hi : P.info? e = some i) (w : World) : (sizeOf e).run P w = .ok i.size w := by
  simp [sizeOf, typeInfo, hi]

/-- A part of what a slice reads as. -/
theorem RdI.part {k : IntKind} {w : World} {F : Nat → Prop} {A : Option Addr} {n c : Nat} {l : List Int} (h : RdI k w F (.slice A n c) l) (lo hi m : Nat) (h1 : lo ≤ hi) (h2 : hi ≤ l.length) (h3 : hi ≤ m) (h4 : m ≤ c) :
    RdI k w F (.slice (if m = lo then A else A.map (·.add (lo * 1))) (hi - lo) (m - lo)) ((l.drop lo).take (hi - lo)) := by
  obtain ⟨A', c', hv, k1, k2, k3⟩ := h
  injection hv with hA hn hc
  subst hA hc
  have hlen : ((l.drop lo).take (hi - lo)).length = hi - lo := by simp; omega
  refine ⟨_, _, by rw [hlen], by rw [hlen]; omega, by omega, fun h0 => ?_⟩
  rw [hlen] at h0
  obtain ⟨b, o, rfl, hF, hcell⟩ := k3 (by omega)
  rw [if_neg (by omega)]
  refine ⟨b, o + lo, ?_, hF, fun i hi' => ?_⟩
  · simp only [Option.map_some, Nat.mul_one, Option.some.injEq]
    unfold Addr.add
    split
    · rename_i h00; rw [h00]; rfl
    · rfl
  · rw [hlen] at hi'
    have := hcell (lo + i) (by omega)
    rw [show o + lo + i = o + (lo + i) from by omega, this]
    congr 2
    simp [List.getElem?_take, hi']

theorem sliceAt_lh {t e : TypeId} {i : TypeInfo} (ht : P.underlying t = some (.slice e)) (hi : P.info? e = some i) (hs : i.size = 1)
    {k : IntKind} {w0 : World} {F : Nat → Prop} {A : Option Addr} {n c : Nat} {l : List Int} (h : RdI k w0 F (.slice A n c) l) (lo hi' : Int) (h0 : 0 ≤ lo) (h1 : lo ≤ hi') (h2 : hi' ≤ l.length) :
    ∃ v', ((∀ w : World, (Instr.sliceAt t (.slice A n c) (some (.int .i64 lo)) (some (.int .i64 hi')) none).run P w = .ok v' w) ∧ ∀ w : World, (Instr.slice t (.slice A n c) (some (.int .i64 lo)) (some (.int .i64 hi')) none).run P w = .ok v' w) ∧ RdI k w0 F v' ((l.drop lo.toNat).take (hi' - lo).toNat) := by
  have hc : l.length ≤ c := by
    obtain ⟨A', c', hv, k1, k2, k3⟩ := h
    injection hv with hA hn hc
    omega
  have := h.part lo.toNat hi'.toNat c (by omega) (by omega) (by omega) (Nat.le_refl _)
  have hte := ht
  rw [← elem_of ht] at hte
  have key : ∀ w : World, (Instr.slice t (.slice A n c) (some (.int .i64 lo)) (some (.int .i64 hi')) none).run P w = .ok _ w := fun w => by
    rw [run_slice_lh w t A n c hte .i64 .i64 lo hi' h0 h1 (by omega), elem_of ht, run_sizeOf hi, hs]; simp only [Result.andThen, sliced]; rfl
  refine ⟨_, ⟨fun w => by rw [run_sliceAt_slice w t _ _ _ _ hte]; exact key w, key⟩, ?_⟩
  have ee : hi'.toNat - lo.toNat = (hi' - lo).toNat := by omega
  rw [← ee]; exact this
theorem sliceAt_h {t e : TypeId} {i : TypeInfo} (ht : P.underlying t = some (.slice e)) (hi : P.info? e = some i) (hs : i.size = 1)
    {k : IntKind} {w0 : World} {F : Nat → Prop} {A : Option Addr} {n c : Nat} {l : List Int} (h : RdI k w0 F (.slice A n c) l) (hi' : Int) (h0 : 0 ≤ hi') (h2 : hi' ≤ l.length) :
    ∃ v', ((∀ w : World, (Instr.sliceAt t (.slice A n c) none (some (.int .i64 hi')) none).run P w = .ok v' w) ∧ ∀ w : World, (Instr.slice t (.slice A n c) none (some (.int .i64 hi')) none).run P w = .ok v' w) ∧ RdI k w0 F v' (l.take hi'.toNat) := by
  have hc : l.length ≤ c := by
    obtain ⟨A', c', hv, k1, k2, k3⟩ := h
    injection hv with hA hn hc
    omega
  have := h.part 0 hi'.toNat c (by omega) (by omega) (by omega) (Nat.le_refl _)
  simp only [List.drop_zero] at this
  have hte := ht
  rw [← elem_of ht] at hte
  have key : ∀ w : World, (Instr.slice t (.slice A n c) none (some (.int .i64 hi')) none).run P w = .ok _ w := fun w => by
    rw [run_slice_h w t A n c hte .i64 hi' h0 (by omega), elem_of ht, run_sizeOf hi, hs]; simp only [Result.andThen, sliced]; rfl
  refine ⟨_, ⟨fun w => by rw [run_sliceAt_slice w t _ _ _ _ hte]; exact key w, key⟩, ?_⟩
  simpa using this
theorem sliceAt_l {t e : TypeId} {i : TypeInfo} (ht : P.underlying t = some (.slice e)) (hi : P.info? e = some i) (hs : i.size = 1)
    {k : IntKind} {w0 : World} {F : Nat → Prop} {A : Option Addr} {n c : Nat} {l : List Int} (h : RdI k w0 F (.slice A n c) l) (lo : Int) (h0 : 0 ≤ lo) (h2 : lo ≤ l.length) :
    ∃ v', ((∀ w : World, (Instr.sliceAt t (.slice A n c) (some (.int .i64 lo)) none none).run P w = .ok v' w) ∧ ∀ w : World, (Instr.slice t (.slice A n c) (some (.int .i64 lo)) none none).run P w = .ok v' w) ∧ RdI k w0 F v' (l.drop lo.toNat) := by
  have hc : n = l.length ∧ l.length ≤ c := by
    obtain ⟨A', c', hv, k1, k2, k3⟩ := h
    injection hv with hA hn hc
    omega
  obtain ⟨rfl, hc⟩ := hc
  have := h.part lo.toNat l.length c (by omega) (Nat.le_refl _) hc (Nat.le_refl _)
  rw [List.take_of_length_le (by simp)] at this
  have hte := ht
  rw [← elem_of ht] at hte
  have key : ∀ w : World, (Instr.slice t (.slice A l.length c) (some (.int .i64 lo)) none none).run P w = .ok _ w := fun w => by
    rw [run_slice_l w t A l.length c hte .i64 lo h0 (by omega), elem_of ht, run_sizeOf hi, hs]; simp only [Result.andThen, sliced]; rfl
  refine ⟨_, ⟨fun w => by rw [run_sliceAt_slice w t _ _ _ _ hte]; exact key w, key⟩, ?_⟩
  exact this
theorem sliceAt_hm {t e : TypeId} {i : TypeInfo} (ht : P.underlying t = some (.slice e)) (hi : P.info? e = some i) (hs : i.size = 1)
    {k : IntKind} {w0 : World} {F : Nat → Prop} {A : Option Addr} {n c : Nat} {l : List Int} (h : RdI k w0 F (.slice A n c) l) (hi' : Int) (h0 : 0 ≤ hi') (h2 : hi' ≤ l.length) :
    ∃ v', ((∀ w : World, (Instr.sliceAt t (.slice A n c) none (some (.int .i64 hi')) (some (.int .i64 hi'))).run P w = .ok v' w) ∧ ∀ w : World, (Instr.slice t (.slice A n c) none (some (.int .i64 hi')) (some (.int .i64 hi'))).run P w = .ok v' w) ∧ RdI k w0 F v' (l.take hi'.toNat) := by
  have hc : l.length ≤ c := by
    obtain ⟨A', c', hv, k1, k2, k3⟩ := h
    injection hv with hA hn hc
    omega
  have := h.part 0 hi'.toNat hi'.toNat (by omega) (by omega) (by omega) (by omega)
  simp only [List.drop_zero] at this
  have hte := ht
  rw [← elem_of ht] at hte
  have key : ∀ w : World, (Instr.slice t (.slice A n c) none (some (.int .i64 hi')) (some (.int .i64 hi'))).run P w = .ok _ w := fun w => by
    rw [run_slice_hm w t A n c hte .i64 .i64 hi' hi' h0 (Int.le_refl _) (by omega), elem_of ht, run_sizeOf hi, hs]; simp only [Result.andThen, sliced]; rfl
  refine ⟨_, ⟨fun w => by rw [run_sliceAt_slice w t _ _ _ _ hte]; exact key w, key⟩, ?_⟩
  simpa using this
/-- A slice of integers that the call owns. -/
def OwnI (k : IntKind) (e : TypeId) (w : World) (base : Nat) (v : Value) (l : List Int) : Prop := w.ownsRow base e 1 v l.length (l.map (Value.int k))
theorem OwnI.nil (k : IntKind) (e : TypeId) (w : World) (base : Nat) : OwnI k e w base (.slice none 0 0) [] := World.ownsRow_nil _ _ _ _
theorem OwnI.rd {k : IntKind} {e : TypeId} {w : World} {base : Nat} {v : Value} {l : List Int} (h : OwnI k e w base v l) {F : Nat → Prop} (hF : ∀ b, v.ownBlock = some b → base ≤ b → b < w.heap.size → F b) : RdI k w F v l := by
  have h' := h
  rcases h.2 with ⟨rfl, h0⟩ | ⟨g, cap, cur, rfl, hb, hh, hnc, hcm, hcs, htk⟩
  · exact ⟨none, 0, by rw [h0], by omega, by simp [maxLen], fun h1 => by omega⟩
  · refine ⟨some ⟨g, 0, none⟩, cap, rfl, hnc, hcm, fun h0 => ⟨g, 0, rfl, hF g rfl hb (World.ownsRow.lt h g rfl).2, fun i hi => ?_⟩⟩
    have hx : (l.map (Value.int k))[i]? = some (.int k (l.getD i 0)) := by simp [hi]
    have := World.ownsRow.cells h (g := g) rfl i _ hx
    unfold Addr.add at this
    split at this
    · rename_i h00; subst h00; simpa using this
    · simpa using this
theorem OwnI.kept {k : IntKind} {e : TypeId} {w w' : World} {base : Nat} {v : Value} {l : List Int} (h : OwnI k e w base v l) {K : Nat → Prop} (hk : Kept K w w') (hK : ∀ b, v.ownBlock = some b → base ≤ b → b < w.heap.size → K b) : OwnI k e w' base v l := by
  refine ⟨h.1, ?_⟩
  rcases h.2 with h0 | ⟨g, cap, cur, rfl, hb, hh, h3⟩
  · exact .inl h0
  · exact .inr ⟨g, cap, cur, rfl, hb, hk.heap hh (hK g rfl hb (World.ownsRow.lt h g rfl).2), h3⟩
theorem OwnI.ext {k : IntKind} {e : TypeId} {w w' : World} {base : Nat} {v : Value} {l : List Int} (h : OwnI k e w base v l) (hk : Ext w w') : OwnI k e w' base v l := h.kept hk fun _ _ _ _ => trivial
theorem OwnI.base {k : IntKind} {e : TypeId} {w : World} {base base' : Nat} {v : Value} {l : List Int} (h : OwnI k e w base v l) (hb : ∀ b, v.ownBlock = some b → base' ≤ b) : OwnI k e w base' v l := by
  refine ⟨h.1, ?_⟩
  rcases h.2 with h0 | ⟨g, cap, cur, rfl, _, h3⟩
  · exact .inl h0
  · exact .inr ⟨g, cap, cur, rfl, hb g rfl, h3⟩
theorem OwnI.lower {k : IntKind} {e : TypeId} {w : World} {base base' : Nat} {v : Value} {l : List Int} (h : OwnI k e w base v l) (hb : base' ≤ base) : OwnI k e w base' v l :=
  h.base fun b e => Nat.le_trans hb (World.ownsRow.lt h b e).1

theorem OwnI.made (k : IntKind) (e : TypeId) (w : World) : OwnI k e (w.alloc (.cells #[] e)) w.heap.size (.slice (some ⟨w.heap.size, 0, none⟩) 0 0) [] :=
  World.ownsRow_made w #[] 0 (Nat.le_refl _) (by simp [maxLen]) (by simp)
theorem OwnI.drew {k : IntKind} {e : TypeId} {w : World} {base : Nat} {v : Value} {l : List Int} (h : OwnI k e w base v l) : OwnI k e w.drew base v l := h
theorem own_lt {k b : Nat} {a : Addr} {n c : Nat} (ha : a.block = b) (h : (Value.slice (some a) n c).ownBlock = some k) : k = b := by
  simp [Value.ownBlock] at h; omega
theorem OwnI.sl {k : IntKind} {e : TypeId} {w : World} {base : Nat} {v : Value} {l : List Int} (h : OwnI k e w base v l) : ∃ A c, v = .slice A l.length c := by
  obtain ⟨A, c, hv, _⟩ := h.rd (F := fun _ => True) (fun _ _ _ _ => trivial)
  exact ⟨A, c, hv⟩
theorem OwnI.form {k : IntKind} {e : TypeId} {w : World} {base : Nat} {v : Value} {l : List Int} (h : OwnI k e w base v l) (h0 : 0 < l.length) : ∃ b c, v = .slice (some ⟨b, 0, none⟩) l.length c ∧ base ≤ b ∧ b < w.heap.size := World.ownsRow.form h h0

theorem rd_one (k : IntKind) (e : TypeId) (w : World) (z : Int) : RdI k (w.alloc (.cells #[.int k z] e)) (fun _ => True) (.slice (some ⟨w.heap.size, 0, none⟩) 1 1) [z] := by
  refine ⟨_, _, rfl, by simp, by simp [maxLen], fun _ => ⟨_, 0, rfl, trivial, fun i hi => ?_⟩⟩
  have : i = 0 := by simpa using hi
  subst this
  exact (Blk.new w e #[.int k z]).cell 0
theorem OwnI.one (k : IntKind) (e : TypeId) (w : World) (z : Int) : OwnI k e (w.alloc (.cells #[.int k z] e)) w.heap.size (.slice (some ⟨w.heap.size, 0, none⟩) 1 1) [z] :=
  ⟨by simp, .inr ⟨w.heap.size, 1, #[.int k z], rfl, Nat.le_refl _, heap_alloc_new w _, by simp, by simp [maxLen], by simp, by simp⟩⟩
/-- What was there is kept by an append onto what the call owns from block B on. -/
theorem OwnI.keepB {k : IntKind} {e : TypeId} {w w' : World} {B : Nat} {v : Value} {l : List Int} (h : OwnI k e w B v l) (hg : w.grownBy w' v.ownBlock) : Kept (· < B) w w' :=
  (Kept.refl _ w).grown hg fun i hi _ hB => by have := (World.ownsRow.lt h i hi).1; omega

/-- What append leaves: the new value owns both rows; only its own block has turned, or the new value lies in a new block. -/
theorem run_append_I (w : World) (t ty e : TypeId) (i : TypeInfo) (z : Value) (bytes : Nat) (ht : P.underlying t = some (.slice e)) (hi : P.info? e = some i) (hz : i.zero = some z)
    (hs : i.size = 1) (hby : i.bytes = bytes) (hzs : z.cells.size = 1) (k : IntKind) (base : Nat) (v u : Value) (l m : List Int) (hown : OwnI k e w base v l) (F : Nat → Prop) (hr : RdI k w F u m)
    (hb : (l.length + m.length) * bytes ≤ 140737488355328) (hl : l.length + m.length ≤ maxLen) (hbase : base ≤ w.heap.size) :
    ∃ v' w', (Builtin.append_ #[t, t] ty #[v, u]).run P w = .ok v' w' ∧ OwnI k e w' base v' (l ++ m) ∧ w.grownBy w' v.ownBlock ∧ (v'.ownBlock = v.ownBlock ∨ v'.ownBlock = some w.heap.size) := by
  obtain ⟨A, c, rfl, k1, k2, k3⟩ := hr
  by_cases h0 : 0 < m.length
  · obtain ⟨b, o, rfl, _, hc⟩ := k3 h0
    obtain ⟨v', w', h1, h2, h3, _, h5⟩ := run_append_own_at (P := P) w base t ty e i z 1 bytes ht hi hz hs hby hzs (by omega) v l.length _ hown ⟨b, o, none⟩ m.length c (m.map (Value.int k)) (by simp)
      (fun j x hx => by
        have hj : j < m.length := by
          rcases Nat.lt_or_ge j m.length with h | h
          · exact h
          · rw [List.getElem?_eq_none (by simpa using h)] at hx; cases hx
        have e1 : x = .int k (m.getD j 0) := by
          simp [hj] at hx; simp [hj, hx]
        subst e1
        have := hc j hj
        unfold Addr.add
        split
        · rename_i h00; subst h00; simpa using this
        · simpa using this)
      (fun x hx => by obtain ⟨y, _, rfl⟩ := List.mem_map.1 hx; rfl) hl hb hbase
    refine ⟨v', w', h1, ?_, h3, h5⟩
    unfold OwnI
    rw [List.length_append, List.map_append]
    exact h2
  · have hm : m = [] := List.eq_nil_of_length_eq_zero (by omega)
    subst hm
    have hrun : (Builtin.append_ #[t, t] ty #[v, .slice A ([] : List Int).length c]).run P w = .ok v w := by
      rcases hown.2 with ⟨rfl, h00⟩ | ⟨g, cap, cur, rfl, _, _, hnc, _⟩
      · cases A <;> simp [Builtin.append_, run_underlying ht, sizeOf, typeInfo, hi, Builtin.lenOf, Builtin.firstCells, loadCells, loadCellsFrom]
      · cases A <;> simp [Builtin.append_, run_underlying ht, sizeOf, typeInfo, hi, Builtin.lenOf, Builtin.firstCells, hnc, storeCells, loadCells, loadCellsFrom]
    exact ⟨v, w, hrun, by simpa using hown, World.grownBy.refl w _, .inl rfl⟩

theorem wp_append_I (w : World) {o : Oper} {a : Act} {K : Act → World → Prop} {Q : Exit → Act → World → Prop} (s x : Operand) (t : TypeId)
    (ho : o.op = .call { callee := .builtin .append, args := #[s, x], argTypes := #[t, t] })
    (e : TypeId) (i : TypeInfo) (z : Value) (bytes : Nat) (ht : P.underlying t = some (.slice e)) (hi : P.info? e = some i) (hz : i.zero = some z)
    (hs : i.size = 1) (hby : i.bytes = bytes) (hzs : z.cells.size = 1) (k : IntKind) (base : Nat) (v u : Value) (l m : List Int) (hv : a.eval s = v) (hu : a.eval x = u) (hown : OwnI k e w base v l) (F : Nat → Prop) (hr : RdI k w F u m)
    (hb : (l.length + m.length) * bytes ≤ 140737488355328) (hl : l.length + m.length ≤ maxLen) (hbase : base ≤ w.heap.size)
    (h : ∀ v' w', OwnI k e w' base v' (l ++ m) → w.grownBy w' v.ownBlock → (v'.ownBlock = v.ownBlock ∨ v'.ownBlock = some w.heap.size) → K (a.put o.dst v') w') : o.wp P a w K Q := by
  obtain ⟨v', w', hrun, h2, h3, h4⟩ := run_append_I (P := P) w t o.type e i z bytes ht hi hz hs hby hzs k base v u l m hown F hr hb hl hbase
  unfold Oper.wp execOp
  simp only [ho, resolve, invoke, builtin, Sem.run_bind, Sem.run_pure, Result.andThen_ok, List.map_toArray, List.map_cons, List.map_nil, hv, hu, hrun]
  exact h v' w' h2 h3 h4
theorem wpList_append_I (w : World) {ops : Array Oper} {rest : List Oper} {o : Oper} {a : Act} {Q : Exit → Act → World → Prop} (hgd : o.guard = none) (s x : Operand) (t : TypeId)
    (ho : o.op = .call { callee := .builtin .append, args := #[s, x], argTypes := #[t, t] })
    (e : TypeId) (i : TypeInfo) (z : Value) (bytes : Nat) (ht : P.underlying t = some (.slice e)) (hi : P.info? e = some i) (hz : i.zero = some z)
    (hs : i.size = 1) (hby : i.bytes = bytes) (hzs : z.cells.size = 1) (k : IntKind) (base : Nat) (v u : Value) (l m : List Int) (hv : a.eval s = v) (hu : a.eval x = u) (hown : OwnI k e w base v l) (F : Nat → Prop) (hr : RdI k w F u m)
    (hb : (l.length + m.length) * bytes ≤ 140737488355328) (hl : l.length + m.length ≤ maxLen) (hbase : base ≤ w.heap.size)
    (h : ∀ v' w', OwnI k e w' base v' (l ++ m) → w.grownBy w' v.ownBlock → (v'.ownBlock = v.ownBlock ∨ v'.ownBlock = some w.heap.size) → wpList P ops Q rest (a.put o.dst v') w') : wpList P ops Q (o :: rest) a w :=
  wpList_plain hgd fun _ hK => wp_append_I w s x t ho e i z bytes ht hi hz hs hby hzs k base v u l m hv hu hown F hr hb hl hbase fun v' w' h2 h3 h4 => hK _ _ (h v' w' h2 h3 h4)
theorem step_append_I (w : World) {ops : Array Oper} {o : Oper} {a : Act} {K : Act → World → Prop} {Q : Exit → Act → World → Prop} {E : Prop} (hgd : o.guard = none) (s x : Operand) (t : TypeId)
    (ho : o.op = .call { callee := .builtin .append, args := #[s, x], argTypes := #[t, t] })
    (e : TypeId) (i : TypeInfo) (z : Value) (bytes : Nat) (ht : P.underlying t = some (.slice e)) (hi : P.info? e = some i) (hz : i.zero = some z)
    (hs : i.size = 1) (hby : i.bytes = bytes) (hzs : z.cells.size = 1) (k : IntKind) (base : Nat) (v u : Value) (l m : List Int) (hv : a.eval s = v) (hu : a.eval x = u) (hown : OwnI k e w base v l) (F : Nat → Prop) (hr : RdI k w F u m)
    (hb : (l.length + m.length) * bytes ≤ 140737488355328) (hl : l.length + m.length ≤ maxLen) (hbase : base ≤ w.heap.size)
    (h : ∀ v' w', OwnI k e w' base v' (l ++ m) → w.grownBy w' v.ownBlock → (v'.ownBlock = v.ownBlock ∨ v'.ownBlock = some w.heap.size) → K (a.put o.dst v') w') :
    if Region.wanted o (yielded ops a.tmps) = true then Oper.wp P o a w K Q else E := by
  have hw : Region.wanted o (yielded ops a.tmps) = true := by simp [Region.wanted, hgd]
  rw [if_pos hw]
  exact wp_append_I w s x t ho e i z bytes ht hi hz hs hby hzs k base v u l m hv hu hown F hr hb hl hbase h

/-- A scope in which the run jumps back to one label: the pass is shown once. -/
theorem wp_scope_goto {Q : Exit → Act → World → Prop} {a : Act} {w : World} {c rest : Code} (l : Nat) (J : Act → World → Prop) (μ : Act → World → Nat) (hf : findLabel c l = some (Code.seq .skip rest))
    (pass : ∀ a w, J a w → rest.wp P (Exit.jump l (fun a' w' => J a' w' ∧ μ a' w' < μ a w) Q) a w)
    (first : (∀ a w, J a w → rest.wp P (Exit.jump l J Q) a w) → c.wp P (Exit.jump l J Q) a w) : (Code.scope c).wp P Q a w :=
  wp_scope_jumps l J μ hf (first fun a w h => Code.wp_mono (fun e a' w' q => by
    cases e with
    | goto l' => exact ⟨q.1, q.2.1⟩
    | normal => exact q
    | exit _ => exact q
    | ret => exact q
    | panic _ => exact q
    | outgrown => exact q) (pass a w h)) (fun a w h => wp_seq (wp_skip (pass a w h)))
end
end Go.Proofs.Ytgphhganepjaiaa
