/-
  Words for all proofs, over any program: how a law's row follows from a walk that returns true and leaves what was there; how arguments are opened; what a slice reads as.
-/
import Derived.ProofKit
import Derived.OpenShut
import Derived.Lib.Hide
import Derived.WalkKit
import Derived.WalkSpells
import Derived.WalkLawsBesides
set_option linter.all false
set_option linter.unusedSimpArgs false
set_option linter.unusedVariables false
set_option linter.unnecessarySimpa false
namespace Go.Proofs.Ytkhnfleejgfhgaa
open Go.RowKit Go.ChangeShapes Go.WideShapes Go.ChangeAt

theorem ret_bool {a b : Bool} (h : a = b) : Ending.returned (.bool a) = .returned (.bool b) := by rw [h]
theorem ret_int {k : IntKind} {a b : Int} (h : a = b) : Ending.returned (.int k a) = .returned (.int k b) := by rw [h]

theorem below_drewN {B : Nat} {a w : World} (h : Below B a w) (n : Nat) : Below B a (w.drewN n) := ⟨h.os, h.tape, h.output, h.size, h.block⟩

theorem take_snoc (l : List Int) (k : Nat) (h : k < l.length) : l.take (k + 1) = l.take k ++ [l.getD k 0] := by
  rw [List.take_succ_eq_append_getElem h]; simp [h]
theorem getD_mem (l : List Int) (k : Nat) (h : k < l.length) : l.getD k 0 ∈ l := by
  simp [h]

/-- A slice value that reads as integers of one kind, its cells in a block that F lets. -/
def RdI (k : IntKind) (w : World) (F : Nat → Prop) (v : Value) (l : List Int) : Prop :=
  ∃ A c, v = .slice A l.length c ∧ l.length ≤ c ∧ c ≤ maxLen ∧
    (0 < l.length → ∃ b o, A = some ⟨b, o, none⟩ ∧ F b ∧ ∀ i, i < l.length → w.cell? ⟨b, o + i, none⟩ = some (.int k (l.getD i 0)))
def U64s (l : List Int) : Prop := ∀ x ∈ l, 0 ≤ x ∧ x < 18446744073709551616
def Bys (l : List Int) : Prop := ∀ x ∈ l, 0 ≤ x ∧ x < 256

section
variable {H : Type} {enc : TypeId × Value → H} {P : Program}
/-- What was read before reads so behind a call that leaves the old blocks. -/
theorem all_stays (hlaid : laidOutB P = true) {W W' : World} (hb : Below W.heap.size W W') : ∀ (ts : List TypeId) (vs : List Value) (ds : List (DataW H)) (ps : List MemPlace),
    ts.all (fun t => P.readableRec t && decide (t < P.types.size)) = true →
    DataW.TrodAll enc P W 0 (fun _ => true) true ts vs ds ps → (∀ x ∈ ps, x.block < W.heap.size) →
    DataW.TrodAll enc P W' 0 (fun b => decide (b < W.heap.size)) true ts vs ds ps := by
  intro ts
  induction ts with
  | nil => intro vs ds ps _ h _; cases vs <;> cases ds <;> first | exact h | exact h.elim
  | cons t ts ih =>
    intro vs ds ps hr h hlt
    obtain ⟨v, vs', d, ds', p, q, rfl, rfl, rfl, h0, h1⟩ := trodAll_cons h
    simp only [List.all_cons, Bool.and_eq_true, decide_eq_true_eq] at hr
    exact ⟨p, q, Below.trod hlaid hr.1.1 hr.1.2 h0 hb (fun x hx => hlt x (List.mem_append_left _ hx)),
      ih vs' ds' q hr.2 h1 (fun x hx => hlt x (List.mem_append_right _ hx)), rfl⟩

/-- The law's row: it returned true, and what was there is as it was. -/
theorem law_post (hlaid : laidOutB P = true) {fn : Func} {s : ChangeSpec} {W W' : World} {args : Array Value} {ds gs : List (DataW H)} {before : List MemPlace}
    (hW : DataW.Whole enc P fn.params.toList s.vars false W args.toList ds gs before) (hv : s.vars = [])
    (hr : fn.params.toList.all (fun t => P.readableRec t && decide (t < P.types.size)) = true)
    (tb : TypeId) (ht : P.underlying tb = some .bool) (hres : fn.resultTypes = #[tb])
    (hfn : s.fn H (ds ++ gs) = { results := [.lit (.bool true)], args := ds }) (hb : Below W.heap.size W W') :
    s.post enc P fn false true false false W args (.bool true) W' := by
  have hW0 := hW
  obtain ⟨p, q, hA, hV, rfl, hfz, hnd⟩ := hW0
  rw [hv] at hV
  obtain ⟨rfl, rfl⟩ := trodVars_none hV
  refine ⟨ds, [], p ++ [], [], p, [], hW, ?_, ?_, ?_, hb.frame _, fun h => by cases h⟩
  · rw [hfn, hres]; exact trodAll_mk1 (shut_bool ht _)
  · rw [hfn]; exact all_stays hlaid hb _ _ _ _ hr hA (fun x hx => by simpa using hW.lt x (List.mem_append_left _ hx))
  · rw [hfn, hv]; rfl

/-- An argument that is an array of two integers. -/
theorem open_arr2 {W : World} {r : Reach} {b0 base : Nat} {spare : Nat → Bool} {held : Bool} {t e : TypeId} {k : IntKind} {v : Value} {d : DataW H} {ps : List MemPlace}
    (ht : P.underlying t = some (.array 2 e)) (he : P.underlying e = some (.int k)) (hc : P.cellsOf t = 2) (hc1 : P.cellsOf e = 1)
    (hval : Value.okWide P W r b0 t v) (hd : DataW.Trod enc P W base spare held t v d ps) :
    ∃ x y, v = .agg #[.int k x, .int k y] ∧ d = .agg [.lit (.int k x), .lit (.int k y)] ∧ ps = [] ∧ (Lit.int k x).wf = true ∧ (Lit.int k y).wf = true := by
  unfold Value.okWide at hval
  rw [ht] at hval
  obtain ⟨cs, rfl, hsz, _⟩ := hval
  obtain ⟨l⟩ := cs
  rw [hc] at hsz
  match l, hsz with
  | [c0, c1], _ =>
    obtain ⟨fuel, hf⟩ := hd
    obtain ⟨xs, m, _, hx, _, hlen, hg⟩ := DataW.trod_array ht hf
    match xs, hlen with
    | [y0, y1], _ =>
      simp only [Prod.mk.injEq] at hx
      have g0 := hg 0 (by omega)
      have g1 := hg 1 (by omega)
      simp [hc1, Value.cells] at g0 g1
      obtain ⟨a, ea, hxa, wa⟩ := DataW.trod_int he g0
      obtain ⟨b, eb, hxb, wb⟩ := DataW.trod_int he g1
      simp at ea eb
      subst ea eb hxa hxb
      exact ⟨a, b, rfl, by simpa using hx.1, by simpa using hx.2, wa, wb⟩
theorem u64_wf {x : Int} (h : (Lit.int .u64 x).wf = true) : 0 ≤ x ∧ x < 18446744073709551616 := by
  simp [Lit.wf, IntKind.min, IntKind.max, IntKind.signed, IntKind.bits] at h
  omega
theorem i64_wf {x : Int} (h : (Lit.int .i64 x).wf = true) : -9223372036854775808 ≤ x ∧ x < 9223372036854775808 := by
  simp [Lit.wf, IntKind.min, IntKind.max, IntKind.signed, IntKind.bits] at h
  omega
theorem u8_wf {x : Int} (h : (Lit.int .u8 x).wf = true) : 0 ≤ x ∧ x < 256 := by
  simp [Lit.wf, IntKind.min, IntKind.max, IntKind.signed, IntKind.bits] at h
  omega
theorem u64s_wf {l : List Int} (h : ∀ n ∈ l, (Lit.int .u64 n).wf = true) : U64s l := fun x hx => u64_wf (h x hx)
theorem bys_wf {l : List Int} (h : ∀ n ∈ l, (Lit.int .u8 n).wf = true) : Bys l := fun x hx => u8_wf (h x hx)
theorem add_off {a : Addr} {n : Nat} {w : World} {u : Value} (h : w.cell? (a.add n) = some u) (h0 : a.spot = none) : w.cell? ⟨a.block, a.off + n, none⟩ = some u := by
  cases n with
  | zero => simpa [Addr.add, ← h0] using h
  | succ n => simpa [Addr.add] using h
theorem spot_none {a : Addr} {w : World} {u : Value} (h : w.cell? a = some u) : a.spot = none := by
  unfold World.cell? at h
  split at h
  · split at h
    · cases h
    · rename_i hs; cases hsp : a.spot with
      | none => rfl
      | some _ => rw [hsp] at hs; simp at hs
  · cases h
/-- An argument that is a slice of integers. -/
theorem open_sl {W : World} {r : Reach} {b0 : Nat} {t e : TypeId} {k : IntKind} {v : Value} {d : DataW H} {ps : List MemPlace}
    (ht : P.underlying t = some (.slice e)) (he : P.underlying e = some (.int k)) (hc : P.cellsOf e = 1)
    (hval : Value.okWide P W r b0 t v) (hd : DataW.Trod enc P W 0 (fun _ => true) true t v d ps) :
    ∃ l : List Int, RdI k W (· < W.heap.size) v l ∧ (∀ n ∈ l, (Lit.int k n).wf = true) := by
  obtain ⟨a0, len, cap, rfl⟩ := okWide_slice ht hval
  obtain ⟨fuel, hf⟩ := hd
  rcases open_ints ht he hc hf with ⟨hcs, hx⟩ | ⟨a, len', cap', zs, hcs, _, hl, hm, hz, hx, hcell, hwz⟩
  · simp [Value.cells] at hcs
    obtain ⟨rfl, rfl, rfl⟩ := hcs
    exact ⟨[], ⟨none, 0, rfl, Nat.le_refl _, Nat.zero_le _, fun h => by simp at h⟩, fun n hn => by simp at hn⟩
  · simp [Value.cells] at hcs
    obtain ⟨rfl, rfl, rfl⟩ := hcs
    simp only [if_true] at hz
    have hlen : (zs.take len).length = len := by simp; omega
    refine ⟨zs.take len, ⟨some a, cap, by rw [hlen], by rw [hlen]; exact hl, hm, fun h0 => ?_⟩, fun n hn => hwz n (List.mem_of_mem_take hn)⟩
    rw [hlen] at h0
    have h00 := hcell 0 (by omega)
    have hs : a.spot = none := by have := spot_none h00; simpa [Addr.add] using this
    refine ⟨a.block, a.off, by cases a; simp_all, World.block_lt_of_cell? W ⟨a.block, a.off, none⟩ (by have := add_off h00 hs; simpa using this), fun i hi => ?_⟩
    rw [hlen] at hi
    have e : (zs.take len).getD i 0 = zs.getD i 0 := by simp [List.getElem?_take, hi]
    rw [e]
    exact add_off (hcell i (by omega)) hs
end
end Go.Proofs.Ytkhnfleejgfhgaa
