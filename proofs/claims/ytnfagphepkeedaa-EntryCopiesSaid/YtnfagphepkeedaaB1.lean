/-
  The operations do what is told of them: structs and arrays of integers that are compared; all of them together. Over any program. Regions over abstract values: what their operations do, one behind the other; in the text's order. Over any program. Regions over abstract values: in the text's order. Over any program. Regions over abstract values, in whatever order is drawn. Over any program. A region whose order is drawn does what the text's order does, where no two operations whose order is open touch what the other one reads. Over any program. The code of a function over abstract values; contracts out of it. Over any program.
  Contracts at a call; what is borne less exactly. Over any program. Equations by which code is reckoned over abstract values. Over any program. The beginning and the end of a function's reckoning. Over any program. Contracts that read or turn two objects. Over any program. The equations by which a function is reckoned, as one set.
  Words for all proofs, over any program: how a law's row follows from a walk that returns true and leaves what was there; how arguments are opened; what a slice reads as.
  Plain laws of numbers in seven digits a byte: how they are written and read. No program. Plain words: a reader as a value. No program. Plain laws of a reader and the next number. No program. Plain words: a writer as a value. No program. Plain laws of the next number by its bytes. No program. Plain laws of signs as numbers, and of rising lists. No program. Plain laws of reading rising lists. No program. Plain law: a rising list's own bytes are read back. No program.
  The codes of the seat's functions over abstract values, each shown to be its function's own (by program: wip/tools/codes.py).
  The codes of the seat's functions over abstract values, each shown to be its function's own (by program: wip/tools/codes.py).
  The codes of the seat's functions over abstract values, each shown to be its function's own (by program: wip/tools/codes.py).
  The codes of the seat's functions over abstract values, each shown to be its function's own (by program: wip/tools/codes.py).
  Contracts of fault's functions and of the cursor's over abstract values. Contracts of the cursor's reading functions and of varint's. Contracts of varint's reading functions. Contracts of the pen's writer. Contracts of the reference's reader (a value), and of its numbers. Contracts of the reference's number readers, and of varint.Get.
  Contracts of zigzag's numbers and lists, and of its reference's. Contracts of the functions on rising lists: zigzag.Rises, steps, RisingSize, PutRising, and the reference's Rises. Contracts of zigzag.ReadRising and of its reference. Contracts of the reference's lists: Same, Bytes; zigzag.Put and Read; live of chapter 5.
  Plain laws of things that are read one behind the other. No program. Plain laws of chapters 6 and 22: bytes with their number, lists of numbers, falling lists. No program.
-/
import Derived.Test.YtnfagphepkeedaaB0
import Derived.Laws.StructEq
import Derived.ProofKit
import Derived.OpenShut
import Derived.Lib.Hide
import Derived.WalkKit
import Derived.WalkSpells
import Derived.WalkLawsBesides
import Derived.Laws.BitsAllLaws
import Derived.Test.YtnfagphepkeedaaProg
import Derived.KernelRfl
set_option linter.all false
set_option linter.unusedSimpArgs false
set_option linter.unusedVariables false
set_option linter.unnecessarySimpa false
section
section
namespace Go.Proofs.Ytnfagphepkeedaa

section
variable {P : Program}

def eqV : List Value → List Value → Bool
  | .int _ a :: xs, .int _ b :: ys => (a == b) && eqV xs ys
  | _, _ => true
/-- Integers of the same kinds, one by one. -/
def okV (xs ys : List Value) : Prop := xs.length = ys.length ∧ ∀ (j : Nat) (u v : Value), xs[j]? = some u → ys[j]? = some v → ∃ k a b, u = .int k a ∧ v = .int k b
theorem okV.tail {u v : Value} {xs ys : List Value} (h : okV (u :: xs) (v :: ys)) : okV xs ys := ⟨by simpa using h.1, fun j a b ha hb => h.2 (j + 1) a b (by simpa using ha) (by simpa using hb)⟩
theorem okV.take {xs ys : List Value} (h : okV xs ys) (n : Nat) : okV (xs.take n) (ys.take n) := ⟨by simp [h.1], fun j a b ha hb => by
  rw [List.getElem?_take] at ha hb
  split at ha
  · rename_i hj; rw [if_pos hj] at hb; exact h.2 j a b ha hb
  · cases ha⟩
theorem okV.drop {xs ys : List Value} (h : okV xs ys) (n : Nat) : okV (xs.drop n) (ys.drop n) := ⟨by simp [h.1], fun j a b ha hb => by
  rw [List.getElem?_drop] at ha hb; exact h.2 _ a b ha hb⟩
theorem eqV_split {xs ys : List Value} (h : okV xs ys) (n : Nat) : eqV xs ys = (eqV (xs.take n) (ys.take n) && eqV (xs.drop n) (ys.drop n)) := by
  induction n generalizing xs ys with
  | zero => simp [eqV]
  | succ n ih =>
    match xs, ys, h with
    | [], [], _ => simp [eqV]
    | u :: xs, v :: ys, h =>
      obtain ⟨k, a, b, rfl, rfl⟩ := h.2 0 u v rfl rfl
      simp only [List.take_succ_cons, List.drop_succ_cons, eqV]
      rw [ih h.tail, Bool.and_assoc]
    | [], _ :: _, h => exact absurd h.1 (by simp)
    | _ :: _, [], h => exact absurd h.1 (by simp)

/-- A value of a type made of integers, of its cells. -/
def aggV (a : Option Nat) (vs : Array Value) : Value := match a with
  | none => vs.getD 0 undef
  | some _ => .agg vs

theorem run_part_flat {t : TypeId} {a : Option Nat} {s : Nat} (ha : aggO P t = some a) (hs : szO P t = some s) (h1 : a = none → s = 1) (vs : Array Value) (off : Nat) (hle : off + s ≤ vs.size) (w : World) :
    (part t vs off).run P w = .ok (aggV a (vs.extract off (off + s))) w := by
  cases a with
  | none =>
    have := h1 rfl
    subst this
    have hv : vs[off]? = some vs[off] := Array.getElem?_eq_getElem (by omega)
    simp [part, run_isAgg_no ha, hv, aggV, show 0 < min (off + 1) vs.size - off by omega]
  | some n =>
    simp [part, run_isAgg_yes ha, run_sizeO hs, aggV]

theorem run_equal_flat : ∀ (d : Nat) (t : TypeId) (n : Nat) (a : Option Nat), flatI P d t = some n → aggO P t = some a → (a = none → n = 1) → ∀ (D : Nat) (xs ys : Array Value), d ≤ D → xs.size = n → ys.size = n → okV xs.toList ys.toList → ∀ w : World,
    (Op.equalIn D t (aggV a xs) (aggV a ys)).run P w = .ok (eqV xs.toList ys.toList) w := by
  intro d
  induction d with
  | zero => intro t n a h; simp [flatI] at h
  | succ d ih =>
    intro t n a h ha h1 D xs ys hD hx hy hok w
    obtain ⟨D, rfl⟩ : ∃ D', D = D' + 1 := ⟨D - 1, by omega⟩
    simp only [flatI] at h
    cases hu : P.underlying t with
    | none => simp [hu] at h
    | some ds =>
      rw [hu] at h
      cases ds with
      | int k =>
        have han : a = none := by simpa [aggO, hu] using ha.symm
        subst han
        have hn := h1 rfl
        subst hn
        obtain ⟨xl⟩ := xs
        obtain ⟨yl⟩ := ys
        match xl, yl, hx, hy with
        | [u], [v], _, _ =>
          obtain ⟨k', p, q, rfl, rfl⟩ := hok.2 0 u v rfl rfl
          have := run_equalIn_int (P := P) w D t k' k p q hu
          simpa [aggV, eqV] using this
      | struct fs =>
        simp only at h
        split at h
        · cases h
        · rename_i hst
          have hagg : ∃ m, a = some m := by
            cases a with
            | none => obtain ⟨d', hd', hq, _⟩ := aggO_none ha; rw [hu] at hd'; injection hd' with e; exact (hq _ e.symm).elim
            | some m => exact ⟨m, rfl⟩
          obtain ⟨m, rfl⟩ := hagg
          simp only [aggV]
          have hfo : P.fieldsOf t = fs := by simp [Program.fieldsOf, hu]
          rw [run_equalIn_struct (P := P) w D t xs ys (by rw [hfo]; exact hu) (by simpa using hst), hfo]
          have key : ∀ (l : List Field) (off : Nat), off ≤ n → l.foldl (fun acc f => acc.bind fun off => match flatI P d f.type, aggO P f.type with
              | some s, some a => if f.name ≠ "_" ∧ f.offset = off ∧ szO P f.type = some s ∧ (a = none → s = 1) then some (off + s) else none
              | _, _ => none) (some off) = some n → (Op.eqFields D xs ys l).run P w = .ok (eqV (xs.toList.drop off) (ys.toList.drop off)) w := by
            intro l
            induction l with
            | nil =>
              intro off hoff hl
              simp at hl; subst hl
              rw [List.drop_eq_nil_of_le (by simp; omega), List.drop_eq_nil_of_le (by simp; omega)]
              simp [Op.eqFields, eqV]
            | cons f l ihl =>
              intro off hoff hl
              have hnone : ∀ l : List Field, l.foldl (fun acc f => acc.bind fun off => match flatI P d f.type, aggO P f.type with
                | some s, some a => if f.name ≠ "_" ∧ f.offset = off ∧ szO P f.type = some s ∧ (a = none → s = 1) then some (off + s) else none
                | _, _ => none) none = (none : Option Nat) := by
                intro l; induction l with
                | nil => rfl
                | cons g l ih => simpa using ih
              have hmono : ∀ (l : List Field) (o : Nat), l.foldl (fun acc f => acc.bind fun off => match flatI P d f.type, aggO P f.type with
                | some s, some a => if f.name ≠ "_" ∧ f.offset = off ∧ szO P f.type = some s ∧ (a = none → s = 1) then some (off + s) else none
                | _, _ => none) (some o) = some n → o ≤ n := by
                intro l; induction l with
                | nil => intro o ho; simp at ho; omega
                | cons g l ih =>
                  intro o ho
                  simp only [List.foldl_cons, Option.bind_some] at ho
                  split at ho
                  · split at ho
                    · have := ih _ ho; omega
                    · rw [hnone] at ho; cases ho
                  · rw [hnone] at ho; cases ho
              simp only [List.foldl_cons, Option.bind_some] at hl
              split at hl
              · rename_i s a' hs' ha'
                split at hl
                · rename_i hc
                  obtain ⟨hname, hfoff, hsz, h1'⟩ := hc
                  have hle := hmono _ _ hl
                  subst hfoff
                  have e1 := run_part_flat ha' hsz h1' xs f.offset (by omega) w
                  have e2 := run_part_flat ha' hsz h1' ys f.offset (by omega) w
                  have hokp : okV (xs.extract f.offset (f.offset + s)).toList (ys.extract f.offset (f.offset + s)).toList := by
                    simp only [Array.toList_extract, List.extract_eq_take_drop]
                    exact (hok.drop _).take _
                  have e3 := ih f.type s a' hs' ha' h1' D _ _ (by omega) (by simp; omega) (by simp; omega) hokp w
                  have e4 := ihl _ hle hl
                  simp only [Op.eqFields]
                  rw [if_pos hname]
                  simp only [Sem.run_bind, e1, e2, e3, Result.andThen_ok]
                  have hsp := eqV_split (hok.drop f.offset) s
                  simp only [Array.toList_extract, List.extract_eq_take_drop, Nat.add_sub_cancel_left] at *
                  rw [hsp, List.drop_drop, List.drop_drop]
                  cases hb : eqV (List.take s (List.drop f.offset xs.toList)) (List.take s (List.drop f.offset ys.toList))
                  · simp
                  · simp [e4]
                · rw [hnone] at hl; cases hl
              · rw [hnone] at hl; cases hl
          have := key fs.toList 0 (Nat.zero_le _) h
          simpa using this
      | array len e =>
        simp only at h
        split at h
        · rename_i s a' hs' ha'
          split at h
          · rename_i hc
            obtain ⟨hsz, h1'⟩ := hc
            injection h with h
            have hagg : ∃ m, a = some m := by
              cases a with
              | none => obtain ⟨d', hd', _, hq⟩ := aggO_none ha; rw [hu] at hd'; injection hd' with e; exact (hq _ _ e.symm).elim
              | some m => exact ⟨m, rfl⟩
            obtain ⟨m, rfl⟩ := hagg
            simp only [aggV, Op.equalIn, Sem.run_bind, run_underlying hu, Result.andThen_ok, run_sizeO hsz]
            have step : ∀ i, i < len → (do
                let p ← part e xs (i * s)
                let q ← part e ys (i * s)
                Op.equalIn D e p q).run P w = .ok (eqV ((xs.toList.drop (i * s)).take s) ((ys.toList.drop (i * s)).take s)) w := by
              intro i hi
              have hle : i * s + s ≤ n := by
                rw [← h]; have : (i + 1) * s ≤ len * s := Nat.mul_le_mul_right _ (by omega)
                rw [Nat.add_mul] at this; omega
              have e1 := run_part_flat ha' hsz h1' xs (i * s) (by omega) w
              have e2 := run_part_flat ha' hsz h1' ys (i * s) (by omega) w
              have hokp : okV (xs.extract (i * s) (i * s + s)).toList (ys.extract (i * s) (i * s + s)).toList := by
                simp only [Array.toList_extract, List.extract_eq_take_drop]
                exact (hok.drop _).take _
              have e3 := ih e s a' hs' ha' h1' D _ _ (by omega) (by simp; omega) (by simp; omega) hokp w
              simp only [Sem.run_bind, e1, e2, e3, Result.andThen_ok]
              simp only [Array.toList_extract, List.extract_eq_take_drop, Nat.add_sub_cancel_left]
            have key : ∀ (r i : Nat), i + r = len → (forIn (List.range' i r) ((none, ()) : Option Bool × Unit) fun i _ => do
                let p ← part e xs (i * s)
                let q ← part e ys (i * s)
                let b ← Op.equalIn D e p q
                if (!b) = true then pure (ForInStep.done ((some false, ()) : Option Bool × Unit)) else pure (ForInStep.yield (none, ()))).run P w = .ok (if eqV (xs.toList.drop (i * s)) (ys.toList.drop (i * s)) then none else some false, ()) w := by
              intro r
              induction r with
              | zero =>
                intro i hi
                rw [List.drop_eq_nil_of_le (by simp; rw [hx, ← h, show i = len by omega]; exact Nat.le_refl _), List.drop_eq_nil_of_le (by simp; rw [hy, ← h, show i = len by omega]; exact Nat.le_refl _)]
                simp [eqV]
              | succ r ihr =>
                intro i hi
                have e1 := step i (by omega)
                have e2 := ihr (i + 1) (by omega)
                rw [List.range'_succ, List.forIn_cons]
                have hsp := eqV_split (hok.drop (i * s)) s
                rw [List.drop_drop, List.drop_drop, show i * s + s = (i + 1) * s by rw [Nat.add_mul]; omega] at hsp
                rw [hsp]
                simp only [Sem.run_bind] at e1 ⊢
                generalize (part e xs (i * s)).run P w = r1 at e1 ⊢
                cases r1 with
                | halt x w1 => simp [Result.andThen] at e1
                | ok p w1 =>
                  simp only [Result.andThen_ok] at e1 ⊢
                  generalize (part e ys (i * s)).run P w1 = r2 at e1 ⊢
                  cases r2 with
                  | halt x w2 => simp [Result.andThen] at e1
                  | ok q w2 =>
                    simp only [Result.andThen_ok] at e1 ⊢
                    rw [e1]
                    cases eqV ((xs.toList.drop (i * s)).take s) ((ys.toList.drop (i * s)).take s)
                    · simp
                    · simpa using e2
            have e0 := key len 0 (by omega)
            simp only [Nat.zero_mul, List.drop_zero] at e0
            rw [Std.Legacy.Range.forIn_eq_forIn_range']
            simp only [Std.Legacy.Range.size, Nat.sub_zero, Nat.add_sub_cancel, Nat.div_one]
            rw [e0]
            cases eqV xs.toList ys.toList <;> simp
          · cases h
        · cases h
      | _ => simp at h


theorem eq_lits {G : Gh} : ∀ {xs ys : List AV} {vs us : List Value}, eqOk xs ys = true → RepL G xs vs → RepL G ys us → okV vs us ∧ eqV vs us = cellsEq xs ys := by
  intro xs
  induction xs with
  | nil =>
    intro ys vs us h r1 r2
    cases ys with
    | nil =>
      have hv : vs = [] := List.eq_nil_of_length_eq_zero (by simpa using r1.1.symm)
      have hu : us = [] := List.eq_nil_of_length_eq_zero (by simpa using r2.1.symm)
      subst hv hu
      exact ⟨⟨rfl, fun j u v h => by simp at h⟩, rfl⟩
    | cons => simp [eqOk] at h
  | cons x xs ih =>
    intro ys vs us h r1 r2
    cases ys with
    | nil => cases x with
      | lit v => cases v <;> simp [eqOk] at h
      | _ => simp [eqOk] at h
    | cons y ys =>
      cases x with
      | lit v =>
        cases v with
        | int k a =>
          cases y with
          | lit v' =>
            cases v' with
            | int k' b =>
              simp only [eqOk, Bool.and_eq_true, beq_iff_eq] at h
              obtain ⟨rfl, h⟩ := h
              cases vs with
              | nil => simpa using r1.1
              | cons v vs =>
                cases us with
                | nil => simpa using r2.1
                | cons u us =>
                  have e1 := rep_lit (r1.2 0 _ v rfl rfl)
                  have e2 := rep_lit (r2.2 0 _ u rfl rfl)
                  subst e1 e2
                  obtain ⟨h1, h2⟩ := ih (ys := ys) (vs := vs) (us := us) h ⟨by simpa using r1.1, fun j x v hx hv => r1.2 (j + 1) x v (by simpa using hx) (by simpa using hv)⟩ ⟨by simpa using r2.1, fun j x v hx hv => r2.2 (j + 1) x v (by simpa using hx) (by simpa using hv)⟩
                  refine ⟨⟨by simp [h1.1], fun j p q hp hq => ?_⟩, by simp [eqV, cellsEq, h2]⟩
                  cases j with
                  | zero => simp at hp hq; exact ⟨k, a, b, hp.symm, hq.symm⟩
                  | succ j => exact h1.2 j p q (by simpa using hp) (by simpa using hq)
            | _ => simp [eqOk] at h
          | _ => simp [eqOk] at h
        | _ => simp [eqOk] at h
      | _ => simp [eqOk] at h

theorem snd_eqa {o : Oper} {ρ : Operand → AV} {S : List AObj} {K : KT} {op : BinOp} {t t' : TypeId} {x y : Operand} {neg : Bool} {n m : Nat} (hop : o.op = .binOp op t x y t') (ha : aggO P t = some (some m)) (hg : P.eqGuardType P.depth t = false) (hf : flatI P 9 t = some n)
    (hn : op = if neg then .neq else .eql) (h : kEqa neg n (ρ x) (ρ y) K) : SND P o ρ S K := by
  unfold kEqa at h
  split at h
  · rename_i xs ys hx hy
    obtain ⟨hl, hok, hK⟩ := h
    refine snd_pure (fun G a w T _ hr => ⟨_, ?_, .lit _⟩) hK
    have rx := hr x (by simp [hop, Op.operands])
    have ry := hr y (by simp [hop, Op.operands])
    rw [hx] at rx
    rw [hy] at ry
    generalize e1 : a.eval x = vx at rx
    generalize e2 : a.eval y = vy at ry
    cases rx with
    | @agg _ vs h0 h2 h3 =>
      cases ry with
      | @agg _ us g0 g2 g3 =>
        obtain ⟨hv, he⟩ := eq_lits (G := G) (vs := vs.toList) (us := us.toList) hok ⟨by simpa using h0, fun j x v hx hv => h3 j x v hx (by simpa using hv)⟩ ⟨by simpa using g0, fun j x v hx hv => g3 j x v hx (by simpa using hv)⟩
        have hvs : vs.size = n := by rw [← h0]; exact hl
        have hus : us.size = n := by have := hv.1; simp at this; omega
        have heq := run_equal_flat (P := P) 9 t n (some m) hf ha (fun h => by cases h) 10000 vs us (by decide) hvs hus hv w
        simp only [aggV] at heq
        have hgd := run_eqGuard_agg (P := P) w op t x y vs us hg
        cases neg <;> simp at hn <;> subst hn <;> simp [execOp, hop, e1, e2, hgd, run_eql_struct, run_neq_struct, heq, he]
  · exact h.elim

theorem effK_sound {o : Oper} {i : I} {ρ : Operand → AV} {S : List AObj} {K : KT} (hc : compOp P o = some i) (h : effK P i ρ S K) : SND P o ρ S K := by
  unfold compOp at hc
  split at hc
  · rename_i x hop; injection hc with hc; subst hc; exact snd_mov (.inl hop) h
  · rename_i x hop; injection hc with hc; subst hc; exact snd_mov (.inr hop) h
  · rename_i c a b hop; injection hc with hc; subst hc; exact snd_pick hop h
  · rename_i e hop
    cases hz : zeroO P e with
    | none => simp [hz] at hc
    | some zs => simp [hz] at hc; subst hc; exact snd_new hop hz h
  · rename_i e x hop; injection hc with hc; subst hc; exact snd_box hop h
  · rename_i t ps hop
    split at hc
    · rename_i fs z ht hz
      split at hc
      · rename_i hfs
        cases hq : optM (fun p : Nat × Operand => (fs[p.1]?).bind fun f => (szO P f.type).map fun s => (f.offset, s, p.2)) ps.toList with
        | none => simp [hq] at hc
        | some qs => simp [hq] at hc; subst hc; exact snd_build_struct hop ht hz hfs hq h
      · cases hc
    · rename_i n e z ht hz
      cases hs : szO P e with
      | none => simp [hs] at hc
      | some s => simp [hs] at hc; subst hc; exact snd_build_array hop ht hz hs h
    · cases hc
  · rename_i t n ps hop
    split at hc
    · rename_i e ht
      split at hc
      · rename_i s z hs hz
        split at hc
        · rename_i hcond
          injection hc with hc; subst hc
          exact snd_bsl hop ht hs hz hcond.1 hcond.2.1 hcond.2.2.1 hcond.2.2.2 h
        · cases hc
      · cases hc
    · cases hc
  · rename_i t a hop
    cases hn : aggO P t with
    | none => simp [hn] at hc
    | some n => simp [hn] at hc; subst hc; exact snd_load hop hn h
  · rename_i t a x hop
    cases hn : szO P t with
    | none => simp [hn] at hc
    | some n => simp [hn] at hc; subst hc; exact snd_store hop hn h
  · rename_i x hop; injection hc with hc; subst hc; exact snd_nil hop h
  · rename_i op t x y t' hop
    split at hc
    · injection hc with hc; subst hc; exact snd_bin hop h
    · injection hc with hc; subst hc; exact snd_bin hop h
    · rename_i ht
      split at hc
      · rename_i e; injection hc with hc; subst hc; exact snd_eqb hop ht (neg := false) (by simpa using e) h
      · split at hc
        · rename_i e; injection hc with hc; subst hc; exact snd_eqb hop ht (neg := true) (by simpa using e) h
        · cases hc
    · rename_i e ht
      split at hc
      · split at hc
        · rename_i e; injection hc with hc; subst hc; exact snd_eqp hop ht (neg := false) (by simpa using e) h
        · split at hc
          · rename_i e; injection hc with hc; subst hc; exact snd_eqp hop ht (neg := true) (by simpa using e) h
          · cases hc
      · cases hc
    · rename_i fs ht
      split at hc
      · cases hc
      · rename_i hg
        have hg' : P.eqGuardType P.depth t = false := by simpa using hg
        split at hc
        · rename_i n m hf ha
          split at hc
          · rename_i e; injection hc with hc; subst hc; exact snd_eqa hop ha hg' hf (neg := false) (by simpa using e) h
          · split at hc
            · rename_i e; injection hc with hc; subst hc; exact snd_eqa hop ha hg' hf (neg := true) (by simpa using e) h
            · cases hc
        · cases hc
    · rename_i n0 e0 ht
      split at hc
      · cases hc
      · rename_i hg
        have hg' : P.eqGuardType P.depth t = false := by simpa using hg
        split at hc
        · rename_i n m hf ha
          split at hc
          · rename_i e; injection hc with hc; subst hc; exact snd_eqa hop ha hg' hf (neg := false) (by simpa using e) h
          · split at hc
            · rename_i e; injection hc with hc; subst hc; exact snd_eqa hop ha hg' hf (neg := true) (by simpa using e) h
            · cases hc
        · cases hc
    · cases hc
  · rename_i op t x hop; injection hc with hc; subst hc; exact snd_un hop h
  · rename_i src dst x hop
    split at hc
    · rename_i k0 k hs hd; injection hc with hc; subst hc; exact snd_cvt hop hs hd h
    · rename_i e hs hd
      split at hc
      · rename_i he; injection hc with hc; subst hc; exact snd_b2s hop hs he hd h
      · cases hc
    · rename_i e hs hd
      split at hc
      · rename_i he; injection hc with hc; subst hc; exact snd_s2b hop hs hd he h
      · cases hc
    · cases hc
  · rename_i t x lo hi mx hop
    split at hc
    · rename_i e ht
      cases hs : szO P e with
      | none => simp [hs] at hc
      | some s => simp [hs] at hc; subst hc; exact snd_slice hop ht hs h
    · rename_i ht
      split at hc
      · rename_i hm
        have : mx = none := by simpa using hm
        subst this
        injection hc with hc; subst hc; exact snd_sstr hop ht h
      · cases hc
    · cases hc
  · rename_i t x f hop
    split at hc
    · rename_i fs ht
      split at hc
      · rename_i fd hf
        split at hc
        · rename_i s hs
          split at hc
          · rename_i h1; injection hc with hc; subst hc; exact snd_fadr hop ht hf hs h1 h
          · cases hc
        · cases hc
      · cases hc
    · cases hc
  · rename_i t x f hop
    split at hc
    · rename_i fs ht
      split at hc
      · rename_i fd hf
        cases hn : aggO P fd.type with
        | none => simp [hn] at hc
        | some n => simp [hn] at hc; subst hc; exact snd_fld hop ht hf hn h
      · cases hc
    · cases hc
  · rename_i t x ix hop
    split at hc
    · rename_i e ht
      cases hs : szO P e with
      | none => simp [hs] at hc
      | some s => simp [hs] at hc; subst hc; exact snd_iadr hop ht hs h
    · rename_i n e ht
      cases hs : szO P e with
      | none => simp [hs] at hc
      | some s => simp [hs] at hc; subst hc; exact snd_aadr hop ht hs h
    · cases hc
  · rename_i t x ix hop
    split at hc
    · rename_i n e ht
      split at hc
      · rename_i s a hs ha; injection hc with hc; subst hc; exact snd_idx hop ht hs ha h
      · cases hc
    · rename_i ht; injection hc with hc; subst hc; exact snd_sidx hop ht h
    · cases hc
  · rename_i x i hop; injection hc with hc; subst hc; exact snd_ext hop h
  · rename_i f a b hop; injection hc with hc; subst hc; exact snd_mkf hop h
  · rename_i t l c hop
    split at hc
    · rename_i e ht
      split at hc
      · rename_i i z hi hz
        split at hc
        · rename_i hcond; injection hc with hc; subst hc; exact snd_mksl hop ht hi hz hcond.1 hcond.2 h
        · cases hc
      · cases hc
    · cases hc
  · rename_i c hop
    split at hc
    · rename_i f hcal; injection hc with hc; subst hc; exact snd_call hop hcal h
    · rename_i hcal
      split at hc
      · rename_i t t' s x hat ha
        split at hc
        · rename_i e ht
          split at hc
          · rename_i i z hi hz
            split at hc
            · rename_i hcond
              obtain ⟨rfl, h1, h2, h3⟩ := hcond
              injection hc with hc; subst hc
              exact snd_app hop hcal ha hat ht hi hz h1 h2 h3 h
            · cases hc
          · cases hc
        · cases hc
      · cases hc
    · rename_i hcal
      split at hc
      · rename_i t x hat ha
        split at hc
        · rename_i e ht; injection hc with hc; subst hc; exact snd_len hop hcal ha hat ht h
        · rename_i ht; injection hc with hc; subst hc; exact snd_lens hop hcal ha hat ht h
        · rename_i n e ht; injection hc with hc; subst hc; exact snd_lenc hop hcal ha hat ht h
        · cases hc
      · cases hc
    · rename_i hcal
      split at hc
      · rename_i x y ha; injection hc with hc; subst hc; exact snd_mx (isMax := true) (_t := 0) hop hcal ha h
      · cases hc
    · rename_i hcal
      split at hc
      · rename_i x y ha; injection hc with hc; subst hc; exact snd_mx (isMax := false) (_t := 0) hop hcal ha h
      · cases hc
    · cases hc
  · cases hc

end
end Go.Proofs.Ytnfagphepkeedaa
end
section
namespace Go.Proofs.Ytnfagphepkeedaa

/-- May an operation touch the store? -/
def tch : I → Bool
  | .new _ | .box _ | .load _ _ | .store _ _ _ | .call _ _ | .app _ _ _ _ | .mksl _ _ _ _ => true
  | _ => false
theorem effK_pure {P : Program} {i : I} {ρ : Operand → AV} {S : List AObj} {K : KT} (ht : tch i = false) (h : effK P i ρ S K) : effK P i ρ S (fun v rd upd new => (rd = [] ∧ upd = [] ∧ new = []) ∧ K v rd upd new) := by
  cases i <;> simp only [tch, Bool.true_eq_false] at ht <;> clear ht <;> dsimp only [effK] at h ⊢
  case mov => exact ⟨⟨by trivial, by trivial, by trivial⟩, h⟩
  case pick => unfold kPick at h ⊢; split at h <;> simp_all
  case build => unfold kBuild at h ⊢; split at h <;> simp_all
  case bsl => exact ⟨h.1, ⟨by trivial, by trivial, by trivial⟩, h.2⟩
  case nilc => unfold kNil at h ⊢; split at h <;> simp_all
  case bin op x y =>
    unfold kBin at h ⊢
    split at h
    · cases op <;> dsimp only [kInt] at h ⊢ <;> first | exact ⟨h.1, ⟨by trivial, by trivial, by trivial⟩, h.2⟩ | exact ⟨h.1, h.2.1, ⟨by trivial, by trivial, by trivial⟩, h.2.2⟩
    · cases op <;> dsimp only [kStr] at h ⊢ <;> first | exact ⟨⟨by trivial, by trivial, by trivial⟩, h⟩ | exact h.elim
    · exact h.elim
  case eqb => unfold kEqb at h ⊢; split at h <;> simp_all
  case eqa => unfold kEqa at h ⊢; split at h <;> simp_all
  case eqp => unfold kEqp at h ⊢; split at h <;> simp_all
  case un => unfold kUn at h ⊢; split at h <;> simp_all
  case cvt => unfold kCvt at h ⊢; split at h <;> simp_all
  case b2s => unfold kB2s at h ⊢; split at h <;> simp_all
  case s2b => unfold kS2b at h ⊢; split at h <;> simp_all
  case slice => 
    unfold kSlice at h ⊢
    split at h
    · split at h
      · rename_i l hh hl hhh
        simp only []
        obtain ⟨h1, h2, h3, h4, h5⟩ := h
        refine ⟨h1, h2, h3, h4, ?_⟩
        split at h5
        · exact ⟨⟨by trivial, by trivial, by trivial⟩, h5⟩
        · exact ⟨h5.1, ⟨by trivial, by trivial, by trivial⟩, h5.2⟩
      · exact h.elim
    · exact h.elim
  case sstr =>
    unfold kSstr at h ⊢
    split at h
    · split at h
      · rename_i l hh hl hhh
        simp only []
        exact ⟨h.1, h.2.1, h.2.2.1, ⟨by trivial, by trivial, by trivial⟩, h.2.2.2⟩
      · exact h.elim
    · exact h.elim
  case fadr => unfold kFadr at h ⊢; split at h <;> simp_all
  case fld => unfold kFld at h ⊢; (repeat' split at h) <;> simp_all
  case iadr =>
    unfold kIadr at h ⊢
    split at h
    · exact ⟨h.1, h.2.1, h.2.2.1, ⟨by trivial, by trivial, by trivial⟩, h.2.2.2⟩
    · exact ⟨h.1, h.2.1, ⟨by trivial, by trivial, by trivial⟩, h.2.2⟩
    · exact h.elim
  case aadr => unfold kAadr at h ⊢; split at h <;> simp_all
  case idx => unfold kIdx kFld at h ⊢; (repeat' split at h) <;> simp_all
  case sidx =>
    unfold kSidx at h ⊢
    split at h
    · exact ⟨h.1, h.2.1, ⟨by trivial, by trivial, by trivial⟩, h.2.2⟩
    · exact h.elim
  case ext => unfold kExt at h ⊢; (repeat' split at h) <;> simp_all
  case mkf => exact ⟨⟨by trivial, by trivial, by trivial⟩, h⟩
  case len => unfold kLen at h ⊢; split at h <;> simp_all
  case lenc => exact ⟨⟨by trivial, by trivial, by trivial⟩, h⟩
  case mx => unfold kMx at h ⊢; split at h <;> simp_all


abbrev RO := Option (Nat × Bool) × I × Option Nat

def setD (tm : List AV) (d : Option Nat) (v : AV) : List AV := match d with
  | some t => tm.set t v
  | none => tm
/-- Is an operation wanted, by its guard's value: yes, no, or it can't be told. -/
def gdK (x : AV) (want : Bool) (run skip : Prop) : Prop :=
  match x with
  | .lit (.bool b) => if b = want then run else skip
  | .lit _ => skip
  | _ => False
def disj (a b : List Nat) : Bool := a.all fun x => !b.contains x
/-- Two operations whose order is open do not touch what the other one reads. -/
def okTr (u : List (Nat × Nat)) (tr : List (List Nat × List Nat)) : Bool :=
  u.all fun p => disj (tr.getD p.1 ([], [])).2 (tr.getD p.2 ([], [])).1 && disj (tr.getD p.2 ([], [])).2 (tr.getD p.1 ([], [])).1

def aReg (P : Program) : List RO → List (Nat × Nat) → List (List Nat × List Nat) → List AV → List AObj → (List AV → List AObj → Prop) → Prop
  | [], u, tr, tm, S, Q => okTr u tr = true ∧ Q tm S
  | (none, i, d) :: rest, u, tr, tm, S, Q => effK P i (ev tm) S fun v rd upd new => aReg P rest u (tr ++ [(rd, upd.map (·.1) ++ (newU S.length new).map (·.1))]) (setD tm d v) (updL S upd ++ new) Q
  | (some (t, want), i, d) :: rest, u, tr, tm, S, Q => gdK (tm.getD t .any) want
      (effK P i (ev tm) S fun v rd upd new => aReg P rest u (tr ++ [(rd, upd.map (·.1) ++ (newU S.length new).map (·.1))]) (setD tm d v) (updL S upd ++ new) Q)
      (aReg P rest u (tr ++ [([], [])]) (setD tm d (.lit undef)) S Q)

structure RecR where
  ran : Bool
  v : AV
  rd : List Nat
  upd : List (Nat × AObj)
  new : List AObj

def sT (dst : Nat → Option Nat) (r : Nat → RecR) (tm : List AV) : Nat → List AV
  | 0 => tm
  | i + 1 => setD (sT dst r tm i) (dst i) (r i).v
def sS (r : Nat → RecR) (S : List AObj) : Nat → List AObj
  | 0 => S
  | i + 1 => updL (sS r S i) (r i).upd ++ (r i).new

/-- Operation o, whose guard reads slot g, in this state: it ran, or it was not wanted. -/
def RecOk (P : Program) (o : Oper) (i : I) (g : Option (Nat × Bool)) (tm : List AV) (S : List AObj) (r : RecR) : Prop :=
  if r.ran then (∀ t w, g = some (t, w) → tm.getD t .any = .lit (.bool w)) ∧ Eff P o (ev tm) S r.v r.rd r.upd r.new ∧ (∀ p ∈ r.upd, p.1 ∈ r.rd) ∧ (∀ i ∈ r.rd, i < S.length) ∧ (tch i = false → r.rd = [] ∧ r.upd = [] ∧ r.new = [])
  else (∃ t w u, g = some (t, w) ∧ tm.getD t .any = .lit u ∧ u ≠ .bool w) ∧ r.v = .lit undef ∧ r.rd = [] ∧ r.upd = [] ∧ r.new = []

def frec (r : RecR) (N : Nat) : List Nat × List Nat := (r.rd, r.upd.map (·.1) ++ (newU N r.new).map (·.1))

theorem sT_shift (dst : Nat → Option Nat) (r : Nat → RecR) (tm : List AV) (i : Nat) : sT (fun j => dst (j + 1)) (fun j => r (j + 1)) (setD tm (dst 0) (r 0).v) i = sT dst r tm (i + 1) := by
  induction i with
  | zero => rfl
  | succ i ih => simp only [sT, ih]
theorem sS_shift (r : Nat → RecR) (S : List AObj) (i : Nat) : sS (fun j => r (j + 1)) (updL S (r 0).upd ++ (r 0).new) i = sS r S (i + 1) := by
  induction i with
  | zero => rfl
  | succ i ih => simp only [sS, ih]

/-- A region's run is a row of records. -/
theorem aReg_recs {P : Program} : ∀ (os : List Oper) (cs : List RO) (u : List (Nat × Nat)) (tr : List (List Nat × List Nat)) (tm : List AV) (S : List AObj) (Q : List AV → List AObj → Prop),
    os.length = cs.length → (∀ (j : Nat) (o : Oper) (c : RO), os[j]? = some o → cs[j]? = some c → compOp P o = some c.2.1 ∧ o.dst = c.2.2) → aReg P cs u tr tm S Q →
    ∃ r : Nat → RecR, (∀ (j : Nat) (o : Oper) (c : RO), os[j]? = some o → cs[j]? = some c → RecOk P o c.2.1 c.1 (sT (fun j => (os[j]?).bind (·.dst)) r tm j) (sS r S j) (r j)) ∧
      okTr u (tr ++ (List.range os.length).map fun j => frec (r j) (sS r S j).length) = true ∧ Q (sT (fun j => (os[j]?).bind (·.dst)) r tm os.length) (sS r S os.length) := by
  intro os
  induction os with
  | nil =>
    intro cs u tr tm S Q hl hc h
    have : cs = [] := List.eq_nil_of_length_eq_zero (by simpa using hl.symm)
    subst this
    simp only [aReg] at h
    exact ⟨fun _ => ⟨false, .any, [], [], []⟩, fun j o c ho => by simp at ho, by simpa using h.1, h.2⟩
  | cons o os ih =>
    intro cs u tr tm S Q hl hc h
    cases cs with
    | nil => simp at hl
    | cons c cs =>
      obtain ⟨g, i, d⟩ := c
      obtain ⟨hco, hd⟩ := hc 0 o (g, i, d) rfl rfl
      simp only at hco hd
      subst hd
      have hcs : ∀ (j : Nat) (o' : Oper) (c : RO), os[j]? = some o' → cs[j]? = some c → compOp P o' = some c.2.1 ∧ o'.dst = c.2.2 := fun j o' c h1 h2 => hc (j + 1) o' c (by simpa using h1) (by simpa using h2)
      have hl' : os.length = cs.length := by simpa using hl
      -- what one step gives
      have fin : ∀ (r0 : RecR), RecOk P o i g tm S r0 → aReg P cs u (tr ++ [frec r0 S.length]) (setD tm o.dst r0.v) (updL S r0.upd ++ r0.new) Q →
          ∃ r : Nat → RecR, (∀ (j : Nat) (o' : Oper) (c : RO), (o :: os)[j]? = some o' → ((g, i, o.dst) :: cs)[j]? = some c → RecOk P o' c.2.1 c.1 (sT (fun j => ((o :: os)[j]?).bind (·.dst)) r tm j) (sS r S j) (r j)) ∧
            okTr u (tr ++ (List.range (o :: os).length).map fun j => frec (r j) (sS r S j).length) = true ∧ Q (sT (fun j => ((o :: os)[j]?).bind (·.dst)) r tm (o :: os).length) (sS r S (o :: os).length) := by
        intro r0 h0 hrest
        obtain ⟨r', h1, h2, h3⟩ := ih cs u _ _ _ Q hl' hcs hrest
        refine ⟨fun j => match j with | 0 => r0 | j + 1 => r' j, fun j o' c ho hc' => ?_, ?_, ?_⟩
        · cases j with
          | zero => simp at ho hc'; subst ho hc'; exact h0
          | succ j =>
            have := h1 j o' c (by simpa using ho) (by simpa using hc')
            rw [← sT_shift, ← sS_shift]
            exact this
        · rw [List.length_cons, List.range_succ_eq_map]
          rw [List.append_assoc] at h2
          simp only [List.map_cons, List.map_map, List.singleton_append] at h2 ⊢
          have e : (fun j => frec (r' j) (sS r' (updL S r0.upd ++ r0.new) j).length) = (fun j => frec ((fun j => match j with | 0 => r0 | j + 1 => r' j : Nat → RecR) j) (sS (fun j => match j with | 0 => r0 | j + 1 => r' j) S j).length) ∘ Nat.succ := by
            funext j
            simp only [Function.comp, Nat.succ_eq_add_one]
            rw [← sS_shift]
          rw [e] at h2
          exact h2
        · rw [List.length_cons, ← sT_shift, ← sS_shift]
          exact h3
      have run : effK P i (ev tm) S (fun v rd upd new => aReg P cs u (tr ++ [(rd, upd.map (·.1) ++ (newU S.length new).map (·.1))]) (setD tm o.dst v) (updL S upd ++ new) Q) → (∀ t w, g = some (t, w) → tm.getD t .any = .lit (.bool w)) →
          ∃ r0, RecOk P o i g tm S r0 ∧ aReg P cs u (tr ++ [frec r0 S.length]) (setD tm o.dst r0.v) (updL S r0.upd ++ r0.new) Q := by
        intro he hg
        by_cases ht : tch i = false
        · obtain ⟨v, rd, upd, new, h1, h2, h2', h2'', h3⟩ := effK_sound hco (effK_pure ht he)
          exact ⟨⟨true, v, rd, upd, new⟩, by simp only [RecOk, if_true]; exact ⟨hg, h1, h2, h2', fun _ => h2''⟩, h3⟩
        · obtain ⟨v, rd, upd, new, h1, h2, h2', h3⟩ := effK_sound hco he
          exact ⟨⟨true, v, rd, upd, new⟩, by simp only [RecOk, if_true]; exact ⟨hg, h1, h2, h2', fun e => (ht e).elim⟩, h3⟩
      cases g with
      | none =>
        simp only [aReg] at h
        obtain ⟨r0, h1, h2⟩ := run h (fun t w e => by cases e)
        exact fin r0 h1 h2
      | some g =>
        obtain ⟨t, want⟩ := g
        simp only [aReg, gdK] at h
        have skip : ∀ u', tm.getD t .any = .lit u' → u' ≠ .bool want → aReg P cs u (tr ++ [([], [])]) (setD tm o.dst (.lit undef)) S Q → ∃ r0, RecOk P o i (some (t, want)) tm S r0 ∧ aReg P cs u (tr ++ [frec r0 S.length]) (setD tm o.dst r0.v) (updL S r0.upd ++ r0.new) Q := by
          intro u' hu' hne hk
          exact ⟨⟨false, .lit undef, [], [], []⟩, by unfold RecOk; rw [if_neg (by simp)]; exact ⟨⟨t, want, u', rfl, hu', hne⟩, rfl, rfl, rfl, rfl⟩, by simpa [frec, newU] using hk⟩
        split at h
        · rename_i b hb
          split at h
          · rename_i hbw
            subst hbw
            obtain ⟨r0, h1, h2⟩ := run h (fun t' w e => by injection e with e; injection e with e1 e2; subst e1 e2; exact hb)
            exact fin r0 h1 h2
          · rename_i hbw
            obtain ⟨r0, h1, h2⟩ := skip _ hb (fun e => by injection e with e; exact hbw e) h
            exact fin r0 h1 h2
        · rename_i x u' hne hu'
          obtain ⟨r0, h1, h2⟩ := skip u' hu' (fun e => hne want (by rw [e])) h
          exact fin r0 h1 h2
        · exact h.elim

/-- What a frame and a world bear, since the function was entered. -/
structure Cz (G0 : Gh) (S0 : List AObj) (w0 : World) (tm : List AV) (S : List AObj) (G : Gh) (a : Act) (w : World) : Prop where
  left : Left G0 S0 w0 G S w
  size : a.tmps.size = tm.length
  rep : ∀ (t : Nat) (x : AV) (v : Value), tm[t]? = some x → a.tmps[t]? = some v → Rep G x v
  defers : a.defers = []
  wd0 : Wd G0 S0 w0
theorem Cz.ev {G0 : Gh} {S0 : List AObj} {w0 : World} {tm : List AV} {S : List AObj} {G : Gh} {a : Act} {w : World} (h : Cz G0 S0 w0 tm S G a w) (x : Operand) : Rep G (ev tm x) (a.eval x) := by
  cases x with
  | tmp t =>
    simp only [Proofs.Ytnfagphepkeedaa.ev, Act.eval]
    by_cases ht : t < tm.length
    · have h1 := List.getElem?_eq_getElem ht
      have h2 := Array.getElem?_eq_getElem (show t < a.tmps.size by rw [h.size]; exact ht)
      have := h.rep t _ _ h1 h2
      simpa [ht, h.size] using this
    · simp [ht]; exact .any _
  | const v => exact rep_ofC G v
  | global g => exact .any _
  | func f =>
    exact .fn (by simp) (by simp) (fun j x v h => by simp at h) (fun j x v h => by simp at h)
theorem Cz.put {G0 : Gh} {S0 : List AObj} {w0 : World} {tm : List AV} {S S' : List AObj} {G G' : Gh} {a : Act} {w w' : World} (h : Cz G0 S0 w0 tm S G a w) (hl : Left G S w G' S' w') {x : AV} {v : Value} (hv : Rep G' x v) (d : Option Nat) :
    Cz G0 S0 w0 (setD tm d x) S' G' (a.put d v) w' := by
  refine ⟨h.left.trans hl, ?_, fun t y u hy hu => ?_, ?_, h.wd0⟩
  · cases d <;> simp [Act.put, setD, h.size]
  · cases d with
    | none => exact (h.rep t y u hy hu).mono hl.le
    | some d =>
      simp only [setD, Act.put] at hy hu
      by_cases e : t = d
      · subst e
        rw [List.getElem?_set] at hy
        rw [Array.getElem?_setIfInBounds] at hu
        simp only [if_true] at hy hu
        split at hy
        · injection hy with hy; subst hy
          rw [if_pos (by rw [h.size]; assumption)] at hu
          injection hu with hu; subst hu; exact hv
        · cases hy
      · rw [List.getElem?_set_ne (Ne.symm e)] at hy
        rw [Array.getElem?_setIfInBounds_ne (Ne.symm e)] at hu
        exact (h.rep t y u hy hu).mono hl.le
  · cases d <;> exact h.defers

theorem Left.dead {G : Gh} {S : List AObj} {w : World} (h : Wd G S w) (n : Nat) : Left G S w G (S ++ List.replicate n .dead) w := by
  have hold : ∀ {i : Nat} {o : AObj}, (S ++ List.replicate n .dead)[i]? = some o → o ≠ .dead → S[i]? = some o := fun {i o} e hne => by
    rw [List.getElem?_append] at e
    split at e
    · exact e
    · rw [List.getElem?_replicate] at e
      split at e
      · injection e with e; exact (hne e.symm).elim
      · cases e
  have hblk : ∀ i, blk G (S ++ List.replicate n .dead) i = blk G S i := by
    intro i
    by_cases hi : i < S.length
    · simp [blk, List.getElem?_append_left hi]
    · have h1 : S[i]? = none := List.getElem?_eq_none (by omega)
      cases he : (S ++ List.replicate n AObj.dead)[i]? with
      | none => simp [blk, he, h1]
      | some o =>
        cases o with
        | dead => simp [blk, he, h1]
        | cells xs => have := hold he (by simp); rw [h1] at this; cases this
        | row k m => have := hold he (by simp); rw [h1] at this; cases this
        | mrow k m xs => have := hold he (by simp); rw [h1] at this; cases this
  refine ⟨Gh.Le.refl _, ⟨h.imm, fun i hi => ?_, fun i xs hi => h.obj i xs (hold hi (by simp)), fun j k m hj => h.row j k m (hold hj (by simp)), fun j k m xs hj => h.mrow j k m xs (hold hj (by simp)), fun i j b hi hj => h.sep i j b (by rw [← hblk]; exact hi) (by rw [← hblk]; exact hj)⟩, Kept.refl _ _, fun i b hb => .inr ⟨i, by rw [← hblk]; exact hb⟩, fun _ _ _ h => .inl h⟩
  by_cases hlt : i < S.length
  · rw [List.getElem?_append_left hlt] at hi; exact h.dom i hi
  · exact h.dom i (.inl (List.getElem?_eq_none (by omega)))

theorem newU_mem {n : Nat} {l : List AObj} {p : Nat × AObj} (h : p ∈ newU n l) : n ≤ p.1 ∧ p.1 < n + l.length ∧ l[p.1 - n]? = some p.2 := by
  induction l generalizing n with
  | nil => cases h
  | cons o l ih =>
    simp only [newU, List.mem_cons] at h
    rcases h with rfl | h
    · simp
    · obtain ⟨h1, h2, h3⟩ := ih h
      refine ⟨by omega, by simp; omega, ?_⟩
      rw [show p.1 - n = (p.1 - (n + 1)) + 1 by omega]; simpa using h3
/-- New objects laid at places that were kept free are appended. -/
theorem updL_new (S : List AObj) (new : List AObj) : ∀ (n : Nat), n = S.length → updL (S ++ List.replicate new.length .dead) (newU n new) = S ++ new := by
  induction new generalizing S with
  | nil => intro n hn; simp [newU]
  | cons o new ih =>
    intro n hn
    subst hn
    simp only [List.length_cons, newU, updL_cons, List.replicate_succ]
    have : (S ++ AObj.dead :: List.replicate new.length AObj.dead).set S.length o = (S ++ [o]) ++ List.replicate new.length AObj.dead := by
      rw [List.set_append_right _ _ (Nat.le_refl _)]; simp
    rw [this, ih (S ++ [o]) (S.length + 1) (by simp)]
    simp
theorem updL_append (T : List AObj) (u v : List (Nat × AObj)) : updL T (u ++ v) = updL (updL T u) v := by
  induction u generalizing T with
  | nil => rfl
  | cons p u ih => simp [ih]
theorem updL_left (S R : List AObj) (u : List (Nat × AObj)) (h : ∀ p ∈ u, p.1 < S.length) : updL (S ++ R) u = updL S u ++ R := by
  induction u generalizing S with
  | nil => rfl
  | cons p u ih =>
    rw [updL_cons, updL_cons, List.set_append_left _ _ (h p (by simp)), ih _ (fun q hq => by simpa using h q (by simp [hq]))]

section
variable {P : Program}

/-- One operation in the text's order. -/
theorem step_text {o : Oper} {G0 : Gh} {S0 : List AObj} {w0 : World} {tm : List AV} {S : List AObj} {G : Gh} {a : Act} {w : World} (hz : Cz G0 S0 w0 tm S G a w) {v : AV} {rd : List Nat} {upd : List (Nat × AObj)} {new : List AObj}
    (he : Eff P o (ev tm) S v rd upd new) (hu : ∀ p ∈ upd, p.1 ∈ rd) (hrd : ∀ i ∈ rd, i < S.length) (K : Act → World → Prop) (Q : Exit → Act → World → Prop)
    (hk : ∀ G' a' w', Cz G0 S0 w0 (setD tm o.dst v) (updL S upd ++ new) G' a' w' → K a' w') : o.wp P a w K Q := by
  have hd := Left.dead hz.left.wd new.length
  refine he (S ++ List.replicate new.length .dead) (fun i hi => List.getElem?_append_left (hrd i hi)) (fun p hp => ?_) G a w hd.wd (fun x _ => hz.ev x) K Q fun v' w' G' hv hl => hk G' _ _ ?_
  · obtain ⟨h1, h2, _⟩ := newU_mem hp
    rw [List.getElem?_append_right h1, List.getElem?_replicate, if_pos (by omega)]
  · have e : updL (S ++ List.replicate new.length .dead) (upd ++ newU S.length new) = updL S upd ++ new := by
      rw [updL_append, updL_left _ _ _ (fun p hp => hrd _ (hu p hp))]
      exact updL_new _ _ _ (by simp)
    rw [e] at hl
    exact hz.put (hd.trans hl) hv o.dst

end
end Go.Proofs.Ytnfagphepkeedaa
end
section
namespace Go.Proofs.Ytnfagphepkeedaa

def compOps (P : Program) (ops : Array Oper) : Option (List RO) :=
  optM (fun o : Oper => match compOp P o with
    | none => none
    | some i => match o.guard with
      | none => some (none, i, o.dst)
      | some (j, want) => match (ops[j]?).bind (·.dst) with
        | some t => some (some (t, want), i, o.dst)
        | none => none) ops.toList

section
variable {P : Program} {ops : Array Oper} {cs : List RO}
theorem compOps_at (h : compOps P ops = some cs) : ops.toList.length = cs.length ∧ ∀ (j : Nat) (o : Oper) (c : RO), ops.toList[j]? = some o → cs[j]? = some c →
    (compOp P o = some c.2.1 ∧ o.dst = c.2.2) ∧ (o.guard = none ∧ c.1 = none ∨ ∃ g want t, o.guard = some (g, want) ∧ (ops[g]?).bind (·.dst) = some t ∧ c.1 = some (t, want)) := by
  obtain ⟨h1, h2⟩ := optM_get h
  refine ⟨h1, fun j o c ho hc => ?_⟩
  have e := h2 j o c ho hc
  split at e
  · cases e
  · rename_i i hi
    split at e
    · rename_i hg; injection e with e; subst e; exact ⟨⟨hi, rfl⟩, .inl ⟨hg, rfl⟩⟩
    · rename_i g want hg
      split at e
      · rename_i t ht; injection e with e; subst e; exact ⟨⟨hi, rfl⟩, .inr ⟨g, want, t, hg, ht, rfl⟩⟩
      · cases e

/-- Whether an operation is wanted, by the record. -/
theorem wanted_of {G0 : Gh} {S0 : List AObj} {w0 : World} {tm : List AV} {S : List AObj} {G : Gh} {a : Act} {w : World} (hz : Cz G0 S0 w0 tm S G a w) {o : Oper} {i : I} {c : Option (Nat × Bool)} {tm' : List AV} {S' : List AObj} {r : RecR}
    (hg : o.guard = none ∧ c = none ∨ ∃ g want t, o.guard = some (g, want) ∧ (ops[g]?).bind (·.dst) = some t ∧ c = some (t, want)) (htm : ∀ t w, c = some (t, w) → tm.getD t .any = tm'.getD t .any) (hr : RecOk P o i c tm' S' r) :
    Region.wanted o (yielded ops a.tmps) = r.ran := by
  have look : ∀ {t : Nat} {u : Value}, tm.getD t .any = .lit u → a.tmps[t]? = some u := fun {t u} e => by
    by_cases ht : t < tm.length
    · have h1 : tm[t]? = some (.lit u) := by rw [← e]; simp [ht]
      have h2 := Array.getElem?_eq_getElem (show t < a.tmps.size by rw [hz.size]; exact ht)
      rw [h2, rep_lit (hz.rep t _ _ h1 h2)]
    · simp [ht] at e
  unfold RecOk at hr
  cases hran : r.ran with
  | true =>
    rw [hran, if_pos rfl] at hr
    rcases hg with ⟨h1, _⟩ | ⟨g, want, t, h1, h2, h3⟩
    · simp [Region.wanted, h1]
    · have e := look ((htm t want h3).trans (hr.1 t want h3))
      simp [Region.wanted, h1, yielded, h2, e]
  | false =>
    rw [hran, if_neg (by simp)] at hr
    obtain ⟨⟨t, want, u, hc, hu, hne⟩, _⟩ := hr
    rcases hg with ⟨_, h1⟩ | ⟨g, want', t', h1, h2, h3⟩
    · rw [h1] at hc; cases hc
    · rw [h3] at hc; injection hc with hc; injection hc with e1 e2; subst e1 e2
      have e := look ((htm t' want' h3).trans hu)
      simp only [Region.wanted, h1, yielded, h2, Option.bind_some, e]
      cases u <;> simp
      rintro rfl; exact hne rfl

/-- A region in the text's order. -/
theorem reg_text {id : Nat} {G0 : Gh} {S0 : List AObj} {w0 : World} {tm : List AV} {S : List AObj} {G : Gh} {a : Act} {w : World} (hc : compOps P ops = some cs) (hz : Cz G0 S0 w0 tm S G a w) {QA : List AV → List AObj → Prop} (h : aReg P cs [] [] tm S QA)
    (Q : Exit → Act → World → Prop) (hQ : ∀ tm' S' G' a' w', Cz G0 S0 w0 tm' S' G' a' w' → QA tm' S' → Q .normal a' w') : (Code.region id ops false).wp P Q a w := by
  obtain ⟨hl, hat⟩ := compOps_at hc
  obtain ⟨r, hrec, _, hfin⟩ := aReg_recs ops.toList cs [] [] tm S QA hl (fun j o c h1 h2 => (hat j o c h1 h2).1) h
  refine wp_region ?_
  have key : ∀ (k i : Nat) (G : Gh) (a : Act) (w : World), i + k = ops.size → Cz G0 S0 w0 (sT (fun j => (ops.toList[j]?).bind (·.dst)) r tm i) (sS r S i) G a w → wpOps P ops Q (List.range' i k) a w := by
    intro k
    induction k with
    | zero =>
      intro i G a w hi hz
      have e : i = ops.toList.length := by simp; omega
      subst e
      exact hQ _ _ _ _ _ hz hfin
    | succ k ih =>
      intro i G a w hi hz
      have hlt : i < ops.size := by omega
      have ho : ops[i]? = some ops[i] := Array.getElem?_eq_getElem hlt
      have hol : ops.toList[i]? = some ops[i] := by simp
      have hcl : cs[i]? = some (cs[i]'(by rw [← hl]; simpa using hlt)) := List.getElem?_eq_getElem _
      obtain ⟨_, hg⟩ := hat i _ _ hol hcl
      have hr := hrec i _ _ hol hcl
      have hw := wanted_of (ops := ops) hz hg (fun t w e => rfl) hr
      simp only [List.range'_succ, wpOps, ho, hw]
      unfold RecOk at hr
      have hnext : ∀ {x : AV} , setD (sT (fun j => (ops.toList[j]?).bind (·.dst)) r tm i) (ops[i]).dst (r i).v = sT (fun j => (ops.toList[j]?).bind (·.dst)) r tm (i + 1) := fun {x} => by
        simp only [sT, hol, Option.bind_some]
      cases hran : (r i).ran with
      | true =>
        rw [hran, if_pos rfl] at hr
        obtain ⟨_, he, hu, hrd, _⟩ := hr
        simp only [if_true]
        left
        refine step_text hz he hu hrd _ _ fun G' a' w' hz' => ih (i + 1) G' a' w' (by omega) ?_
        rw [hnext (x := .any)] at hz'
        exact hz'
      | false =>
        rw [hran, if_neg (by simp)] at hr
        obtain ⟨_, hv, hrd, hu, hn⟩ := hr
        simp only [Bool.false_eq_true, if_false]
        refine ih (i + 1) G _ w (by omega) ?_
        have := hz.put (Left.refl hz.left.wd) (x := .lit undef) (v := undef) (.lit _) (ops[i]).dst
        rw [← hv, hnext (x := .any)] at this
        simpa [sS, hu, hn] using this
  have := key ops.size 0 G a w (by omega) hz
  rwa [List.range_eq_range']
end
end Go.Proofs.Ytnfagphepkeedaa
end
section
namespace Go.Proofs.Ytnfagphepkeedaa

def dirs (o : Oper) : List Nat := (o.after.toList.filter fun e => Region.binds .any e).map (·.on)
/-- What stands ahead of each operation, through others too: a row of bits. -/
def befL : List Oper → List Nat → List Nat
  | [], acc => acc
  | o :: os, acc => befL os (acc ++ [(dirs o).foldl (fun s e => s ||| 2 ^ e ||| acc.getD e 0) 0])
def tmpsOf (xs : List Operand) : List Nat := xs.filterMap fun | .tmp t => some t | _ => none
def namesOf (o : Oper) (c : RO) : List Nat := tmpsOf o.op.operands.toList ++ o.dst.toList ++ (match c.1 with | some (t, _) => [t] | none => [])
def apartB (o : Oper) (c : RO) (o' : Oper) (c' : RO) : Bool :=
  (match o.dst with | some d => !(namesOf o' c').contains d | none => true) && (match o'.dst with | some d => !(namesOf o c).contains d | none => true)
/-- All pairs of places. -/
def pairs (n : Nat) : List (Nat × Nat) := (List.range n).flatMap fun k => (List.range k).map fun i => (i, k)
def unord (n : Nat) (bef : List Nat) : List (Nat × Nat) := (pairs n).filter fun p => !(bef.getD p.2 0).testBit p.1
def touchB (cs : List RO) (i : Nat) : Bool := match cs[i]? with | some c => tch c.2.1 | none => false
def slotsOk (ops : List Oper) (cs : List RO) (u : List (Nat × Nat)) : Bool :=
  u.all fun p => match ops[p.1]?, cs[p.1]?, ops[p.2]?, cs[p.2]? with
    | some o, some c, some o', some c' => apartB o c o' c'
    | _, _, _, _ => true
def compReg (P : Program) (ops : Array Oper) (draw : Bool) : Option (List RO × List (Nat × Nat)) :=
  match compOps P ops with
  | none => none
  | some cs => if draw then
      let u := unord ops.size (befL ops.toList [])
      if P.follows .mixedOrders && (ops.toList.zipIdx.all fun p => (dirs p.1).all (· < p.2)) && slotsOk ops.toList cs u then some (cs, u.filter fun p => touchB cs p.1 && touchB cs p.2) else none
    else some (cs, [])

theorem mem_pairs {n i k : Nat} (h : i < k) (hk : k < n) : (i, k) ∈ pairs n := by
  simp only [pairs, List.mem_flatMap, List.mem_range, List.mem_map]
  exact ⟨k, hk, i, h, rfl⟩

/-- What is set is set, and all that stands ahead. -/
theorem befL_closed (D : Nat → Prop) : ∀ (os : List Oper) (acc : List Nat), (∀ (k : Nat) (o : Oper), os[k]? = some o → D (acc.length + k) → ∀ e ∈ dirs o, D e) → (∀ k, k < acc.length → D k → ∀ i, (acc.getD k 0).testBit i = true → D i) →
    ∀ k, k < acc.length + os.length → D k → ∀ i, ((befL os acc).getD k 0).testBit i = true → D i := by
  intro os
  induction os with
  | nil => intro acc _ h k hk; exact h k (by simpa using hk)
  | cons o os ih =>
    intro acc hd h k hk hDk i hi
    simp only [befL] at hi
    refine ih (acc ++ [(dirs o).foldl (fun s e => s ||| 2 ^ e ||| acc.getD e 0) 0]) (fun k o' ho hD => hd (k + 1) o' (by simpa using ho) (by rw [← Nat.add_assoc, Nat.add_right_comm]; simpa using hD)) (fun k' hk' hD' j hj => ?_) k (by simp at hk ⊢; omega) hDk i hi
    by_cases e : k' < acc.length
    · refine h k' e hD' j ?_
      simpa [List.getElem?_append_left e] using hj
    · have hk0 : k' = acc.length := by simp at hk'; omega
      subst hk0
      have hj' : ((dirs o).foldl (fun s e => s ||| 2 ^ e ||| acc.getD e 0) 0).testBit j = true := by simpa using hj
      have hdir := hd 0 o rfl (by simpa using hD')
      have key : ∀ (l : List Nat) (s : Nat), (∀ e ∈ l, D e) → (l.foldl (fun s e => s ||| 2 ^ e ||| acc.getD e 0) s).testBit j = true → s.testBit j = true ∨ D j := by
        intro l
        induction l with
        | nil => intro s _ h; exact .inl h
        | cons e l ihl =>
          intro s hl hs
          rcases ihl _ (fun x hx => hl x (by simp [hx])) hs with h1 | h1
          · rw [Nat.testBit_or, Nat.testBit_or] at h1
            simp only [Bool.or_eq_true] at h1
            rcases h1 with (h1 | h1) | h1
            · exact .inl h1
            · rw [Nat.testBit_two_pow] at h1
              have : e = j := by simpa using h1
              subst this; exact .inr (hl e (by simp))
            · right
              by_cases hea : e < acc.length
              · exact h e hea (hl e (by simp)) j h1
              · simp [List.getElem?_eq_none (Nat.le_of_not_lt hea)] at h1
          · exact .inr h1
      rcases key (dirs o) 0 hdir hj' with h1 | h1
      · simp at h1
      · exact h1

/-- The last one that is done and has a value. -/
def lastW {α : Type} (D : Nat → Bool) (f : Nat → Option α) : Nat → Option α
  | 0 => none
  | n + 1 => if D n then (match f n with | some v => some v | none => lastW D f n) else lastW D f n
theorem lastW_congr {α : Type} {D D' : Nat → Bool} {f : Nat → Option α} : ∀ {n : Nat}, (∀ i, i < n → f i ≠ none → D i = D' i) → lastW D f n = lastW D' f n := by
  intro n
  induction n with
  | zero => intro _; rfl
  | succ n ih =>
    intro h
    have e := ih fun i hi => h i (by omega)
    simp only [lastW]
    cases hf : f n with
    | none => simp [e]
    | some v => rw [h n (by omega) (by simp [hf]), e]
theorem lastW_cut {α : Type} {D : Nat → Bool} {f : Nat → Option α} {j : Nat} : ∀ {n : Nat}, j ≤ n → (∀ i, j ≤ i → i < n → f i ≠ none → D i = false) → lastW D f n = lastW D f j := by
  intro n
  induction n with
  | zero => intro h _; have : j = 0 := by omega
            subst this; rfl
  | succ n ih =>
    intro hj h
    by_cases e : j = n + 1
    · subst e; rfl
    · simp only [lastW]
      rw [← ih (by omega) fun i h1 h2 => h i h1 (by omega)]
      cases hf : f n with
      | none => simp
      | some v => simp [h n (by omega) (by omega) (by simp [hf])]
theorem lastW_none {α : Type} {D : Nat → Bool} {f : Nat → Option α} : ∀ {n : Nat}, (∀ i, i < n → D i = true → f i = none) → lastW D f n = none := by
  intro n
  induction n with
  | zero => intro _; rfl
  | succ n ih =>
    intro h
    simp only [lastW, ih fun i hi => h i (by omega)]
    cases hD : D n with
    | true => simp [h n (by omega) hD]
    | false => simp
theorem lastW_top {α : Type} {D : Nat → Bool} {f : Nat → Option α} {j : Nat} {v : α} {n : Nat} (hj : j < n) (hD : D j = true) (hf : f j = some v) (h : ∀ i, j < i → i < n → f i ≠ none → D i = false) : lastW D f n = some v := by
  rw [lastW_cut (j := j + 1) (by omega) fun i h1 h2 h3 => h i (by omega) h2 h3]
  simp [lastW, hD, hf]

def orW {α : Type} : Option α → Option α → Option α
  | some x, _ => some x
  | none, y => y

section
variable {dst : Nat → Option Nat} {r : Nat → RecR} {tm : List AV} {S : List AObj}
def fT (dst : Nat → Option Nat) (r : Nat → RecR) (t i : Nat) : Option AV := if dst i = some t then some (r i).v else none
def wids (r : Nat → RecR) (S : List AObj) (i : Nat) : List (Nat × AObj) := (r i).upd ++ newU (sS r S i).length (r i).new
def fS (r : Nat → RecR) (S : List AObj) (q i : Nat) : Option AObj := if q ∈ (wids r S i).map (·.1) then (sS r S (i + 1))[q]? else none

theorem sT_length (i : Nat) : (sT dst r tm i).length = tm.length := by
  induction i with
  | zero => rfl
  | succ i ih => simp only [sT, setD]; split <;> simp [ih]
theorem sT_at (t i : Nat) : (sT dst r tm i)[t]? = if t < tm.length then orW (lastW (fun _ => true) (fT dst r t) i) tm[t]? else none := by
  induction i with
  | zero =>
    simp only [sT, lastW, orW]
    split
    · rfl
    · exact List.getElem?_eq_none (by omega)
  | succ i ih =>
    simp only [sT, lastW, fT, if_true]
    cases hd : dst i with
    | none => simpa [setD] using ih
    | some d =>
      simp only [setD]
      by_cases e : d = t
      · subst e
        by_cases hlt : d < tm.length
        · simp [hlt, orW, sT_length]
        · rw [if_neg hlt]; exact List.getElem?_eq_none (by simp [sT_length]; omega)
      · rw [List.getElem?_set_ne e, ih]
        simp [e]
theorem sS_mono (i j : Nat) (h : i ≤ j) : (sS r S i).length ≤ (sS r S j).length := by
  induction j with
  | zero => have : i = 0 := by omega
            subst this; exact Nat.le_refl _
  | succ j ih =>
    by_cases e : i = j + 1
    · subst e; exact Nat.le_refl _
    · have := ih (by omega)
      simp only [sS, List.length_append, updL_length]; omega
/-- The places that an operation turns or fills lie below what it leaves. -/
theorem wids_lt {i : Nat} (hu : ∀ p ∈ (r i).upd, p.1 < (sS r S i).length) {q : Nat} (hq : q ∈ (wids r S i).map (·.1)) : q < (sS r S (i + 1)).length := by
  simp only [wids, List.map_append, List.mem_append, List.mem_map] at hq
  simp only [sS, List.length_append, updL_length]
  rcases hq with ⟨p, hp, rfl⟩ | ⟨p, hp, rfl⟩
  · have := hu p hp; omega
  · have := (newU_mem hp).2.1; omega
theorem updL_same (T T' : List AObj) (u : List (Nat × AObj)) {q : Nat} (hq : q ∈ u.map (·.1)) (h : q < T.length) (h' : q < T'.length) : (updL T u)[q]? = (updL T' u)[q]? := by
  induction u generalizing T T' with
  | nil => simp at hq
  | cons p u ih =>
    simp only [updL_cons]
    by_cases e : q ∈ u.map (·.1)
    · exact ih _ _ e (by simpa using h) (by simpa using h')
    · simp only [List.map_cons, List.mem_cons] at hq
      rcases hq with rfl | hq
      · rw [updL_other _ _ _ e, updL_other _ _ _ e]; simp [h, h']
      · exact (e hq).elim
theorem sS_step (i : Nat) (hu : ∀ p ∈ (r i).upd, p.1 < (sS r S i).length) : updL (sS r S i ++ List.replicate (r i).new.length .dead) (wids r S i) = sS r S (i + 1) := by
  simp only [wids, sS]
  rw [updL_append, updL_left _ _ _ hu, updL_new _ _ _ (by simp)]
theorem sS_at (n : Nat) (hu : ∀ i, i < n → ∀ p ∈ (r i).upd, p.1 < (sS r S i).length) (q : Nat) : (sS r S n)[q]? = orW (lastW (fun _ => true) (fS r S q) n) S[q]? := by
  induction n with
  | zero => rfl
  | succ i ih =>
    have hi := hu i (by omega)
    simp only [lastW, if_true]
    by_cases hq : q ∈ (wids r S i).map (·.1)
    · have hlt := wids_lt hi hq
      have e : fS r S q i = some ((sS r S (i + 1))[q]'hlt) := by simp [fS, hq]
      rw [e]; simp [orW]
    · have e : fS r S q i = none := by simp [fS, hq]
      rw [e]
      show _ = orW (lastW (fun _ => true) (fS r S q) i) S[q]?
      rw [← ih fun j hj => hu j (by omega)]
      have hstep := sS_step (r := r) (S := S) i hi
      rw [← hstep, updL_other _ _ _ hq]
      by_cases hlt : q < (sS r S i).length
      · rw [List.getElem?_append_left hlt]
      · rw [List.getElem?_append_right (by omega), List.getElem?_eq_none (show (sS r S i).length ≤ q by omega), List.getElem?_replicate]
        rw [if_neg]
        intro hcon
        apply hq
        have hmem : ∀ (l : List AObj) (n q : Nat), n ≤ q → q < n + l.length → q ∈ (newU n l).map (·.1) := by
          intro l
          induction l with
          | nil => intro n q h1 h2; simp at h2; omega
          | cons o l ihl =>
            intro n q h1 h2
            simp only [newU, List.map_cons, List.mem_cons]
            by_cases e : q = n
            · exact .inl e
            · exact .inr (ihl (n + 1) q (by omega) (by simp at h2; omega))
        simp only [wids, List.map_append, List.mem_append]
        exact .inr (hmem _ _ q (by omega) (by omega))
end

end Go.Proofs.Ytnfagphepkeedaa
end
section
namespace Go.Proofs.Ytnfagphepkeedaa

theorem list_set_bool {l : List Bool} {i : Nat} (h : l[i]? = some false) : (l.set i true).countP (fun b => !b) + 1 = l.countP (fun b => !b) := by
  induction l generalizing i with
  | nil => simp at h
  | cons b l ih =>
    cases i with
    | zero => simp at h; subst h; simp
    | succ i =>
      simp at h
      have := ih h
      simp only [List.set_cons_succ, List.countP_cons]
      omega

section
variable {P : Program} {ops : Array Oper} {cs : List RO}

theorem reg_draw {id : Nat} {G0 : Gh} {S0 : List AObj} {w0 : World} {tm : List AV} {S : List AObj} {G : Gh} {a : Act} {w : World} {u : List (Nat × Nat)} (hc : compReg P ops true = some (cs, u)) (hz : Cz G0 S0 w0 tm S G a w) {QA : List AV → List AObj → Prop}
    (h : aReg P cs u [] tm S QA) (Q : Exit → Act → World → Prop) (hQ : ∀ tm' S' G' a' w', Cz G0 S0 w0 tm' S' G' a' w' → QA tm' S' → Q .normal a' w') : (Code.region id ops true).wp P Q a w := by
  unfold compReg at hc
  split at hc
  · cases hc
  rename_i cs' hcs
  simp only [if_true] at hc
  split at hc
  case isFalse => cases hc
  rename_i hcond
  injection hc with hc
  injection hc with e1 e2
  subst e1
  simp only [Bool.and_eq_true] at hcond
  obtain ⟨⟨hmix, hdir⟩, hslots⟩ := hcond
  obtain ⟨hl, hat⟩ := compOps_at hcs
  obtain ⟨r, hrec, hok, hfin⟩ := aReg_recs ops.toList cs' u [] tm S QA hl (fun j o c h1 h2 => (hat j o c h1 h2).1) h
  let n := ops.toList.length
  have hn : n = ops.size := by simp [n]
  let dst : Nat → Option Nat := fun j => (ops.toList[j]?).bind (·.dst)
  let bef := befL ops.toList []
  have hol : ∀ j, j < n → ∃ o c, ops.toList[j]? = some o ∧ ops[j]? = some o ∧ cs'[j]? = some c := fun j hj => by
    have h1 := List.getElem?_eq_getElem (show j < ops.toList.length from hj)
    exact ⟨_, _, h1, by simp, List.getElem?_eq_getElem (show j < cs'.length by rw [← hl]; exact hj)⟩
  -- what the records say
  have hup : ∀ i, i < n → (∀ p ∈ (r i).upd, p.1 ∈ (r i).rd) ∧ ∀ q ∈ (r i).rd, q < (sS r S i).length := fun i hi => by
    obtain ⟨o, c, h1, _, h3⟩ := hol i hi
    have hr := hrec i o c h1 h3
    unfold RecOk at hr
    split at hr
    · exact ⟨hr.2.2.1, hr.2.2.2.1⟩
    · obtain ⟨_, _, h4, h5, _⟩ := hr
      rw [h4, h5]; exact ⟨(fun p hp => by cases hp), (fun q hq => by cases hq)⟩
  have hupd : ∀ i, i < n → ∀ p ∈ (r i).upd, p.1 < (sS r S i).length := fun i hi p hp => (hup i hi).2 _ ((hup i hi).1 p hp)
  -- two operations whose order is open
  have hopen : ∀ i k, i < k → k < n → (bef.getD k 0).testBit i = false → (∀ q ∈ (wids r S i).map (·.1), q ∉ (r k).rd) ∧ (∀ q ∈ (wids r S k).map (·.1), q ∉ (r i).rd) := by
    intro i k hik hk hb
    have pure0 : ∀ j, j < n → touchB cs' j = false → (r j).rd = [] ∧ (wids r S j) = [] := fun j hj ht => by
      obtain ⟨o, c, h1, _, h3⟩ := hol j hj
      have hr := hrec j o c h1 h3
      simp only [touchB, h3] at ht
      unfold RecOk at hr
      split at hr
      · obtain ⟨e1, e2, e3⟩ := hr.2.2.2.2 ht
        exact ⟨e1, by simp [wids, e2, e3, newU]⟩
      · obtain ⟨_, _, e1, e2, e3⟩ := hr
        exact ⟨e1, by simp [wids, e2, e3, newU]⟩
    by_cases hti : touchB cs' i = true
    · by_cases htk : touchB cs' k = true
      · have hmem : (i, k) ∈ u := by
          rw [← e2]
          simp only [List.mem_filter, unord]
          exact ⟨⟨mem_pairs hik (by omega), by simpa [bef] using hb⟩, by simp [hti, htk]⟩
        have hd := List.all_eq_true.1 hok (i, k) hmem
        have hget : ∀ j, j < n → (([] : List (List Nat × List Nat)) ++ (List.range ops.toList.length).map fun j => frec (r j) (sS r S j).length).getD j ([], []) = ((r j).rd, (wids r S j).map (·.1)) := fun j hj => by
          have : (List.range ops.toList.length)[j]? = some j := List.getElem?_range hj
          rw [List.nil_append, List.getD_eq_getElem?_getD, List.getElem?_map, this]
          simp [frec, wids]
        rw [hget i (by omega), hget k hk] at hd
        simp only [Bool.and_eq_true, disj, List.all_eq_true, Bool.not_eq_true', List.contains_eq_mem, decide_eq_false_iff_not] at hd
        exact hd
      · obtain ⟨e1, e3⟩ := pure0 k hk (by simpa using htk)
        rw [e1, e3]
        exact ⟨(fun q _ hq => by cases hq), (fun q hq => by simp at hq)⟩
    · obtain ⟨e1, e3⟩ := pure0 i (by omega) (by simpa using hti)
      rw [e1, e3]
      exact ⟨(fun q hq => by simp at hq), (fun q _ hq => by cases hq)⟩
  -- two operations whose order is open share no temporary that one of them writes
  have hslot : ∀ i k, i < k → k < n → (bef.getD k 0).testBit i = false → ∀ o c o' c', ops.toList[i]? = some o → cs'[i]? = some c → ops.toList[k]? = some o' → cs'[k]? = some c' →
      (∀ d, o.dst = some d → d ∉ namesOf o' c') ∧ (∀ d, o'.dst = some d → d ∉ namesOf o c) := by
    intro i k hik hk hb o c o' c' h1 h2 h3 h4
    have hmem : (i, k) ∈ unord ops.size bef := by
      simp only [List.mem_filter, unord]
      exact ⟨mem_pairs hik (by omega), by simpa using hb⟩
    have hd := List.all_eq_true.1 hslots (i, k) hmem
    simp only [h1, h2, h3, h4, apartB, Bool.and_eq_true] at hd
    refine ⟨fun d hd' => ?_, fun d hd' => ?_⟩
    · have := hd.1; rw [hd'] at this; simpa using this
    · have := hd.2; rw [hd'] at this; simpa using this
  -- the state behind the operations that are done
  let N := (sS r S n).length
  have inv : ∀ (fuel : Nat) (listed : Array Bool) (tmD : List AV) (SD : List AObj) (G : Gh) (a : Act) (w : World), listed.size = n → listed.toList.countP (fun b => !b) ≤ fuel →
      (∀ i, i < n → listed.getD i false = true → ∀ e ∈ (ops.toList[i]?).elim [] dirs, listed.getD e false = true) →
      tmD.length = tm.length → (∀ t, t < tm.length → tmD[t]? = orW (lastW (fun i => listed.getD i false) (fT dst r t) n) tm[t]?) →
      SD.length = N → (∀ q, q < N → SD[q]? = some ((orW (lastW (fun i => listed.getD i false) (fS r S q) n) S[q]?).getD .dead)) →
      Cz G0 S0 w0 tmD SD G a w → wpAny P .any ops Q fuel listed a w := by
    -- all are done
    have fin : ∀ (listed : Array Bool) (tmD : List AV) (SD : List AObj) (G : Gh) (a : Act) (w : World), (∀ i, i < n → listed.getD i false = true) → tmD.length = tm.length →
        (∀ t, t < tm.length → tmD[t]? = orW (lastW (fun i => listed.getD i false) (fT dst r t) n) tm[t]?) → SD.length = N → (∀ q, q < N → SD[q]? = some ((orW (lastW (fun i => listed.getD i false) (fS r S q) n) S[q]?).getD .dead)) →
        Cz G0 S0 w0 tmD SD G a w → Q .normal a w := by
      intro listed tmD SD G a w hall htl ht hsl hs hz
      have e1 : tmD = sT dst r tm n := by
        apply List.ext_getElem?
        intro t
        by_cases hlt : t < tm.length
        · rw [ht t hlt, sT_at, if_pos hlt, lastW_congr (D' := fun _ => true) fun i hi _ => hall i hi]
        · rw [List.getElem?_eq_none (by omega), List.getElem?_eq_none (by rw [sT_length]; omega)]
      have e2 : SD = sS r S n := by
        apply List.ext_getElem?
        intro q
        by_cases hlt : q < N
        · have h1 := sS_at (r := r) (S := S) n hupd q
          have h2 := List.getElem?_eq_getElem (show q < (sS r S n).length from hlt)
          rw [hs q hlt, lastW_congr (D' := fun _ => true) fun i hi _ => hall i hi, ← h1, h2]; rfl
        · rw [List.getElem?_eq_none (by omega), List.getElem?_eq_none (by show N ≤ q; omega)]
      subst e1 e2
      exact hQ _ _ _ _ _ hz hfin
    -- none may come up: all are done
    have allDone : ∀ (listed : Array Bool), listed.size = n → Region.ready .any ops listed = [] → ∀ i, i < n → listed.getD i false = true := by
      intro listed hsz hr i
      induction i using Nat.strongRecOn with
      | _ i ihi =>
        intro hi
        obtain ⟨o, c, h1, h2, h3⟩ := hol i hi
        cases hb : listed.getD i false with
        | true => rfl
        | false =>
          exfalso
          have hmem : i ∈ Region.ready .any ops listed := by
            simp only [Region.ready, List.mem_filter, List.mem_range]
            refine ⟨by omega, ?_⟩
            have hb' : listed.getD i true = false := by
              simp only [Array.getD_eq_getD_getElem?] at hb ⊢
              rw [Array.getElem?_eq_getElem (show i < listed.size by omega)] at hb ⊢
              exact hb
            rw [hb', h2]
            simp only [Bool.not_false, Bool.true_and, Option.map_some, Option.getD_some]
            rw [Array.all_eq_true]
            intro k hk
            by_cases hbind : Region.binds .any o.after[k] = true
            · have hd : o.after[k].on ∈ dirs o := by
                simp only [dirs, List.mem_map, List.mem_filter]
                exact ⟨o.after[k], ⟨by simp, hbind⟩, rfl⟩
              have hz0 := List.all_eq_true.1 hdir (o, i) (by
                rw [List.mem_zipIdx_iff_getElem?]; exact h1)
              have hlt := List.all_eq_true.1 hz0 _ hd
              have hlt' : o.after[k].on < i := by simpa using hlt
              rw [ihi _ hlt' (by omega)]; simp
            · simp [hbind]
          rw [hr] at hmem; cases hmem
    have readyOf : ∀ (listed : Array Bool) (j : Nat), listed.size = n → j ∈ Region.ready .any ops listed → j < n ∧ listed[j]? = some false ∧ ∀ e ∈ (ops.toList[j]?).elim [] dirs, listed.getD e false = true := by
      intro listed j hsz hj
      simp only [Region.ready, List.mem_filter, List.mem_range, Bool.and_eq_true] at hj
      obtain ⟨hj1, hj2, hj3⟩ := hj
      obtain ⟨o, c, h1, h2, h3⟩ := hol j (by omega)
      refine ⟨by omega, ?_, ?_⟩
      · have := Array.getElem?_eq_getElem (show j < listed.size by omega)
        rw [this]
        simp only [Array.getD_eq_getD_getElem?, this, Option.getD_some] at hj2
        simpa using hj2
      · rw [h2] at hj3
        simp only [Option.map_some, Option.getD_some, Array.all_eq_true] at hj3
        rw [h1]
        intro e he
        simp only [Option.elim, dirs, List.mem_map, List.mem_filter] at he
        obtain ⟨ed, ⟨hm, hb⟩, rfl⟩ := he
        obtain ⟨k, hk, rfl⟩ := List.getElem_of_mem hm
        have := hj3 k (by simpa using hk)
        simp only [Array.getElem_toList] at hb ⊢
        rw [hb] at this
        simpa using this
    intro fuel
    induction fuel with
    | zero =>
      intro listed tmD SD G a w hsz hcnt _ htl ht hsl hs hz
      have hall : ∀ i, i < n → listed.getD i false = true := by
        intro i hi
        have h0 : listed.toList.countP (fun b => !b) = 0 := by omega
        rw [List.countP_eq_zero] at h0
        have hg := Array.getElem?_eq_getElem (show i < listed.size by omega)
        have := h0 listed[i] (by simp)
        simp only [Array.getD_eq_getD_getElem?, hg, Option.getD_some]
        simpa using this
      refine ⟨?_, fin listed tmD SD G a w hall htl ht hsl hs hz⟩
      cases hr : Region.ready .any ops listed with
      | nil => rfl
      | cons j rest =>
        obtain ⟨h1, h2, _⟩ := readyOf listed j hsz (by rw [hr]; simp)
        have := hall j h1
        simp [h2] at this
    | succ fuel ih =>
      intro listed tmD SD G a w hsz hcnt hcl htl ht hsl hs hz
      refine ⟨fun hr => fin listed tmD SD G a w (allDone listed hsz hr) htl ht hsl hs hz, fun j hj => ?_⟩
      obtain ⟨hjn, hjf, hjd⟩ := readyOf listed j hsz hj
      obtain ⟨o, c, h1, h2, h3⟩ := hol j hjn
      rw [h1] at hjd
      simp only [Option.elim] at hjd
      let D : Nat → Bool := fun i => listed.getD i false
      have hDj : D j = false := by simp [D, hjf]
      -- order
      have before_ : ∀ i, i < j → (bef.getD j 0).testBit i = true → D i = true := by
        intro i hij hb
        have := befL_closed (fun i => D i = true ∨ i = j) ops.toList [] (fun k o' ho hD e he => by
          left
          simp only [List.length_nil, Nat.zero_add] at hD
          rcases hD with hD | rfl
          · have hk : k < n := (List.getElem?_eq_some_iff.1 ho).1
            have := hcl k hk hD e; rw [ho] at this; exact this he
          · rw [h1] at ho; injection ho with ho; subst ho; exact hjd e he) (fun k hk => by simp at hk) j (by simp; omega) (.inr rfl) i hb
        rcases this with h | h
        · exact h
        · omega
      have after_ : ∀ i, j < i → i < n → (bef.getD i 0).testBit j = true → D i = false := by
        intro i hji hi hb
        cases hD : D i with
        | false => rfl
        | true =>
          have := befL_closed (fun i => D i = true) ops.toList [] (fun k o' ho hD e he => by
            simp only [List.length_nil, Nat.zero_add] at hD
            have hk : k < n := (List.getElem?_eq_some_iff.1 ho).1
            have := hcl k hk hD e; rw [ho] at this; exact this he) (fun k hk => by simp at hk) i (by simp; omega) hD j hb
          rw [hDj] at this; cases this
      -- the temporaries that the operation names
      have htmp : ∀ t, t ∈ namesOf o c → (∀ i, i < j → fT dst r t i ≠ none → D i = true) ∧ ∀ i, j < i → i < n → fT dst r t i ≠ none → D i = false := by
        intro t htn
        have hdst : ∀ i, fT dst r t i ≠ none → dst i = some t := fun i hi => by
          unfold fT at hi
          by_cases e : dst i = some t
          · exact e
          · simp [e] at hi
        refine ⟨fun i hij hi => ?_, fun i hji hi hne => ?_⟩
        · have hd := hdst i hi
          obtain ⟨o', c', g1, g1', g3⟩ := hol i (by omega)
          have hd' : o'.dst = some t := by simpa [dst, g1'] using hd
          cases hb : (bef.getD j 0).testBit i with
          | true => exact before_ i hij hb
          | false => exact ((hslot i j hij hjn hb o' c' o c g1 g3 h1 h3).1 t hd' htn).elim
        · have hd := hdst i hne
          obtain ⟨o', c', g1, g1', g3⟩ := hol i hi
          have hd' : o'.dst = some t := by simpa [dst, g1'] using hd
          cases hb : (bef.getD i 0).testBit j with
          | true => exact after_ i hji hi hb
          | false => exact ((hslot j i hji hi hb o c o' c' h1 h3 g1 g3).2 t hd' htn).elim
      have hsame : ∀ t, t ∈ namesOf o c → tmD[t]? = (sT dst r tm j)[t]? := by
        intro t htn
        obtain ⟨q1, q2⟩ := htmp t htn
        rw [sT_at]
        by_cases hlt : t < tm.length
        · rw [if_pos hlt, ht t hlt, lastW_cut (j := j) (by omega) (fun i hi1 hi2 hne => by
            by_cases e : i = j
            · subst e; exact hDj
            · exact q2 i (by omega) hi2 hne), lastW_congr (D' := fun _ => true) fun i hi hne => q1 i hi hne]
        · rw [if_neg hlt, List.getElem?_eq_none (by omega)]
      have hev : ∀ x ∈ o.op.operands, ev tmD x = ev (sT dst r tm j) x := by
        intro x hx
        cases x with
        | tmp t =>
          have : t ∈ namesOf o c := by
            simp only [namesOf, tmpsOf, List.mem_append, List.mem_filterMap]
            left; left
            exact ⟨.tmp t, by simpa using hx, rfl⟩
          simp only [ev, List.getD_eq_getElem?_getD, hsame t this]
        | _ => rfl
      -- the store's places that the operation touches
      have hplace : ∀ q, (q ∈ (r j).rd ∨ q ∈ (wids r S j).map (·.1)) → (∀ i, j < i → i < n → fS r S q i ≠ none → D i = false) := by
        intro q hq i hji hi hne
        have hqi : q ∈ (wids r S i).map (·.1) := by
          unfold fS at hne
          by_cases e : q ∈ (wids r S i).map (·.1)
          · exact e
          · simp [e] at hne
        cases hb : (bef.getD i 0).testBit j with
        | true => exact after_ i hji hi hb
        | false =>
          exfalso
          obtain ⟨g1, g2⟩ := hopen j i hji hi hb
          rcases hq with hq | hq
          · exact g2 q hqi hq
          · -- both turn or fill q
            simp only [wids, List.map_append, List.mem_append, List.mem_map] at hqi
            rcases hqi with ⟨p, hp, rfl⟩ | ⟨p, hp, rfl⟩
            · exact g1 _ hq ((hup i hi).1 p hp)
            · have h5 := (newU_mem hp).1
              have h6 := wids_lt (hupd j hjn) hq
              have h7 := sS_mono (r := r) (S := S) (j + 1) i (by omega)
              omega
      have hrdlt : ∀ q ∈ (r j).rd, q < (sS r S j).length := (hup j hjn).2
      have hNle : ∀ i, i ≤ n → (sS r S i).length ≤ N := fun i hi => sS_mono i n hi
      have hread : ∀ q ∈ (r j).rd, SD[q]? = (sS r S j)[q]? := by
        intro q hq
        have hlt := hrdlt q hq
        have hltN : q < N := Nat.lt_of_lt_of_le hlt (hNle j (by omega))
        have hpl := hplace q (.inl hq)
        have e1 : lastW D (fS r S q) n = lastW (fun _ => true) (fS r S q) j := by
          rw [lastW_cut (j := j) (by omega) (fun i hi1 hi2 hne => by
            by_cases e : i = j
            · subst e; exact hDj
            · exact hpl i (by omega) hi2 hne)]
          refine lastW_congr fun i hi hne => ?_
          have hqi : q ∈ (wids r S i).map (·.1) := by
            unfold fS at hne
            by_cases e : q ∈ (wids r S i).map (·.1)
            · exact e
            · simp [e] at hne
          cases hb : (bef.getD j 0).testBit i with
          | true => exact before_ i hi hb
          | false => exact ((hopen i j hi hjn hb).1 q hqi hq).elim
        have e2 := sS_at (r := r) (S := S) j (fun i hi => hupd i (by omega)) q
        rw [hs q hltN]
        show some ((orW (lastW D (fS r S q) n) S[q]?).getD .dead) = _
        rw [e1, ← e2, List.getElem?_eq_getElem hlt]; rfl
      have hfree : ∀ p ∈ newU (sS r S j).length (r j).new, SD[p.1]? = some .dead := by
        intro p hp
        obtain ⟨g1, g2, _⟩ := newU_mem hp
        have hw : p.1 ∈ (wids r S j).map (·.1) := by simp only [wids, List.map_append, List.mem_append, List.mem_map]; exact .inr ⟨p, hp, rfl⟩
        have hltN : p.1 < N := Nat.lt_of_lt_of_le (wids_lt (hupd j hjn) hw) (hNle (j + 1) (by omega))
        have hpl := hplace p.1 (.inr hw)
        have e1 : lastW D (fS r S p.1) n = none := lastW_none fun i hi hD => by
          cases hne : fS r S p.1 i with
          | none => rfl
          | some x =>
            exfalso
            have hqi : p.1 ∈ (wids r S i).map (·.1) := by
              unfold fS at hne
              by_cases e : p.1 ∈ (wids r S i).map (·.1)
              · exact e
              · simp [e] at hne
            rcases Nat.lt_trichotomy i j with h | h | h
            · have h6 := wids_lt (hupd i hi) hqi
              have h7 := sS_mono (r := r) (S := S) (i + 1) j (by omega)
              omega
            · subst h; rw [hDj] at hD; cases hD
            · have := hpl i h hi (by rw [hne]; simp)
              rw [this] at hD; cases hD
        rw [hs p.1 hltN]
        show some ((orW (lastW D (fS r S p.1) n) S[p.1]?).getD .dead) = _
        have h0 := sS_mono (r := r) (S := S) 0 j (by omega)
        simp only [sS] at h0
        rw [e1, List.getElem?_eq_none (by omega)]; rfl
      -- what is left is done likewise
      have next : ∀ (G' : Gh) (a' : Act) (w' : World), Cz G0 S0 w0 (setD tmD o.dst (r j).v) (updL SD (wids r S j)) G' a' w' → wpAny P .any ops Q fuel (listed.setIfInBounds j true) a' w' := by
        intro G' a' w' hz'
        have hDn : ∀ i, (listed.setIfInBounds j true).getD i false = if i = j then true else D i := by
          intro i
          by_cases e : i = j
          · subst e; simp [show i < listed.size by omega]
          · simp only [e, if_false, D, Array.getD_eq_getD_getElem?, Array.getElem?_setIfInBounds_ne (Ne.symm e)]
        refine ih _ _ _ G' a' w' (by simp [hsz]) ?_ (fun i hi hD e he => ?_) ?_ (fun t htl' => ?_) (by simp [hsl]) (fun q hq => ?_) hz'
        · have := list_set_bool (l := listed.toList) (i := j) (by simpa using hjf)
          simp only [Array.toList_setIfInBounds]; omega
        · rw [hDn] at hD ⊢
          split
          · rfl
          · by_cases e' : i = j
            · subst e'; rw [h1] at he; exact hjd e he
            · rw [if_neg e'] at hD; exact hcl i hi hD e he
        · cases ho : o.dst <;> simp [setD, htl]
        · have hcongr : ∀ f : Nat → Option AV, f j = none → lastW (fun i => (listed.setIfInBounds j true).getD i false) f n = lastW D f n := fun f hf => lastW_congr fun i hi hne => by
            rw [hDn]; split
            · rename_i e; subst e; exact (hne hf).elim
            · rfl
          have hdj : dst j = o.dst := by simp [dst, h2]
          by_cases hd : o.dst = some t
          · have hf : fT dst r t j = some (r j).v := by simp [fT, hdj, hd]
            have htn : t ∈ namesOf o c := by simp [namesOf, hd]
            rw [lastW_top (j := j) (v := (r j).v) hjn (by simp [hDn]) hf (fun i h5 h6 h7 => by rw [hDn, if_neg (by omega)]; exact (htmp t htn).2 i h5 h6 h7)]
            simp [setD, hd, orW, htl, htl']
          · have hf : fT dst r t j = none := by simp [fT, hdj, hd]
            rw [hcongr _ hf]
            show _ = orW (lastW (fun i => listed.getD i false) (fT dst r t) n) tm[t]?
            rw [← ht t htl']
            cases ho : o.dst with
            | none => rfl
            | some d => simp only [setD]; rw [List.getElem?_set_ne]; rintro rfl; exact hd ho
        · by_cases hqw : q ∈ (wids r S j).map (·.1)
          · have hlt := wids_lt (hupd j hjn) hqw
            have hf : fS r S q j = some ((sS r S (j + 1))[q]'hlt) := by simp [fS, hqw]
            rw [lastW_top (j := j) hjn (by simp [hDn]) hf (fun i h5 h6 h7 => by rw [hDn, if_neg (by omega)]; exact hplace q (.inr hqw) i h5 h6 h7)]
            have hst := sS_step (r := r) (S := S) j (hupd j hjn)
            have e3 := updL_same SD (sS r S j ++ List.replicate (r j).new.length .dead) (wids r S j) hqw (by omega) (by simp only [List.length_append, List.length_replicate]; simp only [sS, List.length_append, updL_length] at hlt; exact hlt)
            rw [e3, hst, List.getElem?_eq_getElem hlt]; rfl
          · have hf : fS r S q j = none := by simp [fS, hqw]
            rw [updL_other _ _ _ hqw, hs q hq]
            congr 3
            refine lastW_congr fun i hi hne => ?_
            rw [hDn]; split
            · rename_i e; subst e; exact (hne hf).elim
            · rfl
      obtain ⟨_, hg⟩ := hat j o c h1 h3
      have hr := hrec j o c h1 h3
      have hwant := wanted_of (ops := ops) hz hg (fun t wn e => by
        have : t ∈ namesOf o c := by simp [namesOf, e]
        simp only [List.getD_eq_getElem?_getD, hsame t this]; rfl) hr
      unfold wpOp
      rw [h2]
      simp only [hwant]
      unfold RecOk at hr
      cases hran : (r j).ran with
      | true =>
        rw [hran, if_pos rfl] at hr
        obtain ⟨_, he, hu, hrd, _⟩ := hr
        simp only [if_true]
        left
        refine he SD hread hfree G a w hz.left.wd (fun x hx => by rw [← hev x hx]; exact hz.ev x) _ _ fun v' w' G' hv hl => next G' _ w' ?_
        exact hz.put hl hv o.dst
      | false =>
        rw [hran, if_neg (by simp)] at hr
        obtain ⟨_, hv, hrd, hu, hnw⟩ := hr
        simp only [Bool.false_eq_true, if_false]
        refine next G _ w ?_
        have := hz.put (Left.refl hz.left.wd) (x := .lit undef) (v := undef) (.lit _) o.dst
        rw [← hv] at this
        have e0 : wids r S j = [] := by simp [wids, hu, hnw, newU]
        rw [e0, updL_nil]; exact this
  have hSN : S.length ≤ N := sS_mono (r := r) (S := S) 0 n (by omega)
  have hLD : ∀ {α : Type} (f : Nat → Option α), lastW (fun i => (Array.replicate ops.size false).getD i false) f n = none := by
    intro α f
    refine lastW_none fun i hi hD => ?_
    have hlt : i < ops.size := by omega
    simp [hlt] at hD
  have hD0 := Left.dead hz.left.wd (N - S.length)
  have hzD : Cz G0 S0 w0 tm (S ++ List.replicate (N - S.length) .dead) G a { w with drawn := w.drawn + 1 } := by
    have hl := hz.left.trans hD0
    refine ⟨⟨hl.le, hl.wd.drawn rfl, ⟨hl.kept.os, hl.kept.tape, hl.kept.output, hl.kept.size, hl.kept.block⟩, hl.own, hl.still⟩, hz.size, hz.rep, hz.defers, hz.wd0⟩
  refine wp_region_any hmix (inv ops.size (Array.replicate ops.size false) tm (S ++ List.replicate (N - S.length) .dead) G a _ (by simp [hn]) (Nat.le_trans List.countP_le_length (by simp)) (fun i hi h => by
    have : i < ops.size := by omega
    simp [this] at h) rfl (fun t ht => ?_) ?_ (fun q hq => ?_) hzD)
  · rw [hLD]; rfl
  · simp; omega
  · rw [hLD]
    simp only [orW]
    by_cases hlt : q < S.length
    · rw [List.getElem?_append_left hlt, List.getElem?_eq_getElem hlt]; rfl
    · rw [List.getElem?_append_right (by omega), List.getElem?_replicate, if_pos (by omega), List.getElem?_eq_none (show S.length ≤ q by omega)]; rfl
end
end Go.Proofs.Ytnfagphepkeedaa
end
section
namespace Go.Proofs.Ytnfagphepkeedaa

inductive C where
  | skip
  | reg (ops : List RO) (u : List (Nat × Nat))
  | seq (a b : C)
  | cond (c : Operand) (a b : C)
  | block (id : Nat) (c : C)
  | loop (c : C)
  | exit (id : Nat)
  | scope (c : C)
  | label (l : Nat)
  | goto (l : Nat)
  | ret
def compC (P : Program) : Code → Option C
  | .skip => some .skip
  | .region _ ops draw => (compReg P ops draw).map fun p => .reg p.1 p.2
  | .seq a b => match compC P a, compC P b with
    | some x, some y => some (.seq x y)
    | _, _ => none
  | .cond c a b => match compC P a, compC P b with
    | some x, some y => some (.cond c x y)
    | _, _ => none
  | .block id c => (compC P c).map (.block id)
  | .loop c => (compC P c).map .loop
  | .exit id => some (.exit id)
  | .scope c => (compC P c).map .scope
  | .label l => some (.label l)
  | .goto l => some (.goto l)
  | .ret => some .ret
  | _ => none

abbrev QT := Exit → List AV → List AObj → Prop

/-- What is borne so is borne so, too (m: how many objects there were at the beginning). -/
def Wk (m : Nat) (tm : List AV) (S : List AObj) (tm' : List AV) (S' : List AObj) : Prop :=
  ∀ G0 S0 w0 G a w, S0.length = m → Cz G0 S0 w0 tm S G a w → ∃ G', Cz G0 S0 w0 tm' S' G' a w
theorem Wk.refl (m : Nat) (tm : List AV) (S : List AObj) : Wk m tm S tm S := fun _ _ _ G _ _ _ h => ⟨G, h⟩
theorem Wk.trans {m : Nat} {tm tm' tm'' : List AV} {S S' S'' : List AObj} (h : Wk m tm S tm' S') (k : Wk m tm' S' tm'' S'') : Wk m tm S tm'' S'' := fun G0 S0 w0 G a w e hz => by
  obtain ⟨G', h'⟩ := h G0 S0 w0 G a w e hz
  exact k G0 S0 w0 G' a w e h'

/-- Code that bears its meaning. -/
def AC (P : Program) (m : Nat) (code : Code) (tm : List AV) (S : List AObj) (Q : QT) : Prop :=
  ∀ G0 S0 w0 G a w, S0.length = m → Cz G0 S0 w0 tm S G a w → code.wp P (fun e a' w' => ∃ tm' S' G', Cz G0 S0 w0 tm' S' G' a' w' ∧ Q e tm' S') a w

def qThen (k : List AV → List AObj → Prop) (Q : QT) : QT
  | .normal, tm, S => k tm S
  | e, tm, S => Q e tm S
def qBlock (id : Nat) (Q : QT) : QT
  | .exit id', tm, S => if id' = id then Q .normal tm S else Q (.exit id') tm S
  | e, tm, S => Q e tm S

/-- What a piece of code does, seen over abstract values. -/
def aw (P : Program) (m : Nat) : C → List AV → List AObj → QT → Prop
  | .skip, tm, S, Q => Q .normal tm S
  | .reg ops u, tm, S, Q => aReg P ops u [] tm S (Q .normal)
  | .seq a b, tm, S, Q => aw P m a tm S (qThen (fun tm S => aw P m b tm S Q) Q)
  | .cond c a b, tm, S, Q => match ev tm c with
    | .lit (.bool t) => (t = true → aw P m a tm S Q) ∧ (t = false → aw P m b tm S Q)
    | _ => False
  | .block id c, tm, S, Q => aw P m c tm S (qBlock id Q)
  | .loop c, tm, S, Q => ∃ I : Nat → List AV → List AObj → Prop, (∃ n tm' S', Wk m tm S tm' S' ∧ I n tm' S') ∧ ∀ n tm S, I n tm S → aw P m c tm S (qThen (fun tm' S' => ∃ n' tm'' S'', Wk m tm' S' tm'' S'' ∧ I n' tm'' S'' ∧ n' < n) Q)
  | .exit id, tm, S, Q => Q (.exit id) tm S
  | .scope c, tm, S, Q => ∀ code, compC P code = some c → AC P m (.scope code) tm S Q
  | .label _, tm, S, Q => ∃ tm' S', Wk m tm S tm' S' ∧ Q .normal tm' S'
  | .goto l, tm, S, Q => Q (.goto l) tm S
  | .ret, tm, S, Q => Q .ret tm S

theorem aw_sound {P : Program} {m : Nat} : ∀ (code : Code) (c : C), compC P code = some c → ∀ (tm : List AV) (S : List AObj) (Q : QT), aw P m c tm S Q → AC P m code tm S Q := by
  intro code
  induction code with
  | skip =>
    intro c hc tm S Q h G0 S0 w0 G a w hm hz
    simp only [compC] at hc; injection hc with hc; subst hc
    exact wp_skip ⟨_, _, G, hz, h⟩
  | region id ops draw =>
    intro c hc tm S Q h G0 S0 w0 G a w hm hz
    simp only [compC] at hc
    cases hr : compReg P ops draw with
    | none => simp [hr] at hc
    | some p =>
      obtain ⟨cs, u⟩ := p
      simp [hr] at hc; subst hc
      cases draw with
      | true => exact reg_draw hr hz h _ fun tm' S' G' a' w' hz' hq => ⟨_, _, G', hz', hq⟩
      | false =>
        simp only [compReg] at hr
        cases hcs : compOps P ops with
        | none => simp [hcs] at hr
        | some cs' =>
          simp [hcs] at hr
          obtain ⟨rfl, rfl⟩ := hr
          exact reg_text hcs hz h _ fun tm' S' G' a' w' hz' hq => ⟨_, _, G', hz', hq⟩
  | seq a b iha ihb =>
    intro c hc tm S Q h G0 S0 w0 G act w hm hz
    simp only [compC] at hc
    split at hc
    · rename_i x y hx hy
      injection hc with hc; subst hc
      refine wp_seq (wp_mono (iha x hx tm S _ h G0 S0 w0 G act w hm hz) fun e a' w' hq => ?_)
      obtain ⟨tm', S', G', hz', hq⟩ := hq
      cases e with
      | normal => exact ihb y hy tm' S' Q hq G0 S0 w0 G' a' w' hm hz'
      | _ => exact ⟨tm', S', G', hz', hq⟩
    · cases hc
  | cond x a b iha ihb =>
    intro c hc tm S Q h G0 S0 w0 G act w hm hz
    simp only [compC] at hc
    split at hc
    · rename_i x' y hx hy
      injection hc with hc; subst hc
      simp only [aw] at h
      split at h
      · rename_i t ht
        have r := hz.ev x
        rw [ht] at r
        refine wp_cond (rep_bool r) ?_
        cases t with
        | true => exact iha x' hx tm S Q (h.1 rfl) G0 S0 w0 G act w hm hz
        | false => exact ihb y hy tm S Q (h.2 rfl) G0 S0 w0 G act w hm hz
      · exact h.elim
    · cases hc
  | block id b ih =>
    intro c hc tm S Q h G0 S0 w0 G a w hm hz
    simp only [compC] at hc
    cases hb : compC P b with
    | none => simp [hb] at hc
    | some x =>
      simp [hb] at hc; subst hc
      refine wp_block (wp_mono (ih x hb tm S _ h G0 S0 w0 G a w hm hz) fun e a' w' hq => ?_)
      obtain ⟨tm', S', G', hz', hq⟩ := hq
      cases e with
      | exit id' =>
        simp only [qBlock] at hq
        simp only [Exit.inBlock]
        split
        · rename_i e; rw [if_pos e] at hq; exact ⟨tm', S', G', hz', hq⟩
        · rename_i e; rw [if_neg e] at hq; exact ⟨tm', S', G', hz', hq⟩
      | _ => exact ⟨tm', S', G', hz', hq⟩
  | loop b ih =>
    intro c hc tm S Q h G0 S0 w0 G a w hm hz
    simp only [compC] at hc
    cases hb : compC P b with
    | none => simp [hb] at hc
    | some x =>
      simp [hb] at hc; subst hc
      obtain ⟨I, ⟨n0, tm0, S1, hw0, h0⟩, hround⟩ := h
      obtain ⟨G1, hz1⟩ := hw0 G0 S0 w0 G a w hm hz
      -- the measure of a frame is the least of what it bears
      have key : ∀ (n : Nat) (tm : List AV) (S : List AObj) (G : Gh) (a : Act) (w : World), I n tm S → Cz G0 S0 w0 tm S G a w →
          ∀ (b' : Frame) (k : List Item) (cs : List Frame), ∃ e a' w', (∃ tm' S' G', Cz G0 S0 w0 tm' S' G' a' w' ∧ Q e tm' S') ∧ Arrives P (lone (b'.at a (.code b :: .inLoop b :: k)) cs w) b' k cs e a' w' := by
        intro n
        induction n using Nat.strongRecOn with
        | _ n ihn =>
          intro tm S G a w hI hz b' k cs
          obtain ⟨e, a₁, w₁, ⟨tm', S', G', hz', hq⟩, harr⟩ := ih x hb tm S _ (hround n tm S hI) G0 S0 w0 G a w hm hz b' (.inLoop b :: k) cs
          cases e with
          | normal =>
            obtain ⟨n', tm'', S'', hwk, hI', hlt⟩ := hq
            obtain ⟨G'', hz''⟩ := hwk G0 S0 w0 G' a₁ w₁ hm hz'
            obtain ⟨e₂, a₂, w₂, hq₂, harr₂⟩ := ihn n' hlt tm'' S'' G'' a₁ w₁ hI' hz'' b' k cs
            exact ⟨e₂, a₂, w₂, hq₂, .of_steps (Steps.trans harr (.one step_inLoop)) harr₂⟩
          | exit id => exact ⟨_, a₁, w₁, ⟨tm', S', G', hz', hq⟩, .pass (x := .inLoop b) rfl (fun _ _ => .inl (by simp)) harr⟩
          | goto l => exact ⟨_, a₁, w₁, ⟨tm', S', G', hz', hq⟩, .pass (x := .inLoop b) rfl (fun _ _ => .inl (by simp)) harr⟩
          | ret => exact ⟨_, a₁, w₁, ⟨tm', S', G', hz', hq⟩, .pass (x := .inLoop b) rfl (fun _ _ => .inl (by simp)) harr⟩
          | panic ch => exact ⟨_, a₁, w₁, ⟨tm', S', G', hz', hq⟩, .pass (x := .inLoop b) rfl (fun _ _ => .inl (by simp)) harr⟩
          | outgrown => exact ⟨_, a₁, w₁, ⟨tm', S', G', hz', hq⟩, .pass (x := .inLoop b) rfl (fun _ _ => .inl (by simp)) harr⟩
      intro b' k cs
      obtain ⟨e, a', w', hq, harr⟩ := key n0 tm0 S1 G1 a w h0 hz1 b' k cs
      exact ⟨e, a', w', hq, .of_steps (.one step_loop) harr⟩
  | exit id =>
    intro c hc tm S Q h G0 S0 w0 G a w hm hz
    simp only [compC] at hc; injection hc with hc; subst hc
    exact wp_exit ⟨_, _, G, hz, h⟩
  | scope b ih =>
    intro c hc tm S Q h
    simp only [compC] at hc
    cases hb : compC P b with
    | none => simp [hb] at hc
    | some x => simp [hb] at hc; subst hc; exact h b hb
  | label l =>
    intro c hc tm S Q h G0 S0 w0 G a w hm hz
    simp only [compC] at hc; injection hc with hc; subst hc
    obtain ⟨tm', S', hwk, hq⟩ := h
    obtain ⟨G', hz'⟩ := hwk G0 S0 w0 G a w hm hz
    exact wp_label ⟨_, _, G', hz', hq⟩
  | goto l =>
    intro c hc tm S Q h G0 S0 w0 G a w hm hz
    simp only [compC] at hc; injection hc with hc; subst hc
    exact wp_goto ⟨_, _, G, hz, h⟩
  | ret =>
    intro c hc tm S Q h G0 S0 w0 G a w hm hz
    simp only [compC] at hc; injection hc with hc; subst hc
    exact wp_ret ⟨_, _, G, hz, h⟩
  | rangeFunc f ps x y _ _ => intro c hc; simp [compC] at hc
  | refuse s => intro c hc; simp [compC] at hc

/-- Where a function's results stand. -/
inductive RV where
  | tmp (t : Nat)
  | cell (t : Nat) (n : Option Nat)
def compR (P : Program) (fn : Func) : Option (List RV) :=
  optM (fun r : ResultVar => match r with
    | .tmp t => some (.tmp t)
    | .cell a t => (aggO P t).map fun n => .cell a n) fn.results.toList
def loadA (n : Option Nat) (x : AV) (S : List AObj) : Option AV :=
  match x with
  | .iptr cs => match n with
    | none => cs.head?
    | some n => if n ≤ cs.length then some (.agg (cs.take n)) else none
  | .ref i o => match S[i]? with
    | some (.cells xs) => match n with
      | none => xs[o]?
      | some n => if o + n ≤ xs.length then some (.agg ((xs.drop o).take n)) else none
    | _ => none
  | _ => none
def resA1 (tm : List AV) (S : List AObj) : RV → Option AV
  | .tmp t => some (tm.getD t .any)
  | .cell t n => loadA n (tm.getD t .any) S
def resAL (tm : List AV) (S : List AObj) : List RV → Option (List AV)
  | [] => some []
  | r :: rs => match resA1 tm S r, resAL tm S rs with
    | some x, some xs => some (x :: xs)
    | _, _ => none
def oneOr (xs : List AV) : AV := match xs with
  | [x] => x
  | xs => .tup xs

def FinK (P : Program) (m : Nat) (fn : Func) (tm : List AV) (S : List AObj) (r : AV) (S' : List AObj) : Prop :=
  ∀ G0 S0 w0 G a w, S0.length = m → Cz G0 S0 w0 tm S G a w → ∃ v G', (results fn a.tmps).run P w = .ok v w ∧ Rep G' r v ∧ Left G0 S0 w0 G' S' w

theorem FinK.wk {P : Program} {m : Nat} {fn : Func} {tm tm' : List AV} {S S' S'' : List AObj} {r : AV} (h : Wk m tm S tm' S') (k : FinK P m fn tm' S' r S'') : FinK P m fn tm S r S'' := fun G0 S0 w0 G a w e hz => by
  obtain ⟨G', h'⟩ := h G0 S0 w0 G a w e hz
  exact k G0 S0 w0 G' a w e h'

theorem run_loadA {P : Program} {t : TypeId} {n : Option Nat} (hn : aggO P t = some n) {G : Gh} {S : List AObj} {w : World} (hw : Wd G S w) {x y : AV} {v : Value} (h : loadA n x S = some y) (r : Rep G x v) :
    ∃ ad u, v = .pointer (some ad) ∧ (loadVar t ad).run P w = .ok u w ∧ Rep G y u := by
  unfold loadA at h
  split at h
  · rename_i cs
    cases r with
    | @iptr _ b off vs h1 h2 h3 =>
      refine ⟨⟨b, off, none⟩, ?_⟩
      cases n with
      | none =>
        cases cs with
        | nil => simp at h
        | cons c cs =>
          simp at h; subst h
          have h0 := hw.imm _ _ _ (h1 0 (by simp))
          exact ⟨_, rfl, run_loadVar_one hn (by simpa using h0), h3 0 _ (by simp)⟩
      | some n =>
        simp only at h
        split at h
        · rename_i hle
          injection h with h; subst h
          refine ⟨_, rfl, run_loadVar_agg hn vs fun j hj => by rw [add_none]; exact hw.imm _ _ _ (h1 j (by omega)), rep_agg_range vs (by simp; omega) (fun j hj => h2 j (by omega)) fun j y hy => h3 j y ?_⟩
          rw [List.getElem?_take] at hy; split at hy <;> simp_all
        · cases h
  · rename_i i off
    cases r with
    | @ref _ _ b hb =>
      refine ⟨⟨b, off, none⟩, ?_⟩
      split at h
      · rename_i xs hS
        obtain ⟨b', cs, t', g1, g2, g3, g4, _⟩ := hw.obj i xs hS
        rw [hb] at g1; injection g1 with g1; subst g1
        cases n with
        | none =>
          have hlt : off < cs.size := by rw [g3]; exact (List.getElem?_eq_some_iff.1 h).1
          have hc : cs[off]? = some cs[off] := Array.getElem?_eq_getElem hlt
          exact ⟨_, rfl, run_loadVar_one hn ((cell_at g2 off).trans hc), (g4 off y _ h hc).2⟩
        | some n =>
          simp only at h
          split at h
          · rename_i hle
            injection h with h; subst h
            have hc : ∀ j, j < n → cs[off + j]? = some (cs.getD (off + j) undef) := fun j hj => by
              rw [Array.getElem?_eq_getElem (show off + j < cs.size by omega)]; simp [show off + j < cs.size by omega]
            refine ⟨_, rfl, run_loadVar_agg hn (fun j => cs.getD (off + j) undef) fun j hj => by rw [add_none]; exact (cell_at g2 _).trans (hc j hj), rep_agg_range _ (by simp; omega) (fun j hj => ?_) fun j y hy => ?_⟩
            · exact (g4 (off + j) _ _ (List.getElem?_eq_getElem (show off + j < xs.length by omega)) (hc j hj)).1
            · have hjn : j < n := by
                rcases Nat.lt_or_ge j n with h | h
                · exact h
                · rw [List.getElem?_take, if_neg (by omega)] at hy; cases hy
              refine (g4 (off + j) y _ ?_ (hc j hjn)).2
              rw [List.getElem?_take, if_pos hjn, List.getElem?_drop] at hy; exact hy
          · cases h
      · cases h
  · cases h

theorem run_results {P : Program} {fn : Func} {rv : List RV} (hr : compR P fn = some rv) {tm : List AV} {S : List AObj} {xs : List AV} (h : resAL tm S rv = some xs) {G0 : Gh} {S0 : List AObj} {w0 : World} {G : Gh} {a : Act} {w : World} (hz : Cz G0 S0 w0 tm S G a w) :
    ∃ v, (results fn a.tmps).run P w = .ok v w ∧ Rep G (oneOr xs) v := by
  obtain ⟨F, hF⟩ : ∃ F : ResultVar → Sem Value, F = (fun r => match r with
      | .tmp t => pure (a.tmps.getD t undef)
      | .cell q t => do loadVar t (← asAddr (a.tmps.getD q undef))) := ⟨_, rfl⟩
  have hFt : ∀ t, F (.tmp t) = pure (a.tmps.getD t undef) := fun t => by rw [hF]
  have hFc : ∀ q t, F (.cell q t) = (do loadVar t (← asAddr (a.tmps.getD q undef)) : Sem Value) := fun q t => by rw [hF]
  have key : ∀ (rs : List ResultVar) (rv : List RV) (xs : List AV), optM (fun r : ResultVar => match r with
    | .tmp t => some (.tmp t)
    | .cell a t => (aggO P t).map fun n => .cell a n) rs = some rv → resAL tm S rv = some xs → ∃ vs : List Value, (rs.mapM F).run P w = .ok vs w ∧ RepL G xs vs := by
    intro rs
    induction rs with
    | nil => intro rv xs h1 h2; simp [optM] at h1; subst h1; simp [resAL] at h2; subst h2; exact ⟨[], by simp, RepL.nil _⟩
    | cons r rs ih =>
      intro rv xs h1 h2
      simp only [optM] at h1
      split at h1
      · rename_i y ys hy hys
        injection h1 with h1; subst h1
        simp only [resAL] at h2
        split at h2
        · rename_i x xs' hx hxs
          injection h2 with h2; subst h2
          obtain ⟨vs, hv, hrep⟩ := ih ys xs' hys hxs
          cases r with
          | tmp t =>
            injection hy with hy; subst hy
            simp only [resA1] at hx
            injection hx with hx; subst hx
            have := hz.ev (.tmp t)
            simp only [ev, Act.eval] at this
            exact ⟨_, by rw [List.mapM_cons]; simp only [Sem.run_bind, hFt, Sem.run_pure, Result.andThen_ok, hv], RepL.cons this hrep⟩
          | cell q t =>
            simp only at hy
            cases hn : aggO P t with
            | none => simp [hn] at hy
            | some n =>
              simp [hn] at hy; subst hy
              simp only [resA1] at hx
              have := hz.ev (.tmp q)
              simp only [ev, Act.eval] at this
              obtain ⟨ad, u, e1, e2, e3⟩ := run_loadA (P := P) hn hz.left.wd hx this
              refine ⟨u :: vs, ?_, RepL.cons e3 hrep⟩
              rw [List.mapM_cons]
              simp only [Sem.run_bind, hFc, e1, asAddr, Sem.run_pure, Result.andThen_ok, e2, hv]
        · cases h2
      · cases h1
  obtain ⟨vs, hv, hrep⟩ := key fn.results.toList rv xs hr h
  have hm : (fn.results.mapM F).run P w = .ok vs.toArray w := by
    rw [Array.mapM_eq_mapM_toList]
    simp only [Sem.run_map, hv, Result.andThen_ok]
  have e : results fn a.tmps = (do let vs ← fn.results.mapM F; pure (if h : vs.size = 1 then vs[0] else .tuple vs)) := by rw [hF]; rfl
  rw [e]
  simp only [Sem.run_bind, hm, Result.andThen_ok, Sem.run_pure]
  refine ⟨_, rfl, ?_⟩
  match xs, vs, hrep with
  | [x], [v], hrep => exact hrep.2 0 x v rfl rfl
  | [], [], _ => exact .tup rfl (fun j x v h => by simp at h)
  | x :: y :: xs, v :: u :: vs, hrep =>
    have : ¬ (v :: u :: vs).toArray.size = 1 := by simp
    rw [dif_neg this]
    exact .tup (by simpa using hrep.1) (fun j x v hx hv => hrep.2 j x v hx (by simpa using hv))
  | [], _ :: _, hrep => simpa using hrep.1
  | _ :: _, [], hrep => simpa using hrep.1
  | [_], _ :: _ :: _, hrep => simpa using hrep.1
  | _ :: _ :: _, [_], hrep => simpa using hrep.1

/-- The results, the store as it is. -/
theorem FinK.res {P : Program} {m : Nat} {fn : Func} {rv : List RV} (hr : compR P fn = some rv) {tm : List AV} {S : List AObj} {xs : List AV} (h : resAL tm S rv = some xs) : FinK P m fn tm S (oneOr xs) S := fun G0 S0 w0 G a w _ hz => by
  obtain ⟨v, h1, h2⟩ := run_results hr h hz
  exact ⟨v, G, h1, h2, hz.left⟩

/-- The store told in a smaller one. -/
theorem FinK.sel {P : Program} {m : Nat} {fn : Func} {tm : List AV} {S S' : List AObj} {r r' : AV} (h : FinK P m fn tm S r' S) (ids : List Nat) (hn : ids.Nodup) (hl : ids.length = S'.length) (hm : m ≤ S'.length)
    (hp : ∀ (k i : Nat), k < m → ids[k]? = some i → i = k) (hT : ∀ (k : Nat) (o : AObj), S'[k]? = some o → ∃ i, ids[k]? = some i ∧ S[i]? = some (o.ren (ixs ids S.length))) (hr : r.ren (ixs ids S.length) = r') : FinK P m fn tm S r S' := fun G0 S0 w0 G a w e hz => by
  obtain ⟨v, G', hv, hrep, hs⟩ := h G0 S0 w0 G a w e hz
  have hD : ∀ (k i : Nat), S'.length ≤ k → ids[k]? = some i → S[i]? = some .dead := fun k i hk hi => by
    rw [List.getElem?_eq_none (by omega)] at hi; cases hi
  obtain ⟨hwd, hblk⟩ := Wd.pull hs.wd ids hn (by omega) hT hD
  have hid : ∀ k, k < m → ixs ids S.length k = k := fun k hk => by
    have e : ids[k]? = some (ids[k]'(by omega)) := by simp
    rw [ixs_get e]; exact hp k _ hk e
  have hw0 : ∀ i, m ≤ i → G0.loc i = none ∧ ∀ n, G0.hist i n = none := fun i hi => hz.wd0.dom i (.inl (List.getElem?_eq_none (by omega)))
  refine ⟨v, _, hv, hrep.pull r hr, ⟨⟨hs.le.imm, fun i b hb => ?_, fun i n u hb => ?_⟩, hwd, hs.kept, fun i b hb => ?_, hs.still⟩⟩
  · have hi : i < m := by
      rcases Nat.lt_or_ge i m with h | h
      · exact h
      · rw [(hw0 i h).1] at hb; cases hb
    show G'.loc (ixs ids S.length i) = _
    rw [hid i hi]; exact hs.le.loc i b hb
  · have hi : i < m := by
      rcases Nat.lt_or_ge i m with h | h
      · exact h
      · rw [(hw0 i h).2] at hb; cases hb
    show G'.hist (ixs ids S.length i) n = _
    rw [hid i hi]; exact hs.le.hist i n u hb
  · rcases hblk i with h | h
    · rw [h] at hb; cases hb
    · rw [h] at hb; exact hs.own _ b hb

theorem Does.body {P : Program} {f : FuncId} {fn : Func} {code : Code} {c : C} {args : List AV} {S : List AObj} {r : AV} {S' : List AObj} (hf : P.funcs[f]? = some fn) (hb : fn.body = some code) (hname : (fn.name == "runtime.NumGoroutine") = false) (hc : compC P code = some c)
    (h : aw P S.length c (args ++ List.replicate (fn.ntmps - args.length) .any) S fun e tm S1 => (e = .ret ∨ e = .normal) ∧ FinK P S.length fn tm S1 r S') : Does P f args S r S' := by
  refine ⟨⟨fn, hf, by simp [hb], hname⟩, fun G w vs hw hr => ?_⟩
  refine calls_of_wp hf hb ?_
  have hsz : vs.size = args.length := by simpa using hr.1.symm
  have hz : Cz G S w (args ++ List.replicate (fn.ntmps - args.length) .any) S G { tmps := vs ++ Array.replicate (fn.ntmps - vs.size) undef, defers := [] } w := by
    refine ⟨Left.refl hw, by simp [hsz], fun t x v hx hv => ?_, rfl, hw⟩
    rw [List.getElem?_append] at hx
    split at hx
    · rename_i ht
      simp only [Array.getElem?_append] at hv
      rw [if_pos (by omega)] at hv
      exact hr.2 t x v hx (by simpa using hv)
    · rw [List.getElem?_replicate] at hx
      split at hx
      · injection hx with hx; subst hx; exact .any v
      · cases hx
  refine wp_mono (aw_sound code c hc _ S _ h G S w G _ w rfl hz) fun e a' w' hq => ?_
  obtain ⟨tm', S1, G', hz', he, hfin⟩ := hq
  obtain ⟨v, G'', hv, hrep, hleft⟩ := hfin G S w G' a' w' rfl hz'
  rcases he with rfl | rfl
  · exact ⟨hz'.defers, v, hv, v, G'', rfl, hrep, hleft⟩
  · exact ⟨hz'.defers, v, hv, v, G'', rfl, hrep, hleft⟩

end Go.Proofs.Ytnfagphepkeedaa
end
section
namespace Go.Proofs.Ytnfagphepkeedaa
-- operations as the code texts write them
def zM (a d : Nat) : RO := (none, .mov (.tmp a), some d)
def zV (v : Value) (d : Nat) : RO := (none, .mov (.const v), some d)
def zF (o a d : Nat) : RO := (none, .fadr o (.tmp a), some d)
def zL (a d : Nat) : RO := (none, .load none (.tmp a), some d)
def zN (n a d : Nat) : RO := (none, .load (some n) (.tmp a), some d)
def zS (n a b : Nat) : RO := (none, .store n (.tmp a) (.tmp b), none)
def zC (f : FuncId) (xs : List Nat) (d : Nat) : RO := (none, .call (.func f) (xs.map .tmp), some d)
def zE (a i d : Nat) : RO := (none, .ext (.tmp a) i, some d)
def zU (a d : Nat) : RO := (none, .len false (.tmp a), some d)
def zB (op : BinOp) (a b d : Nat) : RO := (none, .bin op (.tmp a) (.tmp b), some d)
def zI (op : BinOp) (a : Nat) (n : Int) (d : Nat) : RO := (none, .bin op (.tmp a) (.const (.int .i64 n)), some d)
def zJ (k a i d : Nat) : RO := (none, .iadr k (.tmp a) (.tmp i), some d)
def zG (t : Nat) (w : Bool) (r : RO) : RO := (some (t, w), r.2)
theorem zG_eq (t : Nat) (w : Bool) (g : Option (Nat × Bool)) (r : I × Option Nat) : zG t w (g, r) = (some (t, w), r) := rfl
end Go.Proofs.Ytnfagphepkeedaa
end
end
section
section
namespace Go.Proofs.Ytnfagphepkeedaa

/-- A contract at any place of any store: what it reads (rd), what it turns (upd, among what it reads), what it lays at free places from n on (new). -/
def Ct (P : Program) (f : FuncId) (args : List AV) (rd : List (Nat × AObj)) (r : Nat → AV) (upd : List (Nat × AObj)) (new : Nat → List AObj) : Prop :=
  ∀ T n, (∀ p ∈ rd, T[p.1]? = some p.2) → (∀ p ∈ newU n (new n), T[p.1]? = some .dead) → Does P f args T (r n) (updL T (upd ++ newU n (new n)))

theorem CallK.of {P : Program} {f : FuncId} {args : List AV} {rd : List (Nat × AObj)} {r : Nat → AV} {upd : List (Nat × AObj)} {new : Nat → List AObj} {S : List AObj} {K : KT} (h : Ct P f args rd r upd new) (hrd : ∀ p ∈ rd, S[p.1]? = some p.2)
    (hu : ∀ p ∈ upd, p.1 ∈ rd.map (·.1)) (hK : K (r S.length) (rd.map (·.1)) upd (new S.length)) : CallK P f args S K := by
  refine ⟨_, _, _, _, fun T hT _ hd => h T S.length (fun p hp => ?_) hd, hu, fun i hi => ?_, hK⟩
  · rw [hT p.1 (List.mem_map.2 ⟨p, hp, rfl⟩)]; exact hrd p hp
  · obtain ⟨p, hp, rfl⟩ := List.mem_map.1 hi
    exact (List.getElem?_eq_some_iff.1 (hrd p hp)).1

theorem updL_self (T : List AObj) (u : List (Nat × AObj)) (h : ∀ p ∈ u, T[p.1]? = some p.2) : updL T u = T := by
  induction u with
  | nil => rfl
  | cons p u ih =>
    have : T.set p.1 p.2 = T := by
      apply List.ext_getElem?
      intro q
      by_cases e : q = p.1
      · subst e
        have hp := h p (by simp)
        rw [List.getElem?_set_self (List.getElem?_eq_some_iff.1 hp).1, hp]
      · rw [List.getElem?_set_ne (Ne.symm e)]
    rw [updL_cons, this]; exact ih fun q hq => h q (by simp [hq])

theorem newU_zip (n : Nat) (l : List AObj) : newU n l = (List.range' n l.length).zip l := by
  induction l generalizing n with
  | nil => rfl
  | cons o l ih => simp [newU, ih, List.range'_succ]

/-- A contract in a small store serves at any place. -/
theorem Ct.mk {P : Program} {f : FuncId} {args args₀ : List AV} {S₀ S₁ : List AObj} {r₀ : AV} {r : Nat → AV} {rd upd : List (Nat × AObj)} {new : Nat → List AObj} (h : Does P f args₀ S₀ r₀ S₁) (is : List Nat) (hn : is.Nodup) (hl : is.length = S₀.length) (hSl : S₀.length ≤ S₁.length)
    (hal : ∀ o ∈ S₀, o ≠ .dead) (ha : ∀ n N, args₀.map (fun x => x.ren (ixs (is ++ List.range' n (S₁.length - S₀.length)) N)) = args) (hr : ∀ n N, r₀.ren (ixs (is ++ List.range' n (S₁.length - S₀.length)) N) = r n)
    (hrd : ∀ n N, is.zip (S₀.map fun o => o.ren (ixs (is ++ List.range' n (S₁.length - S₀.length)) N)) = rd)
    (hupd : (∀ n N, is.zip ((S₁.take S₀.length).map fun o => o.ren (ixs (is ++ List.range' n (S₁.length - S₀.length)) N)) = upd) ∨ upd = [] ∧ S₁.take S₀.length = S₀)
    (hnew : ∀ n N, ((S₁.drop S₀.length).map fun o => o.ren (ixs (is ++ List.range' n (S₁.length - S₀.length)) N)) = new n) : Ct P f args rd r upd new := by
  intro T n hT hd
  have hln : (new n).length = S₁.length - S₀.length := by rw [← hnew n T.length]; simp
  have hat : ∀ (k : Nat) (o : AObj), S₀[k]? = some o → ∃ i, (is ++ List.range' n (S₁.length - S₀.length))[k]? = some i ∧ T[i]? = some (o.ren (ixs (is ++ List.range' n (S₁.length - S₀.length)) T.length)) := by
    intro k o ho
    have hk : k < is.length := by rw [hl]; exact (List.getElem?_eq_some_iff.1 ho).1
    refine ⟨is[k], by rw [List.getElem?_append_left hk]; simp, hT (is[k], _) ?_⟩
    rw [← hrd n T.length]
    refine List.mem_of_getElem? (i := k) ?_
    rw [List.getElem?_zip_eq_some]
    exact ⟨List.getElem?_eq_getElem hk, by rw [List.getElem?_map, ho]; rfl⟩
  have hdead : ∀ i, i ∈ List.range' n (S₁.length - S₀.length) → T[i]? = some .dead := by
    intro i hi
    rw [newU_zip, hln] at hd
    obtain ⟨j, hj, rfl⟩ := List.getElem_of_mem hi
    have hj' : j < (new n).length := by rw [hln]; simpa using hj
    have := hd ((List.range' n (S₁.length - S₀.length))[j], (new n)[j]) (by
      refine List.mem_of_getElem? (i := j) ?_
      rw [List.getElem?_zip_eq_some]
      exact ⟨List.getElem?_eq_getElem hj, List.getElem?_eq_getElem hj'⟩)
    exact this
  have hnd : (is ++ List.range' n (S₁.length - S₀.length)).Nodup := by
    rw [List.nodup_append]
    refine ⟨hn, List.nodup_range', fun a ha1 b hb1 => ?_⟩
    rintro rfl
    obtain ⟨k, hk, rfl⟩ := List.getElem_of_mem ha1
    have hk' : k < S₀.length := by rw [← hl]; exact hk
    obtain ⟨i, h1, h2⟩ := hat k S₀[k] (List.getElem?_eq_getElem hk')
    rw [List.getElem?_append_left hk, List.getElem?_eq_getElem hk] at h1
    injection h1 with h1; subst h1
    rw [hdead _ hb1] at h2
    injection h2 with h2
    have := hal S₀[k] (List.getElem_mem hk')
    cases ho : S₀[k] with
    | dead => exact this ho
    | cells xs => rw [ho] at h2; simp [AObj.ren] at h2
    | row a b => rw [ho] at h2; simp [AObj.ren] at h2
    | mrow a b c => rw [ho] at h2; simp [AObj.ren] at h2
  have := h.embed T (is ++ List.range' n (S₁.length - S₀.length)) hnd (by simp; omega) hSl hat (fun k i hk hi => by
    rw [List.getElem?_append_right (by omega)] at hi
    exact hdead i (List.mem_of_getElem? hi))
  rw [ha, hr] at this
  have e : (is ++ List.range' n (S₁.length - S₀.length)).zip (S₁.map fun o => o.ren (ixs (is ++ List.range' n (S₁.length - S₀.length)) T.length)) =
      is.zip ((S₁.take S₀.length).map fun o => o.ren (ixs (is ++ List.range' n (S₁.length - S₀.length)) T.length)) ++ newU n (new n) := by
    rw [newU_zip, hln, ← hnew n T.length]
    conv => lhs; rw [← List.take_append_drop S₀.length S₁]
    rw [List.map_append, List.zip_append (by simp; omega)]
    simp
  rw [e, updL_append] at this
  rw [updL_append]
  rcases hupd with hupd | ⟨rfl, hsame⟩
  · rw [hupd] at this; exact this
  · rw [hsame, updL_self T _ (fun p hp => ?_)] at this
    · exact this
    · rw [hrd] at hp; exact hT p hp

/-- The slots told less exactly. -/
def leT : List AV → List AV → Prop
  | [], [] => True
  | x :: xs, y :: ys => (y = .any ∨ x = y) ∧ leT xs ys
  | _, _ => False
theorem leT_spec : ∀ {xs ys : List AV}, leT xs ys → xs.length = ys.length ∧ ∀ (t : Nat) (y : AV), ys[t]? = some y → y = .any ∨ xs[t]? = some y := by
  intro xs
  induction xs with
  | nil => intro ys h; cases ys with
    | nil => exact ⟨rfl, fun t y h => by simp at h⟩
    | cons => exact h.elim
  | cons x xs ih => intro ys h; cases ys with
    | nil => exact h.elim
    | cons y ys =>
      obtain ⟨h1, h2⟩ := h
      obtain ⟨g1, g2⟩ := ih h2
      refine ⟨by simp [g1], fun t z hz => ?_⟩
      cases t with
      | zero => simp at hz; subst hz; rcases h1 with h | h; exact .inl h; exact .inr (by simp [h])
      | succ t => simp at hz; simpa using g2 t z hz
theorem Wk.forget {m : Nat} {tm tm' : List AV} {S : List AObj} (h : leT tm tm') : Wk m tm S tm' S := fun G0 S0 w0 G a w _ hz => by
  obtain ⟨h1, h2⟩ := leT_spec h
  refine ⟨G, hz.left, by rw [hz.size, h1], fun t x v hx hv => ?_, hz.defers, hz.wd0⟩
  rcases h2 t x hx with rfl | h
  · exact .any v
  · exact hz.rep t x v h hv
theorem Wk.to {m : Nat} {tm tm' : List AV} {S S' : List AObj} (hS : S = S') (h : leT tm tm') : Wk m tm S tm' S' := hS ▸ Wk.forget h

/-- The slots told in a smaller store. -/
def selT (ρ : Nat → Nat) : List AV → List AV → Prop
  | [], [] => True
  | x :: xs, y :: ys => (y = .any ∨ x = y.ren ρ) ∧ selT ρ xs ys
  | _, _ => False
theorem selT_spec {ρ : Nat → Nat} : ∀ {xs ys : List AV}, selT ρ xs ys → xs.length = ys.length ∧ ∀ (t : Nat) (y : AV), ys[t]? = some y → y = .any ∨ xs[t]? = some (y.ren ρ) := by
  intro xs
  induction xs with
  | nil => intro ys h; cases ys with
    | nil => exact ⟨rfl, fun t y h => by simp at h⟩
    | cons => exact h.elim
  | cons x xs ih => intro ys h; cases ys with
    | nil => exact h.elim
    | cons y ys =>
      obtain ⟨h1, h2⟩ := h
      obtain ⟨g1, g2⟩ := ih h2
      refine ⟨by simp [g1], fun t z hz => ?_⟩
      cases t with
      | zero => simp at hz; subst hz; rcases h1 with h | h; exact .inl h; exact .inr (by simp [h])
      | succ t => simp at hz; simpa using g2 t z hz

theorem Left.sel {G0 : Gh} {S0 : List AObj} {w0 : World} {G : Gh} {S : List AObj} {w : World} (hs : Left G0 S0 w0 G S w) (h0 : Wd G0 S0 w0) {S' : List AObj} (ids : List Nat) (hn : ids.Nodup) (hl : ids.length = S'.length) (hm : S0.length ≤ S'.length)
    (hp : ∀ (k i : Nat), k < S0.length → ids[k]? = some i → i = k) (hT : ∀ (k : Nat) (o : AObj), S'[k]? = some o → ∃ i, ids[k]? = some i ∧ S[i]? = some (o.ren (ixs ids S.length))) : Left G0 S0 w0 (G.pull (ixs ids S.length)) S' w := by
  have hD : ∀ (k i : Nat), S'.length ≤ k → ids[k]? = some i → S[i]? = some .dead := fun k i hk hi => by
    rw [List.getElem?_eq_none (by omega)] at hi; cases hi
  obtain ⟨hwd, hblk⟩ := Wd.pull hs.wd ids hn (by omega) hT hD
  have hid : ∀ k, k < S0.length → ixs ids S.length k = k := fun k hk => by
    have e : ids[k]? = some (ids[k]'(by omega)) := by simp
    rw [ixs_get e]; exact hp k _ hk e
  have hw0 : ∀ i, S0.length ≤ i → G0.loc i = none ∧ ∀ n, G0.hist i n = none := fun i hi => h0.dom i (.inl (List.getElem?_eq_none (by omega)))
  refine ⟨⟨hs.le.imm, fun i b hb => ?_, fun i n u hb => ?_⟩, hwd, hs.kept, fun i b hb => ?_, hs.still⟩
  · have hi : i < S0.length := by
      rcases Nat.lt_or_ge i S0.length with h | h
      · exact h
      · rw [(hw0 i h).1] at hb; cases hb
    show G.loc (ixs ids S.length i) = _
    rw [hid i hi]; exact hs.le.loc i b hb
  · have hi : i < S0.length := by
      rcases Nat.lt_or_ge i S0.length with h | h
      · exact h
      · rw [(hw0 i h).2] at hb; cases hb
    show G.hist (ixs ids S.length i) n = _
    rw [hid i hi]; exact hs.le.hist i n u hb
  · rcases hblk i with h | h
    · rw [h] at hb; cases hb
    · rw [h] at hb; exact hs.own _ b hb
theorem Wk.sel {m : Nat} {tm tm' : List AV} {S S' : List AObj} (ids : List Nat) (hn : ids.Nodup) (hl : ids.length = S'.length) (hm : m ≤ S'.length) (hp : ids.take m = List.range m)
    (hT : ids.map (fun i => S[i]?) = S'.map fun o => some (o.ren (ixs ids S.length))) (ht : selT (ixs ids S.length) tm tm') : Wk m tm S tm' S' := fun G0 S0 w0 G a w e hz => by
  obtain ⟨h1, h2⟩ := selT_spec ht
  refine ⟨_, Left.sel hz.left hz.wd0 (S' := S') ids hn hl (by omega) (fun k i hk hi => ?_) (fun k o ho => ?_), by rw [hz.size, h1], fun t x v hx hv => ?_, hz.defers, hz.wd0⟩
  · have : (ids.take m)[k]? = some i := by rw [List.getElem?_take, if_pos (by omega)]; exact hi
    rw [hp, List.getElem?_range (by omega)] at this
    injection this with this; exact this.symm
  · have hk : k < ids.length := by rw [hl]; exact (List.getElem?_eq_some_iff.1 ho).1
    refine ⟨ids[k], by simp, ?_⟩
    have := congrArg (fun l : List (Option AObj) => l[k]?) hT
    simp only [List.getElem?_map, List.getElem?_eq_getElem hk, ho, Option.map_some] at this
    injection this
  · rcases h2 t x hx with rfl | h
    · exact .any v
    · exact (hz.rep t _ v h hv).pull x rfl

theorem Left.reobj {G : Gh} {T : List AObj} {w : World} {i : Nat} {xs xs' : List AV} (h : Wd G T w) (hi : T[i]? = some (.cells xs)) (hl : xs'.length = xs.length) (hc : ∀ (k : Nat) (x : AV) (v : Value), xs'[k]? = some x → (∀ y, xs[k]? = some y → Rep G y v) → Rep G x v) :
    Left G T w G (T.set i (.cells xs')) w := by
  obtain ⟨b, cs, t, h1, h2, h3, h4, _⟩ := h.obj i xs hi
  refine Left.turn h hi h1 (⟨rfl, rfl, rfl, rfl, fun _ _ => rfl, h2⟩ : Turn w w b (.cells cs t (0, 0))) (by omega) fun k x v hx hv => ?_
  have hk : k < xs.length := by rw [← hl]; exact (List.getElem?_eq_some_iff.1 hx).1
  have := h4 k _ v (List.getElem?_eq_getElem hk) hv
  refine ⟨this.1, hc k x v hx fun y hy => ?_⟩
  rw [List.getElem?_eq_getElem hk] at hy
  injection hy with hy; subst hy; exact this.2

/-- A slice that is all of its capacity (a nil slice, too) becomes a row's. -/
theorem Wk.row {m : Nat} {tm : List AV} {S : List AObj} (t k : Nat) {k' : Nat} {xs : List AV} (ht : tm[t]? = some (.sl .full k' xs)) (hk : k' = k ∨ xs = []) (h1 : 1 ≤ k) : Wk m tm S (tm.set t (.sl (.row S.length) k xs)) (S ++ [.row k xs.length]) := fun G0 S0 w0 G a w _ hz => by
  have hd := Left.dead hz.left.wd 1
  have htl := (List.getElem?_eq_some_iff.1 ht).1
  have hlt : t < a.tmps.size := by rw [hz.size]; exact htl
  have hv := Array.getElem?_eq_getElem hlt
  have r := hz.rep t _ _ ht hv
  have r' : Rep G (.sl .full k xs) a.tmps[t] := by
    rcases hk with rfl | rfl
    · exact r
    · exact r.rek
  generalize a.tmps[t] = v at *
  cases r' with
  | @sl _ _ _ A c b o vs q1 q2 q3 q4 q5 q6 q7 =>
    have hc : c = xs.length := q7
    subst hc
    have hid : (S ++ List.replicate 1 AObj.dead)[S.length]? = some .dead := by simp
    obtain ⟨hl, hh⟩ := Left.rowFull (id := S.length) (k := k) (n := xs.length) (A := A) hd.wd hid h1
    have e : (S ++ List.replicate 1 AObj.dead).set S.length (.row k xs.length) = S ++ [.row k xs.length] := by simp
    rw [e] at hl
    have hall := (hz.left.trans hd).trans hl
    refine ⟨_, hall, by simp [hz.size], fun t' x u hx hu => ?_, hz.defers, hz.wd0⟩
    by_cases et : t' = t
    · subst et
      simp [htl] at hx; subst hx
      rw [hv] at hu; injection hu with hu; subst hu
      exact ((Rep.sl vs q1 q2 q3 q4 q5 q6 q7 : Rep G (.sl .full k xs) _).mono hl.le).retag hh
    · rw [List.getElem?_set_ne (Ne.symm et)] at hx
      exact (hz.rep t' x u hx hu).mono hl.le
/-- The same of a slice in an object's cell. -/
theorem Wk.rowObj {m : Nat} {tm : List AV} {S : List AObj} (i j k : Nat) {k' : Nat} {ys xs : List AV} (hi : S[i]? = some (.cells ys)) (hj : ys[j]? = some (.sl .full k' xs)) (hk : k' = k ∨ xs = []) (h1 : 1 ≤ k) :
    Wk m tm S tm (S.set i (.cells (ys.set j (.sl (.row S.length) k xs))) ++ [.row k xs.length]) := fun G0 S0 w0 G a w _ hz => by
  have hd := Left.dead hz.left.wd 1
  have hil := (List.getElem?_eq_some_iff.1 hi).1
  have hjl := (List.getElem?_eq_some_iff.1 hj).1
  obtain ⟨b, cs, t, g1, g2, g3, g4, _⟩ := hz.left.wd.obj i ys hi
  have hv := Array.getElem?_eq_getElem (show j < cs.size by omega)
  have r := (g4 j _ _ hj hv).2
  have r' : Rep G (.sl .full k xs) cs[j] := by
    rcases hk with rfl | rfl
    · exact r
    · exact r.rek
  generalize hcj : cs[j] = v at *
  cases r' with
  | @sl _ _ _ A c b' o vs q1 q2 q3 q4 q5 q6 q7 =>
    have hc : c = xs.length := q7
    subst hc
    have hid : (S ++ List.replicate 1 AObj.dead)[S.length]? = some .dead := by simp
    obtain ⟨hl, hh⟩ := Left.rowFull (id := S.length) (k := k) (n := xs.length) (A := A) hd.wd hid h1
    have e : (S ++ List.replicate 1 AObj.dead).set S.length (.row k xs.length) = S ++ [.row k xs.length] := by simp
    rw [e] at hl
    have hi' : (S ++ [AObj.row k xs.length])[i]? = some (.cells ys) := by rw [List.getElem?_append_left hil]; exact hi
    obtain ⟨b2, cs2, t2, p1, p2, p3, p4, _⟩ := hl.wd.obj i ys hi'
    have hb2 : b2 = b := by
      have := hl.le.loc i b (by simpa using g1)
      rw [p1] at this; injection this
    subst hb2
    rw [p2] at g2; injection g2 with g2; injection g2 with e1 e1t; subst e1 e1t
    have hturn : Left (G.newHist S.length xs.length (.slice A xs.length xs.length)) (S ++ [AObj.row k xs.length]) w (G.newHist S.length xs.length (.slice A xs.length xs.length)) ((S ++ [AObj.row k xs.length]).set i (.cells (ys.set j (.sl (.row S.length) k xs)))) w := by
      refine Left.turn (xs' := ys.set j (.sl (.row S.length) k xs)) hl.wd hi' p1 (⟨rfl, rfl, rfl, rfl, fun _ _ => rfl, p2⟩ : Turn w w b2 (.cells cs2 t2 (0, 0))) (by rw [List.length_set]; omega) fun q x u hx hu => ?_
      by_cases eq : q = j
      · subst eq
        simp [hjl] at hx; subst hx
        rw [hv] at hu; injection hu with hu
        refine ⟨?_, ?_⟩
        · rw [← hu]; rfl
        · rw [← hu]
          exact ((Rep.sl vs q1 q2 q3 q4 q5 q6 q7 : Rep G (.sl .full k xs) _).mono hl.le).retag hh
      · rw [List.getElem?_set_ne (Ne.symm eq)] at hx
        exact p4 q x u hx hu
    have e2 : (S ++ [AObj.row k xs.length]).set i (.cells (ys.set j (.sl (.row S.length) k xs))) = S.set i (.cells (ys.set j (.sl (.row S.length) k xs))) ++ [.row k xs.length] := by rw [List.set_append_left _ _ hil]
    rw [e2] at hturn
    have hall := ((hz.left.trans hd).trans hl).trans hturn
    exact ⟨_, hall, hz.size, fun t' x u hx hu => (hz.rep t' x u hx hu).mono hl.le, hz.defers, hz.wd0⟩

/-- A slice of nothing becomes a row's that may turn. -/
theorem Wk.mrow {m : Nat} {tm : List AV} {S : List AObj} (t k : Nat) {k' : Nat} (ht : tm[t]? = some (.sl .full k' [])) (h1 : 1 ≤ k) : Wk m tm S (tm.set t (.ms S.length 0)) (S ++ [.mrow k 0 []]) := fun G0 S0 w0 G a w _ hz => by
  have hd := Left.dead hz.left.wd 1
  have htl := (List.getElem?_eq_some_iff.1 ht).1
  have hlt : t < a.tmps.size := by rw [hz.size]; exact htl
  have hv := Array.getElem?_eq_getElem hlt
  have r := hz.rep t _ _ ht hv
  generalize a.tmps[t] = v at *
  cases r with
  | @sl _ _ _ A c b o vs q1 q2 q3 q4 q5 q6 q7 =>
    have hc : c = 0 := q7
    subst hc
    have hid : (S ++ List.replicate 1 AObj.dead)[S.length]? = some .dead := by simp
    have hl := Left.mrowTo (j := S.length) (k := k) (n := 0) (c := 0) (xs := []) (A := A) hd.wd (.inl hid) h1 (by simp) (Nat.le_refl _) (by omega) (Kept.refl _ w) (fun h => by omega)
    have e : (S ++ List.replicate 1 AObj.dead).set S.length (.mrow k 0 []) = S ++ [.mrow k 0 []] := by simp
    rw [e] at hl
    have hall := (hz.left.trans hd).trans hl
    refine ⟨_, hall, by simp [hz.size], fun t' x u hx hu => ?_, hz.defers, hz.wd0⟩
    by_cases et : t' = t
    · subst et
      simp [htl] at hx; subst hx
      rw [hv] at hu; injection hu with hu; subst hu
      exact .ms (by simp [Gh.newHist]) fun h => by omega
    · rw [List.getElem?_set_ne (Ne.symm et)] at hx
      exact (hz.rep t' x u hx hu).mono hl.le
end Go.Proofs.Ytnfagphepkeedaa
end
section
namespace Go.Proofs.Ytnfagphepkeedaa

theorem effK_mono {P : Program} {i : I} {ρ : Operand → AV} {S : List AObj} {K K' : KT} (hK : ∀ v rd upd new, K v rd upd new → K' v rd upd new) (h : effK P i ρ S K) : effK P i ρ S K' := by
  cases i <;> dsimp only [effK] at h ⊢
  case mov => exact hK _ _ _ _ h
  case pick => unfold kPick at h ⊢; split at h <;> first | exact hK _ _ _ _ h | exact h.elim
  case new => exact hK _ _ _ _ h
  case box => unfold kBox at h ⊢; split at h <;> first | exact hK _ _ _ _ h | exact h.elim
  case build => unfold kBuild at h ⊢; split at h <;> first | exact hK _ _ _ _ h | exact h.elim
  case bsl => exact ⟨h.1, hK _ _ _ _ h.2⟩
  case load => unfold kLoad kLoadM at h ⊢; (repeat' split at h) <;> first | exact hK _ _ _ _ h | exact ⟨h.1, hK _ _ _ _ h.2⟩ | exact ⟨h.1, h.2.1, h.2.2.1, hK _ _ _ _ h.2.2.2⟩ | exact h.2.elim | exact h.elim
  case store => unfold kStore kStoreM at h ⊢; (repeat' split at h) <;> first | exact ⟨h.1, h.2.1, hK _ _ _ _ h.2.2⟩ | exact ⟨h.1, h.2.1, h.2.2.1, h.2.2.2.1, hK _ _ _ _ h.2.2.2.2⟩ | exact h.elim
  case nilc => unfold kNil at h ⊢; split at h <;> first | exact hK _ _ _ _ h | exact h.elim
  case bin op x y =>
    unfold kBin at h ⊢
    split at h
    · cases op <;> dsimp only [kInt] at h ⊢ <;> first | exact ⟨h.1, hK _ _ _ _ h.2⟩ | exact ⟨h.1, h.2.1, hK _ _ _ _ h.2.2⟩
    · cases op <;> dsimp only [kStr] at h ⊢ <;> first | exact hK _ _ _ _ h | exact h.elim
    · exact h.elim
  case eqb => unfold kEqb at h ⊢; split at h <;> first | exact hK _ _ _ _ h | exact h.elim
  case eqa => unfold kEqa at h ⊢; split at h <;> first | exact ⟨h.1, h.2.1, hK _ _ _ _ h.2.2⟩ | exact h.elim
  case eqp => unfold kEqp at h ⊢; split at h <;> first | exact hK _ _ _ _ h | exact h.elim
  case un => unfold kUn at h ⊢; split at h <;> first | exact hK _ _ _ _ h | exact h.elim
  case cvt => unfold kCvt at h ⊢; split at h <;> first | exact hK _ _ _ _ h | exact h.elim
  case b2s => unfold kB2s at h ⊢; split at h <;> first | exact ⟨h.1, h.2.1, hK _ _ _ _ h.2.2⟩ | exact h.elim
  case s2b => unfold kS2b at h ⊢; split at h <;> first | exact ⟨h.1, hK _ _ _ _ h.2⟩ | exact h.elim
  case slice =>
    unfold kSlice at h ⊢
    split at h
    · split at h
      · rename_i l hh hl hhh
        obtain ⟨h1, h2, h3, h4, h5⟩ := h
        refine ⟨h1, h2, h3, h4, ?_⟩
        split at h5
        · exact hK _ _ _ _ h5
        · exact ⟨h5.1, hK _ _ _ _ h5.2⟩
      · exact h.elim
    · exact h.elim
  case sstr =>
    unfold kSstr at h ⊢
    split at h
    · split at h
      · rename_i l hh hl hhh
        exact ⟨h.1, h.2.1, h.2.2.1, hK _ _ _ _ h.2.2.2⟩
      · exact h.elim
    · exact h.elim
  case fadr => unfold kFadr at h ⊢; split at h <;> first | exact hK _ _ _ _ h | exact h.elim
  case fld => unfold kFld at h ⊢; (repeat' split at h) <;> first | exact hK _ _ _ _ h | exact ⟨h.1, hK _ _ _ _ h.2⟩ | exact h.elim
  case iadr => unfold kIadr at h ⊢; split at h <;> first | exact ⟨h.1, h.2.1, h.2.2.1, hK _ _ _ _ h.2.2.2⟩ | exact ⟨h.1, h.2.1, hK _ _ _ _ h.2.2⟩ | exact h.elim
  case aadr => unfold kAadr at h ⊢; split at h <;> first | exact ⟨h.1, h.2.1, hK _ _ _ _ h.2.2⟩ | exact h.elim
  case idx => unfold kIdx kFld at h ⊢; (repeat' split at h) <;> first | exact ⟨h.1, h.2.1, hK _ _ _ _ h.2.2⟩ | exact ⟨h.1, h.2.1, h.2.2.1, hK _ _ _ _ h.2.2.2⟩ | exact h.elim | exact h.2.2.elim
  case sidx => unfold kSidx at h ⊢; split at h <;> first | exact ⟨h.1, h.2.1, hK _ _ _ _ h.2.2⟩ | exact h.elim
  case ext => unfold kExt at h ⊢; (repeat' split at h) <;> first | exact hK _ _ _ _ h | exact h.elim
  case mkf => exact hK _ _ _ _ h
  case call =>
    unfold kCall at h ⊢
    split at h
    · obtain ⟨v, rd, upd, new, h1, h2, h3, h4⟩ := h
      exact ⟨v, rd, upd, new, h1, h2, h3, hK _ _ _ _ h4⟩
    · exact h.elim
  case app =>
    unfold kApp at h ⊢
    split at h
    · unfold kAppM at h ⊢
      split at h
      · exact ⟨h.1, h.2.1, h.2.2.1, h.2.2.2.1, hK _ _ _ _ h.2.2.2.2⟩
      · exact h.elim
    · exact ⟨h.1, h.2.1, h.2.2.1, h.2.2.2.1, hK _ _ _ _ h.2.2.2.2⟩
    · obtain ⟨h1, h2, h3, h4⟩ := h
      refine ⟨h1, h2, h3, ?_⟩
      split at h4
      · exact hK _ _ _ _ h4
      · exact ⟨h4.1, hK _ _ _ _ h4.2⟩
      · exact h4.elim
    · exact h.elim
  case len => unfold kLen at h ⊢; split at h <;> first | exact hK _ _ _ _ h | exact h.elim
  case lenc => exact hK _ _ _ _ h
  case mx => unfold kMx at h ⊢; split at h <;> first | exact hK _ _ _ _ h | exact h.elim
  case mksl => unfold kMksl at h ⊢; split at h <;> first | exact ⟨h.1, h.2.1, h.2.2.1, h.2.2.2.1, hK _ _ _ _ h.2.2.2.2⟩ | exact h.elim
theorem aReg_mono {P : Program} {R R' : List AV → List AObj → Prop} (hR : ∀ tm S, R tm S → R' tm S) : ∀ (cs : List RO) (u : List (Nat × Nat)) (tr : List (List Nat × List Nat)) (tm : List AV) (S : List AObj), aReg P cs u tr tm S R → aReg P cs u tr tm S R' := by
  intro cs
  induction cs with
  | nil => intro u tr tm S h; exact ⟨h.1, hR _ _ h.2⟩
  | cons c cs ih =>
    obtain ⟨g, i, d⟩ := c
    intro u tr tm S h
    cases g with
    | none => exact effK_mono (fun _ _ _ _ => ih _ _ _ _) h
    | some g =>
      obtain ⟨t, want⟩ := g
      simp only [aReg, gdK] at h ⊢
      split at h
      · split at h
        · rename_i h1 h2; rw [if_pos h2]; exact effK_mono (fun _ _ _ _ => ih _ _ _ _) h
        · rename_i h1 h2; rw [if_neg h2]; exact ih _ _ _ _ h
      · exact ih _ _ _ _ h
      · exact h.elim
theorem aw_mono {P : Program} {m : Nat} : ∀ {c : C} {tm : List AV} {S : List AObj} {Q Q' : QT}, aw P m c tm S Q → (∀ e tm S, Q e tm S → Q' e tm S) → aw P m c tm S Q' := by
  intro c
  induction c with
  | skip => intro tm S Q Q' h hq; exact hq _ _ _ h
  | reg ops u => intro tm S Q Q' h hq; exact aReg_mono (hq .normal) _ _ _ _ _ h
  | seq a b iha ihb =>
    intro tm S Q Q' h hq
    refine iha h fun e tm S h => ?_
    cases e with
    | normal => exact ihb h hq
    | _ => exact hq _ _ _ h
  | cond x a b iha ihb =>
    intro tm S Q Q' h hq
    simp only [aw] at h ⊢
    split at h
    · exact ⟨fun e => iha (h.1 e) hq, fun e => ihb (h.2 e) hq⟩
    · exact h.elim
  | block id b ih =>
    intro tm S Q Q' h hq
    refine ih h fun e tm S h => ?_
    cases e with
    | exit id' =>
      simp only [qBlock] at h ⊢
      split
      · rename_i e; rw [if_pos e] at h; exact hq _ _ _ h
      · rename_i e; rw [if_neg e] at h; exact hq _ _ _ h
    | _ => exact hq _ _ _ h
  | loop b ih =>
    intro tm S Q Q' h hq
    obtain ⟨I, h0, hr⟩ := h
    refine ⟨I, h0, fun n tm S hI => ih (hr n tm S hI) fun e tm S h => ?_⟩
    cases e with
    | normal => exact h
    | _ => exact hq _ _ _ h
  | exit id => intro tm S Q Q' h hq; exact hq _ _ _ h
  | scope b ih =>
    intro tm S Q Q' h hq code hc G0 S0 w0 G a w hm hz
    exact wp_mono (h code hc G0 S0 w0 G a w hm hz) fun e a' w' ⟨tm', S', G', hz', hq'⟩ => ⟨tm', S', G', hz', hq _ _ _ hq'⟩
  | label l => intro tm S Q Q' h hq; obtain ⟨tm', S', hwk, h⟩ := h; exact ⟨tm', S', hwk, hq _ _ _ h⟩
  | goto l => intro tm S Q Q' h hq; exact hq _ _ _ h
  | ret => intro tm S Q Q' h hq; exact hq _ _ _ h

section
variable {P : Program} {m : Nat} {tm : List AV} {S : List AObj} {Q : QT}

def qSeq (P : Program) (m : Nat) (b : C) (Q : QT) : QT := qThen (fun tm S => aw P m b tm S Q) Q
theorem qSeq_normal (b : C) : qSeq P m b Q .normal tm S = aw P m b tm S Q := (rfl)
theorem qSeq_ret (b : C) : qSeq P m b Q .ret tm S = Q .ret tm S := (rfl)
theorem qSeq_exit (b : C) (id : Nat) : qSeq P m b Q (.exit id) tm S = Q (.exit id) tm S := (rfl)
theorem qSeq_goto (b : C) (l : Nat) : qSeq P m b Q (.goto l) tm S = Q (.goto l) tm S := (rfl)
theorem qBlock_normal (id : Nat) : qBlock id Q .normal tm S = Q .normal tm S := (rfl)
theorem qBlock_ret (id : Nat) : qBlock id Q .ret tm S = Q .ret tm S := (rfl)
theorem qBlock_exit (id id' : Nat) : qBlock id Q (.exit id') tm S = if id' = id then Q .normal tm S else Q (.exit id') tm S := (rfl)
theorem qBlock_goto (id l : Nat) : qBlock id Q (.goto l) tm S = Q (.goto l) tm S := (rfl)

/-- Loops: what is borne at each round's head, told by a value of the prover's. -/
def qLoop {α : Type} (m : Nat) (tmF : α → List AV) (SF : α → List AObj) (ok : α → Prop) (μ : α → Nat) (a : α) (Q : QT) : QT := qThen (fun tm S => ∃ a', ok a' ∧ μ a' < μ a ∧ Wk m tm S (tmF a') (SF a')) Q
section
variable {α : Type} {tmF : α → List AV} {SF : α → List AObj} {ok : α → Prop} {μ : α → Nat} {a : α}
theorem qLoop_normal : qLoop m tmF SF ok μ a Q .normal tm S = ∃ a', ok a' ∧ μ a' < μ a ∧ Wk m tm S (tmF a') (SF a') := (rfl)
theorem qLoop_ret : qLoop m tmF SF ok μ a Q .ret tm S = Q .ret tm S := (rfl)
theorem qLoop_exit (id : Nat) : qLoop m tmF SF ok μ a Q (.exit id) tm S = Q (.exit id) tm S := (rfl)
end
theorem loop_of {α : Type} {c : C} (tmF : α → List AV) (SF : α → List AObj) (ok : α → Prop) (μ : α → Nat) (a : α) (ha : ok a) (h0 : Wk m tm S (tmF a) (SF a)) (hr : ∀ a, ok a → aw P m c (tmF a) (SF a) (qLoop m tmF SF ok μ a Q)) : aw P m (.loop c) tm S Q := by
  refine ⟨fun n tm S => ∃ a, ok a ∧ tm = tmF a ∧ S = SF a ∧ n = μ a, ⟨_, _, _, h0, a, ha, rfl, rfl, rfl⟩, fun n tm S ⟨a, ha, h1, h2, h3⟩ => ?_⟩
  subst h1 h2 h3
  refine aw_mono (hr a ha) fun e tm' S' hq => ?_
  cases e with
  | normal =>
    obtain ⟨a', h1, h2, h3⟩ := hq
    exact ⟨μ a', _, _, h3, ⟨a', h1, rfl, rfl, rfl⟩, h2⟩
  | _ => exact hq
/-- Loops of a known number of rounds. -/
def rounds (P : Program) (m : Nat) (c : C) (Q : QT) : List Unit → List AV → List AObj → Prop
  | [], _, _ => False
  | _ :: f, tm, S => aw P m c tm S (qThen (fun tm S => rounds P m c Q f tm S) Q)
def qRds (P : Program) (m : Nat) (c : C) (Q : QT) (f : List Unit) : QT := qThen (fun tm S => rounds P m c Q f tm S) Q
section
variable {c : C} {f : List Unit}
theorem rounds_cons (u : Unit) : rounds P m c Q (u :: f) tm S = aw P m c tm S (qRds P m c Q f) := (rfl)
theorem qRds_normal : qRds P m c Q f .normal tm S = rounds P m c Q f tm S := (rfl)
theorem qRds_ret : qRds P m c Q f .ret tm S = Q .ret tm S := (rfl)
theorem qRds_exit (id : Nat) : qRds P m c Q f (.exit id) tm S = Q (.exit id) tm S := (rfl)
theorem qRds_goto (l : Nat) : qRds P m c Q f (.goto l) tm S = Q (.goto l) tm S := (rfl)
end
/-- A scope with jumps to one label: ahead of it. -/
def qScope {α : Type} (m l : Nat) (tmF : α → List AV) (SF : α → List AObj) (ok : α → Prop) (Q : QT) : QT
  | .goto l', tm, S => l' = l ∧ ∃ a, ok a ∧ Wk m tm S (tmF a) (SF a)
  | e, tm, S => Q e tm S
/-- Behind it. -/
def qScoped {α : Type} (m l : Nat) (tmF : α → List AV) (SF : α → List AObj) (ok : α → Prop) (μ : α → Nat) (a : α) (Q : QT) : QT
  | .goto l', tm, S => l' = l ∧ ∃ a', ok a' ∧ μ a' < μ a ∧ Wk m tm S (tmF a') (SF a')
  | e, tm, S => Q e tm S
section
variable {α : Type} {l : Nat} {tmF : α → List AV} {SF : α → List AObj} {ok : α → Prop} {μ : α → Nat} {a : α}
theorem qScope_normal : qScope m l tmF SF ok Q .normal tm S = Q .normal tm S := (rfl)
theorem qScope_ret : qScope m l tmF SF ok Q .ret tm S = Q .ret tm S := (rfl)
theorem qScope_exit (id : Nat) : qScope m l tmF SF ok Q (.exit id) tm S = Q (.exit id) tm S := (rfl)
theorem qScope_goto (l' : Nat) : qScope m l tmF SF ok Q (.goto l') tm S = (l' = l ∧ ∃ a, ok a ∧ Wk m tm S (tmF a) (SF a)) := (rfl)
theorem qScoped_normal : qScoped m l tmF SF ok μ a Q .normal tm S = Q .normal tm S := (rfl)
theorem qScoped_ret : qScoped m l tmF SF ok μ a Q .ret tm S = Q .ret tm S := (rfl)
theorem qScoped_exit (id : Nat) : qScoped m l tmF SF ok μ a Q (.exit id) tm S = Q (.exit id) tm S := (rfl)
theorem qScoped_goto (l' : Nat) : qScoped m l tmF SF ok μ a Q (.goto l') tm S = (l' = l ∧ ∃ a', ok a' ∧ μ a' < μ a ∧ Wk m tm S (tmF a') (SF a')) := (rfl)
end
/-- A branch. -/
def cdK (P : Program) (m : Nat) (x : AV) (a b : C) (tm : List AV) (S : List AObj) (Q : QT) : Prop := match x with
  | .lit (.bool t) => (t = true → aw P m a tm S Q) ∧ (t = false → aw P m b tm S Q)
  | _ => False
theorem cdK_true (a b : C) : cdK P m (.lit (.bool true)) a b tm S Q = aw P m a tm S Q := by simp [cdK]
theorem cdK_false (a b : C) : cdK P m (.lit (.bool false)) a b tm S Q = aw P m b tm S Q := by simp [cdK]
theorem cdK_split {t : Bool} {a b : C} (h1 : t = true → aw P m a tm S Q) (h2 : t = false → aw P m b tm S Q) : cdK P m (.lit (.bool t)) a b tm S Q := ⟨h1, h2⟩

theorem aw_skip : aw P m .skip tm S Q = Q .normal tm S := (rfl)
theorem aw_reg (ops : List RO) (u : List (Nat × Nat)) : aw P m (.reg ops u) tm S Q = aReg P ops u [] tm S (Q .normal) := (rfl)
theorem aw_seq (a b : C) : aw P m (.seq a b) tm S Q = aw P m a tm S (qSeq P m b Q) := (rfl)
theorem aw_cond (c : Operand) (a b : C) : aw P m (.cond c a b) tm S Q = cdK P m (ev tm c) a b tm S Q := by
  cases h : ev tm c with
  | lit v => cases v <;> simp [aw, cdK, h]
  | _ => simp [aw, cdK, h]
theorem aw_block (id : Nat) (c : C) : aw P m (.block id c) tm S Q = aw P m c tm S (qBlock id Q) := (rfl)
theorem aw_exit (id : Nat) : aw P m (.exit id) tm S Q = Q (.exit id) tm S := (rfl)
def kLab (m : Nat) (tm : List AV) (S : List AObj) (R : List AV → List AObj → Prop) : Prop := ∃ tm' S', Wk m tm S tm' S' ∧ R tm' S'
theorem aw_label (l : Nat) : aw P m (.label l) tm S Q = kLab m tm S (Q .normal) := (rfl)
theorem aw_goto (l : Nat) : aw P m (.goto l) tm S Q = Q (.goto l) tm S := (rfl)
theorem aw_ret : aw P m .ret tm S Q = Q .ret tm S := (rfl)

/-- What follows an operation of a region. -/
def kReg (P : Program) (rest : List RO) (u : List (Nat × Nat)) (tr : List (List Nat × List Nat)) (tm : List AV) (S : List AObj) (d : Option Nat) (R : List AV → List AObj → Prop) : KT := fun v rd upd new =>
  aReg P rest u (tr ++ [(rd, upd.map (·.1) ++ (newU S.length new).map (·.1))]) (setD tm d v) (updL S upd ++ new) R
def gdF (P : Program) (x : AV) (want : Bool) (i : I) (rest : List RO) (u : List (Nat × Nat)) (tr : List (List Nat × List Nat)) (tm : List AV) (S : List AObj) (d : Option Nat) (R : List AV → List AObj → Prop) : Prop :=
  gdK x want (effK P i (ev tm) S (kReg P rest u tr tm S d R)) (aReg P rest u (tr ++ [([], [])]) (setD tm d (.lit undef)) S R)
variable {rest : List RO} {u : List (Nat × Nat)} {tr : List (List Nat × List Nat)} {d : Option Nat} {R : List AV → List AObj → Prop}
theorem kReg_go (v : AV) (rd : List Nat) (upd : List (Nat × AObj)) (new : List AObj) : kReg P rest u tr tm S d R v rd upd new = aReg P rest u (tr ++ [(rd, upd.map (·.1) ++ (newU S.length new).map (·.1))]) (setD tm d v) (updL S upd ++ new) R := (rfl)
theorem kReg_pure (v : AV) : kReg P rest u tr tm S d R v [] [] [] = aReg P rest u (tr ++ [([], [])]) (setD tm d v) S R := by
  simp [kReg, newU]
theorem aReg_nil : aReg P [] u tr tm S R = (okTr u tr = true ∧ R tm S) := (rfl)
theorem aReg_nil0 : aReg P [] [] tr tm S R = R tm S := by simp [aReg, okTr]
theorem aReg_cons (i : I) : aReg P ((none, i, d) :: rest) u tr tm S R = effK P i (ev tm) S (kReg P rest u tr tm S d R) := (rfl)
theorem aReg_guard (t : Nat) (want : Bool) (i : I) : aReg P ((some (t, want), i, d) :: rest) u tr tm S R = gdF P (tm.getD t .any) want i rest u tr tm S d R := (rfl)
theorem gdF_tt (i : I) : gdF P (.lit (.bool true)) true i rest u tr tm S d R = effK P i (ev tm) S (kReg P rest u tr tm S d R) := (rfl)
theorem gdF_ff (i : I) : gdF P (.lit (.bool false)) false i rest u tr tm S d R = effK P i (ev tm) S (kReg P rest u tr tm S d R) := (rfl)
theorem gdF_tf (i : I) : gdF P (.lit (.bool true)) false i rest u tr tm S d R = aReg P rest u (tr ++ [([], [])]) (setD tm d (.lit undef)) S R := (rfl)
theorem gdF_ft (i : I) : gdF P (.lit (.bool false)) true i rest u tr tm S d R = aReg P rest u (tr ++ [([], [])]) (setD tm d (.lit undef)) S R := (rfl)
theorem gdF_undef (want : Bool) (i : I) : gdF P (.lit undef) want i rest u tr tm S d R = aReg P rest u (tr ++ [([], [])]) (setD tm d (.lit undef)) S R := (rfl)
theorem setD_some (t : Nat) (v : AV) : setD tm (some t) v = tm.set t v := (rfl)
theorem setD_none (v : AV) : setD tm none v = tm := (rfl)
theorem ev_tmp (t : Nat) : ev tm (.tmp t) = tm.getD t .any := (rfl)
theorem ev_const (v : Value) : ev tm (.const v) = AV.ofC v := (rfl)
theorem ev_func (f : FuncId) : ev tm (.func f) = .fn f [] [] := (rfl)
theorem ofC_int (k : IntKind) (n : Int) : AV.ofC (.int k n) = .lit (.int k n) := (rfl)
theorem ofC_bool (b : Bool) : AV.ofC (.bool b) = .lit (.bool b) := (rfl)
theorem ofC_string (s : ByteArray) : AV.ofC (.string s) = .lit (.string s) := (rfl)
theorem ofC_nil : AV.ofC (.slice none 0 0) = .sl .full 1 [] := (rfl)
theorem ofC_ptr : AV.ofC (.pointer none) = .lit (.pointer none) := (rfl)
theorem ofC1_int (k : IntKind) (n : Int) : AV.ofC1 (.int k n) = .lit (.int k n) := (rfl)
theorem ofC1_bool (b : Bool) : AV.ofC1 (.bool b) = .lit (.bool b) := (rfl)
theorem ofC1_string (s : ByteArray) : AV.ofC1 (.string s) = .lit (.string s) := (rfl)
theorem ofC1_nil : AV.ofC1 (.slice none 0 0) = .sl .full 1 [] := (rfl)
theorem ofC1_ptr : AV.ofC1 (.pointer none) = .lit (.pointer none) := (rfl)
theorem parts_lit_int (k : IntKind) (n : Int) : (AV.lit (.int k n)).parts = some [.lit (.int k n)] := (rfl)
theorem parts_lit_bool (b : Bool) : (AV.lit (.bool b)).parts = some [.lit (.bool b)] := (rfl)
theorem parts_lit_string (s : ByteArray) : (AV.lit (.string s)).parts = some [.lit (.string s)] := (rfl)
theorem parts_lit_ptr : (AV.lit (.pointer none)).parts = some [.lit (.pointer none)] := (rfl)
theorem parts_agg (xs : List AV) : (AV.agg xs).parts = some xs := (rfl)
theorem parts_ref (i o : Nat) : (AV.ref i o).parts = some [.ref i o] := (rfl)
theorem parts_iptr (cs : List AV) : (AV.iptr cs).parts = some [.iptr cs] := (rfl)
theorem parts_sl (t : Tag) (k : Nat) (xs : List AV) : (AV.sl t k xs).parts = some [.sl t k xs] := (rfl)
theorem parts_fn (f : FuncId) (a b : List AV) : (AV.fn f a b).parts = some [.fn f a b] := (rfl)
theorem cells_agg (xs : List AV) : (AV.agg xs).cells = xs := (rfl)
theorem cells_lit (v : Value) : (AV.lit v).cells = [.lit v] := (rfl)
theorem cells_sl (t : Tag) (k : Nat) (xs : List AV) : (AV.sl t k xs).cells = [.sl t k xs] := (rfl)
theorem splice_nil (xs : List AV) (o : Nat) : splice xs o [] = xs := (rfl)
theorem splice_cons (xs : List AV) (o : Nat) (c : AV) (cs : List AV) : splice xs o (c :: cs) = splice (xs.set o c) (o + 1) cs := (rfl)

variable {ρ : Operand → AV} {K : KT}
theorem e_mov (x : Operand) : effK P (.mov x) ρ S K = K (ρ x) [] [] [] := (rfl)
theorem e_pick (c a b : Operand) : effK P (.pick c a b) ρ S K = kPick (ρ c) (ρ a) (ρ b) K := (rfl)
theorem e_new (zs : List Value) : effK P (.new zs) ρ S K = K (.ref S.length 0) [] [] [.cells (zs.map AV.ofC1)] := (rfl)
theorem e_box (x : Operand) : effK P (.box x) ρ S K = kBox (ρ x) S.length K := (rfl)
theorem e_build (zs : List Value) (ps : List (Nat × Nat × Operand)) : effK P (.build zs ps) ρ S K = kBuild (zs.map AV.ofC1) (ps.map fun p => (p.1, p.2.1, ρ p.2.2)) K := (rfl)
theorem e_bsl (k : Nat) (xs : List Operand) : effK P (.bsl k xs) ρ S K = kBsl k (xs.map ρ) K := (rfl)
theorem e_load (n : Option Nat) (a : Operand) : effK P (.load n a) ρ S K = kLoad n (ρ a) S K := (rfl)
theorem e_store (n : Nat) (a x : Operand) : effK P (.store n a x) ρ S K = kStore n (ρ a) (ρ x) S K := (rfl)
theorem e_nilc (x : Operand) : effK P (.nilc x) ρ S K = kNil (ρ x) K := (rfl)
theorem e_bin (op : BinOp) (x y : Operand) : effK P (.bin op x y) ρ S K = kBin op (ρ x) (ρ y) K := (rfl)
theorem e_eqb (b : Bool) (x y : Operand) : effK P (.eqb b x y) ρ S K = kEqb b (ρ x) (ρ y) K := (rfl)
theorem e_eqa (b : Bool) (n : Nat) (x y : Operand) : effK P (.eqa b n x y) ρ S K = kEqa b n (ρ x) (ρ y) K := (rfl)
theorem e_eqp (b : Bool) (x y : Operand) : effK P (.eqp b x y) ρ S K = kEqp b (ρ x) (ρ y) K := (rfl)
theorem e_un (op : UnOp) (x : Operand) : effK P (.un op x) ρ S K = kUn op (ρ x) K := (rfl)
theorem e_cvt (k : IntKind) (x : Operand) : effK P (.cvt k x) ρ S K = kCvt k (ρ x) K := (rfl)
theorem e_b2s (x : Operand) : effK P (.b2s x) ρ S K = kB2s (ρ x) K := (rfl)
theorem e_s2b (x : Operand) : effK P (.s2b x) ρ S K = kS2b (ρ x) K := (rfl)
theorem e_slice (k : Nat) (x : Operand) (lo hi mx : Option Operand) : effK P (.slice k x lo hi mx) ρ S K = kSlice k (ρ x) (lo.map ρ) (hi.map ρ) (mx.map ρ) K := (rfl)
theorem e_sstr (x : Operand) (lo hi : Option Operand) : effK P (.sstr x lo hi) ρ S K = kSstr (ρ x) (lo.map ρ) (hi.map ρ) K := (rfl)
theorem e_fadr (off : Nat) (x : Operand) : effK P (.fadr off x) ρ S K = kFadr off (ρ x) K := (rfl)
theorem e_fld (off : Nat) (n : Option Nat) (x : Operand) : effK P (.fld off n x) ρ S K = kFld off n (ρ x) K := (rfl)
theorem e_iadr (k : Nat) (x ix : Operand) : effK P (.iadr k x ix) ρ S K = kIadr k (ρ x) (ρ ix) K := (rfl)
theorem e_aadr (n k : Nat) (x ix : Operand) : effK P (.aadr n k x ix) ρ S K = kAadr n k (ρ x) (ρ ix) K := (rfl)
theorem e_idx (n k : Nat) (a : Option Nat) (x ix : Operand) : effK P (.idx n k a x ix) ρ S K = kIdx n k a (ρ x) (ρ ix) K := (rfl)
theorem e_sidx (x ix : Operand) : effK P (.sidx x ix) ρ S K = kSidx (ρ x) (ρ ix) K := (rfl)
theorem e_ext (x : Operand) (i : Nat) : effK P (.ext x i) ρ S K = kExt (ρ x) i K := (rfl)
theorem e_mkf (f : FuncId) (a b : List Operand) : effK P (.mkf f a b) ρ S K = K (.fn f (a.map ρ) (b.map ρ)) [] [] [] := (rfl)
theorem e_call (f : Operand) (args : List Operand) : effK P (.call f args) ρ S K = kCall P (ρ f) (args.map ρ) S K := (rfl)
theorem e_app (k b : Nat) (s x : Operand) : effK P (.app k b s x) ρ S K = kApp k b (ρ s) (ρ x) S K := (rfl)
theorem e_len (b : Bool) (x : Operand) : effK P (.len b x) ρ S K = kLen b (ρ x) K := (rfl)
theorem e_lenc (n : Nat) : effK P (.lenc n) ρ S K = K (.lit (.int .i64 n)) [] [] [] := (rfl)
theorem e_mx (b : Bool) (x y : Operand) : effK P (.mx b x y) ρ S K = kMx b (ρ x) (ρ y) K := (rfl)
theorem e_mksl (k b : Nat) (l c : Operand) : effK P (.mksl k b l c) ρ S K = kMksl k b (ρ l) (ρ c) S.length K := (rfl)
theorem kPick_lit (t : Bool) (x y : AV) : kPick (.lit (.bool t)) x y K = K (bif t then x else y) [] [] [] := (rfl)
theorem kBin_int (op : BinOp) (k k' : IntKind) (a b : Int) : kBin op (.lit (.int k a)) (.lit (.int k' b)) K = kInt op k a k' b K := (rfl)
theorem kBin_str (op : BinOp) (a b : ByteArray) : kBin op (.lit (.string a)) (.lit (.string b)) K = kStr op a b K := (rfl)
theorem i_add (k : IntKind) (a b : Int) : kInt .add k a k b K = K (.lit (.int k (k.wrap (a + b)))) [] [] [] := by simp [kInt]
theorem i_sub (k : IntKind) (a b : Int) : kInt .sub k a k b K = K (.lit (.int k (k.wrap (a - b)))) [] [] [] := by simp [kInt]
theorem i_mul (k : IntKind) (a b : Int) : kInt .mul k a k b K = K (.lit (.int k (k.wrap (a * b)))) [] [] [] := by simp [kInt]
theorem i_quo (k : IntKind) (a b : Int) : kInt .quo k a k b K = (b ≠ 0 ∧ K (.lit (.int k (k.wrap (a.tdiv b)))) [] [] []) := by simp [kInt]
theorem i_rem (k : IntKind) (a b : Int) : kInt .rem k a k b K = (b ≠ 0 ∧ K (.lit (.int k (a.tmod b))) [] [] []) := by simp [kInt]
theorem i_and (k : IntKind) (a b : Int) : kInt .and k a k b K = K (.lit (.int k (bitsI .and k a b))) [] [] [] := by simp [kInt]
theorem i_or (k : IntKind) (a b : Int) : kInt .or k a k b K = K (.lit (.int k (bitsI .or k a b))) [] [] [] := by simp [kInt]
theorem i_xor (k : IntKind) (a b : Int) : kInt .xor k a k b K = K (.lit (.int k (bitsI .xor k a b))) [] [] [] := by simp [kInt]
theorem i_andNot (k : IntKind) (a b : Int) : kInt .andNot k a k b K = K (.lit (.int k (bitsI .andNot k a b))) [] [] [] := by simp [kInt]
theorem i_shl (k k' : IntKind) (a b : Int) : kInt .shl k a k' b K = (0 ≤ b ∧ K (.lit (.int k (k.wrap (a * 2 ^ min b.toNat k.bits)))) [] [] []) := (rfl)
theorem i_shr (k k' : IntKind) (a b : Int) : kInt .shr k a k' b K = (0 ≤ b ∧ K (.lit (.int k (a.fdiv (2 ^ min b.toNat k.bits)))) [] [] []) := (rfl)
theorem i_eql (k : IntKind) (a b : Int) : kInt .eql k a k b K = K (.lit (.bool (a == b))) [] [] [] := by simp [kInt]
theorem i_neq (k : IntKind) (a b : Int) : kInt .neq k a k b K = K (.lit (.bool (a != b))) [] [] [] := by simp [kInt]
theorem i_lss (k : IntKind) (a b : Int) : kInt .lss k a k b K = K (.lit (.bool (decide (a < b)))) [] [] [] := by simp [kInt]
theorem i_leq (k : IntKind) (a b : Int) : kInt .leq k a k b K = K (.lit (.bool (decide (a ≤ b)))) [] [] [] := by simp [kInt]
theorem i_gtr (k : IntKind) (a b : Int) : kInt .gtr k a k b K = K (.lit (.bool (decide (b < a)))) [] [] [] := by simp [kInt]
theorem i_geq (k : IntKind) (a b : Int) : kInt .geq k a k b K = K (.lit (.bool (decide (b ≤ a)))) [] [] [] := by simp [kInt]
theorem s_eql (a b : ByteArray) : kStr .eql a b K = K (.lit (.bool (a.toList == b.toList))) [] [] [] := (rfl)
theorem s_neq (a b : ByteArray) : kStr .neq a b K = K (.lit (.bool (!(a.toList == b.toList)))) [] [] [] := (rfl)
theorem kBox_int (k : IntKind) (a : Int) (n : Nat) : kBox (.lit (.int k a)) n K = K (.ref n 0) [] [] [.cells [.lit (.int k a)]] := (rfl)
theorem kBox_bool (b : Bool) (n : Nat) : kBox (.lit (.bool b)) n K = K (.ref n 0) [] [] [.cells [.lit (.bool b)]] := (rfl)
theorem kBox_agg (xs : List AV) (n : Nat) : kBox (.agg xs) n K = K (.ref n 0) [] [] [.cells xs] := (rfl)
theorem kBox_ref (i o : Nat) (n : Nat) : kBox (.ref i o) n K = K (.ref n 0) [] [] [.cells [.ref i o]] := (rfl)
theorem kBox_sl (t : Tag) (k : Nat) (xs : List AV) (n : Nat) : kBox (.sl t k xs) n K = K (.ref n 0) [] [] [.cells [.sl t k xs]] := (rfl)
theorem kBuild_eq (cells : List AV) (ps : List (Nat × Nat × AV)) : kBuild cells ps K = match fillA cells ps with
    | some cs => K (.agg cs) [] [] []
    | none => False := (rfl)
theorem fillA_nil (cells : List AV) : fillA cells [] = some cells := (rfl)
theorem fillA_cons (cells : List AV) (off size : Nat) (x : AV) (rest : List (Nat × Nat × AV)) : fillA cells ((off, size, x) :: rest) = match x.parts with
    | some cs => if cs.length = size ∧ off + size ≤ cells.length then fillA (splice cells off cs) rest else none
    | none => none := (rfl)
theorem kBsl_eq (k : Nat) (xs : List AV) : kBsl k xs K = (xs.all (okEl k) = true ∧ K (.sl .full k xs) [] [] []) := (rfl)
theorem okEl_eq (k : Nat) (x : AV) : okEl k x = match x.parts with
    | some cs => cs.length == k
    | none => false := (rfl)
theorem l_iptr1 (x : AV) (cs : List AV) : kLoad none (.iptr (x :: cs)) S K = K x [] [] [] := (rfl)
theorem l_iptrn (n : Nat) (cs : List AV) : kLoad (some n) (.iptr cs) S K = (n ≤ cs.length ∧ K (.agg (cs.take n)) [] [] []) := (rfl)
theorem l_ref (n : Option Nat) (i o : Nat) : kLoad n (.ref i o) S K = match S[i]? with
    | some (.cells xs) => match n with
      | none => match xs[o]? with
        | some x => K x [i] [] []
        | none => False
      | some n => o + n ≤ xs.length ∧ K (.agg ((xs.drop o).take n)) [i] [] []
    | _ => False := (rfl)
theorem st_ref (n i o : Nat) (x : AV) : kStore n (.ref i o) x S K = match S[i]? with
    | some (.cells xs) => match x.parts with
      | some cs => cs.length = n ∧ o + n ≤ xs.length ∧ K .any [i] [(i, .cells (splice xs o cs))] []
      | none => False
    | _ => False := (rfl)
theorem l_mref (n : Option Nat) (j g o : Nat) : kLoad n (.mref j g o) S K = match S[j]? with
    | some (.mrow _ m xs) => m = g ∧ match n with
      | none => match xs[o]? with
        | some x => K x [j] [] []
        | none => False
      | some n => 0 < n ∧ o + n ≤ xs.length ∧ K (.agg ((xs.drop o).take n)) [j] [] []
    | _ => False := (rfl)
theorem st_mref (n j g o : Nat) (x : AV) : kStore n (.mref j g o) x S K = match S[j]? with
    | some (.mrow k m xs) => match x.parts with
      | some cs => m = g ∧ 0 < n ∧ cs.length = n ∧ o + n ≤ xs.length ∧ K .any [j] [(j, .mrow k m (splice xs o cs))] []
      | none => False
    | _ => False := (rfl)
theorem nil_mref (j g o : Nat) : kNil (.mref j g o) K = K (.mref j g o) [] [] [] := (rfl)
theorem fadr_mref (off j g o : Nat) : kFadr off (.mref j g o) K = K (.mref j g (o + off)) [] [] [] := (rfl)
theorem iadr_ms (k j g : Nat) (k1 : IntKind) (i : Int) : kIadr k (.ms j g) (.lit (.int k1 i)) K = (0 ≤ i ∧ i < g ∧ K (.mref j g (i.toNat * k)) [] [] []) := (rfl)
theorem len_ms (j g : Nat) : kLen false (.ms j g) K = K (.lit (.int .i64 g)) [] [] [] := (rfl)
theorem app_ms (k bytes j g ky : Nat) (t : Tag) (ys : List AV) : kApp k bytes (.ms j g) (.sl t ky ys) S K = match S[j]? with
    | some (.mrow k' m xs) => k' = k ∧ m = g ∧ (ky = k ∨ ys = []) ∧ (g + ys.length) * bytes ≤ 140737488355328 ∧ K (.ms j (g + ys.length)) [j] [(j, .mrow k (g + ys.length) (xs ++ flat ys))] []
    | _ => False := (rfl)
theorem app_slc (k bytes ks ky : Nat) (t : Tag) (xs ys : List AV) : kApp k bytes (.sl t ks xs) (.slc ky ys) S K =
    (t = .full ∧ xs = [] ∧ (ky = k ∨ ys = []) ∧ ys.length * bytes ≤ 140737488355328 ∧ K (.ms S.length ys.length) [] [] [.mrow k ys.length (flat ys)]) := (rfl)
theorem parts_ms (j g : Nat) : (AV.ms j g).parts = some [.ms j g] := (rfl)
theorem flat_cons (x : AV) (ys : List AV) : flat (x :: ys) = x.cells ++ flat ys := by simp [flat]
theorem nil_ref (i o : Nat) : kNil (.ref i o) K = K (.ref i o) [] [] [] := (rfl)
theorem nil_iptr (cs : List AV) : kNil (.iptr cs) K = K (.iptr cs) [] [] [] := (rfl)
theorem eqb_lit (neg a b : Bool) : kEqb neg (.lit (.bool a)) (.lit (.bool b)) K = K (.lit (.bool (if neg then !(a == b) else a == b))) [] [] [] := (rfl)
theorem eqa_agg (neg : Bool) (n : Nat) (xs ys : List AV) : kEqa neg n (.agg xs) (.agg ys) K = (xs.length = n ∧ eqOk xs ys = true ∧ K (.lit (.bool (if neg then !(cellsEq xs ys) else cellsEq xs ys))) [] [] []) := (rfl)
theorem cellsEq_nil : cellsEq [] [] = true := (rfl)
theorem cellsEq_cons (k k' : IntKind) (a b : Int) (xs ys : List AV) : cellsEq (.lit (.int k a) :: xs) (.lit (.int k' b) :: ys) = ((a == b) && cellsEq xs ys) := (rfl)
theorem eqOk_nil : eqOk [] [] = true := (rfl)
theorem eqOk_cons (k : IntKind) (a b : Int) (xs ys : List AV) : eqOk (.lit (.int k a) :: xs) (.lit (.int k b) :: ys) = eqOk xs ys := by simp [eqOk]
theorem eqp_ref (neg : Bool) (i o : Nat) : kEqp neg (.ref i o) (.lit (.pointer none)) K = K (.lit (.bool neg)) [] [] [] := (rfl)
theorem eqp_nil (neg : Bool) : kEqp neg (.lit (.pointer none)) (.lit (.pointer none)) K = K (.lit (.bool !neg)) [] [] [] := (rfl)
theorem un_neg (k : IntKind) (n : Int) : kUn .neg (.lit (.int k n)) K = K (.lit (.int k (k.wrap (0 - n)))) [] [] [] := (rfl)
theorem un_xor (k : IntKind) (n : Int) : kUn .xor (.lit (.int k n)) K = K (.lit (.int k (bitsI .xor k (if k.signed then -1 else k.max) n))) [] [] [] := (rfl)
theorem un_not (b : Bool) : kUn .not (.lit (.bool b)) K = K (.lit (.bool !b)) [] [] [] := (rfl)
theorem cvt_int (k k' : IntKind) (n : Int) : kCvt k (.lit (.int k' n)) K = K (.lit (.int k (k.wrap n))) [] [] [] := (rfl)
theorem b2s_sl (t : Tag) (k : Nat) (xs : List AV) : kB2s (.sl t k xs) K = ((k = 1 ∨ xs = []) ∧ xs.all (·.isU8) = true ∧ K (.lit (.string (bytesOf xs))) [] [] []) := (rfl)
theorem s2b_str (s : ByteArray) : kS2b (.lit (.string s)) K = (s.size ≤ 140737488355328 ∧ K (.sl .none 1 (s.data.toList.map fun b => .lit (.int .u8 b.toNat))) [] [] []) := (rfl)
theorem sli_lh (k ks : Nat) (t : Tag) (xs : List AV) (k1 k2 : IntKind) (l h : Int) : kSlice k (.sl t ks xs) (some (.lit (.int k1 l))) (some (.lit (.int k2 h))) none K =
    ((ks = k ∨ xs = []) ∧ 0 ≤ l ∧ l ≤ h ∧ h ≤ xs.length ∧ K (.sl .none ks ((xs.drop l.toNat).take (h - l).toNat)) [] [] []) := (rfl)
theorem sli_h (k ks : Nat) (t : Tag) (xs : List AV) (k2 : IntKind) (h : Int) : kSlice k (.sl t ks xs) none (some (.lit (.int k2 h))) none K =
    ((ks = k ∨ xs = []) ∧ 0 ≤ h ∧ h ≤ xs.length ∧ K (.sl .none ks (xs.take h.toNat)) [] [] []) := by
  simp [kSlice, bnd, AV.i, sTag]
theorem sli_l_full (k ks : Nat) (xs : List AV) (k1 : IntKind) (l : Int) : kSlice k (.sl .full ks xs) (some (.lit (.int k1 l))) none none K =
    ((ks = k ∨ xs = []) ∧ 0 ≤ l ∧ l ≤ xs.length ∧ K (.sl .full ks (xs.drop l.toNat)) [] [] []) := by
  simp only [kSlice, bnd, AV.i, sTag, Int.le_refl, true_and]
  congr 4
  funext
  rw [List.take_of_length_le]
  simp; omega
theorem sli_l_none (k ks : Nat) (xs : List AV) (k1 : IntKind) (l : Int) : kSlice k (.sl .none ks xs) (some (.lit (.int k1 l))) none none K =
    ((ks = k ∨ xs = []) ∧ 0 ≤ l ∧ l ≤ xs.length ∧ K (.sl .none ks (xs.drop l.toNat)) [] [] []) := by
  simp only [kSlice, bnd, AV.i, sTag, Int.le_refl, true_and]
  congr 4
  funext
  rw [List.take_of_length_le]
  simp; omega
theorem sli_hm (k ks : Nat) (t : Tag) (xs : List AV) (k2 k3 : IntKind) (h m : Int) : kSlice k (.sl t ks xs) none (some (.lit (.int k2 h))) (some (.lit (.int k3 m))) K =
    ((ks = k ∨ xs = []) ∧ 0 ≤ h ∧ h ≤ xs.length ∧ m = h ∧ K (.sl .full ks (xs.take h.toNat)) [] [] []) := by
  simp [kSlice, bnd, AV.i]
theorem fadr_ref (off i o : Nat) : kFadr off (.ref i o) K = K (.ref i (o + off)) [] [] [] := (rfl)
theorem fadr_iptr (off : Nat) (cs : List AV) : kFadr off (.iptr cs) K = K (.iptr (cs.drop off)) [] [] [] := (rfl)
theorem fld_one (off : Nat) (xs : List AV) : kFld off none (.agg xs) K = match xs[off]? with
    | some x => K x [] [] []
    | none => False := (rfl)
theorem fld_n (off n : Nat) (xs : List AV) : kFld off (some n) (.agg xs) K = (off + n ≤ xs.length ∧ K (.agg ((xs.drop off).take n)) [] [] []) := (rfl)
theorem iadr_sl (k ks : Nat) (t : Tag) (xs : List AV) (k1 : IntKind) (i : Int) : kIadr k (.sl t ks xs) (.lit (.int k1 i)) K = (ks = k ∧ 0 ≤ i ∧ i < xs.length ∧ K (.iptr (xs.getD i.toNat .any).cells) [] [] []) := (rfl)
theorem aadr_ref (len k i o : Nat) (k1 : IntKind) (n : Int) : kAadr len k (.ref i o) (.lit (.int k1 n)) K = (0 ≤ n ∧ n < len ∧ K (.ref i (o + n.toNat * k)) [] [] []) := (rfl)
theorem aadr_iptr (len k : Nat) (cs : List AV) (k1 : IntKind) (n : Int) : kAadr len k (.iptr cs) (.lit (.int k1 n)) K = (0 ≤ n ∧ n < len ∧ K (.iptr (cs.drop (n.toNat * k))) [] [] []) := (rfl)
theorem idx_agg (len k : Nat) (n : Option Nat) (xs : List AV) (k1 : IntKind) (i : Int) : kIdx len k n (.agg xs) (.lit (.int k1 i)) K = (0 ≤ i ∧ i < len ∧ kFld (i.toNat * k) n (.agg xs) K) := (rfl)
theorem ext_tup (xs : List AV) (i : Nat) : kExt (.tup xs) i K = match xs[i]? with
    | some x => K x [] [] []
    | none => False := (rfl)
theorem call_fn (f : FuncId) (a b args : List AV) : kCall P (.fn f a b) args S K = CallK P f (a ++ args ++ b) S K := (rfl)
theorem app_full (k bytes ks ky : Nat) (t : Tag) (xs ys : List AV) : kApp k bytes (.sl .full ks xs) (.sl t ky ys) S K =
    ((ks = k ∨ xs = []) ∧ (ky = k ∨ ys = []) ∧ (xs.length + ys.length) * bytes ≤ 140737488355328 ∧ K (.sl (.row S.length) k (xs ++ ys)) [] [] [.row k (xs.length + ys.length)]) := (rfl)
theorem app_row (k bytes ks ky j : Nat) (t : Tag) (xs ys : List AV) : kApp k bytes (.sl (.row j) ks xs) (.sl t ky ys) S K =
    ((ks = k ∨ xs = []) ∧ (ky = k ∨ ys = []) ∧ (xs.length + ys.length) * bytes ≤ 140737488355328 ∧ S[j]? = some (.row k xs.length) ∧ K (.sl (.row j) k (xs ++ ys)) [j] [(j, .row k (xs.length + ys.length))] []) := (rfl)
theorem len_sl (t : Tag) (k : Nat) (xs : List AV) : kLen false (.sl t k xs) K = K (.lit (.int .i64 xs.length)) [] [] [] := (rfl)
theorem len_str (s : ByteArray) : kLen true (.lit (.string s)) K = K (.lit (.int .i64 s.size)) [] [] [] := (rfl)
theorem mx_int (b : Bool) (k k' : IntKind) (x y : Int) : kMx b (.lit (.int k x)) (.lit (.int k' y)) K = K (.lit (.int k (if b then (if y > x then y else x) else if y < x then y else x))) [] [] [] := (rfl)

theorem okTr_nil (tr : List (List Nat × List Nat)) : okTr [] tr = true := (rfl)
end
end Go.Proofs.Ytnfagphepkeedaa
end
section
namespace Go.Proofs.Ytnfagphepkeedaa

def qFin (P : Program) (m : Nat) (fn : Func) (r : AV) (S' : List AObj) : QT := fun e tm S1 => (e = .ret ∨ e = .normal) ∧ FinK P m fn tm S1 r S'
section
variable {P : Program} {m : Nat} {fn : Func} {r : AV} {S' : List AObj} {tm : List AV} {S : List AObj}
theorem qFin_ret : qFin P m fn r S' .ret tm S = FinK P m fn tm S r S' := by simp [qFin]
theorem qFin_normal : qFin P m fn r S' .normal tm S = FinK P m fn tm S r S' := by simp [qFin]

theorem Does.run {f : FuncId} {c : C} {args : List AV} {tm : List AV} {n : Nat} (hf : P.funcs[f]? = some fn) (hb : fn.body.bind (compC P) = some c) (hname : (fn.name == "runtime.NumGoroutine") = false) (hn : fn.ntmps = n)
    (ht : args ++ List.replicate (n - args.length) .any = tm) (h : aw P S.length c tm S (qFin P S.length fn r S')) : Does P f args S r S' := by
  cases hbd : fn.body with
  | none => simp [hbd] at hb
  | some code =>
    simp [hbd] at hb
    refine Does.body hf hbd hname hb ?_
    rw [hn, ht]
    exact h

theorem okTr_and {u : List (Nat × Nat)} {tr : List (List Nat × List Nat)} {p : Prop} (h : okTr u tr = true) (hp : p) : okTr u tr = true ∧ p := ⟨h, hp⟩
/-- The results and the store, by places that are told one by one. -/
theorem FinK.fin {rv : List RV} (hr : compR P fn = some rv) (ids : List Nat) (hn : ids.Nodup) (hl : ids.length = S'.length) (hm : m ≤ S'.length) (hp : ids.take m = List.range m)
    (hT : ids.map (fun i => S[i]?) = S'.map fun o => some (o.ren (ixs ids S.length))) (hx0 : (resAL tm S rv).map oneOr = some (r.ren (ixs ids S.length))) : FinK P m fn tm S r S' := by
  obtain ⟨xs, h, hx⟩ : ∃ xs, resAL tm S rv = some xs ∧ r.ren (ixs ids S.length) = oneOr xs := by
    cases hq : resAL tm S rv with
    | none => simp [hq] at hx0
    | some xs => simp [hq] at hx0; exact ⟨xs, rfl, hx0.symm⟩
  refine FinK.sel (r' := oneOr xs) (FinK.res hr h) ids hn hl hm (fun k i hk hi => ?_) (fun k o ho => ?_) hx
  · have : (ids.take m)[k]? = some i := by rw [List.getElem?_take, if_pos (by omega)]; exact hi
    rw [hp, List.getElem?_range (by omega)] at this
    injection this with this; exact this.symm
  · have hk : k < ids.length := by rw [hl]; exact (List.getElem?_eq_some_iff.1 ho).1
    refine ⟨ids[k], by simp, ?_⟩
    have := congrArg (fun l : List (Option AObj) => l[k]?) hT
    simp only [List.getElem?_map, List.getElem?_eq_getElem hk, ho, Option.map_some] at this
    injection this

/-- Values without places. -/
theorem ren_lit (ρ : Nat → Nat) (v : Value) : (AV.lit v).ren ρ = .lit v := by simp [AV.ren]
theorem ren_ref (ρ : Nat → Nat) (i o : Nat) : (AV.ref i o).ren ρ = .ref (ρ i) o := by simp [AV.ren]
theorem ren_ms (ρ : Nat → Nat) (j g : Nat) : (AV.ms j g).ren ρ = .ms (ρ j) g := by simp [AV.ren]
theorem ren_slc (ρ : Nat → Nat) (k : Nat) (xs : List AV) : (AV.slc k xs).ren ρ = .slc k (xs.map fun x => x.ren ρ) := by simp [AV.ren]
theorem oren_mrow (ρ : Nat → Nat) (k n : Nat) (xs : List AV) : (AObj.mrow k n xs).ren ρ = .mrow k n (xs.map fun x => x.ren ρ) := (rfl)
theorem ren_any (ρ : Nat → Nat) : AV.any.ren ρ = .any := by simp [AV.ren]
theorem ren_agg (ρ : Nat → Nat) (xs : List AV) : (AV.agg xs).ren ρ = .agg (xs.map fun x => x.ren ρ) := by simp [AV.ren]
theorem ren_tup (ρ : Nat → Nat) (xs : List AV) : (AV.tup xs).ren ρ = .tup (xs.map fun x => x.ren ρ) := by simp [AV.ren]
theorem ren_sl (ρ : Nat → Nat) (t : Tag) (k : Nat) (xs : List AV) : (AV.sl t k xs).ren ρ = .sl (t.ren ρ) k (xs.map fun x => x.ren ρ) := by simp [AV.ren]
theorem ren_fn (ρ : Nat → Nat) (f : FuncId) (a b : List AV) : (AV.fn f a b).ren ρ = .fn f (a.map fun x => x.ren ρ) (b.map fun x => x.ren ρ) := by simp [AV.ren]
theorem tren_none (ρ : Nat → Nat) : Tag.none.ren ρ = .none := (rfl)
theorem tren_full (ρ : Nat → Nat) : Tag.full.ren ρ = .full := (rfl)
theorem tren_row (ρ : Nat → Nat) (j : Nat) : (Tag.row j).ren ρ = .row (ρ j) := (rfl)
theorem oren_cells (ρ : Nat → Nat) (xs : List AV) : (AObj.cells xs).ren ρ = .cells (xs.map fun x => x.ren ρ) := (rfl)
theorem oren_row (ρ : Nat → Nat) (k n : Nat) : (AObj.row k n).ren ρ = .row k n := (rfl)
theorem oren_dead (ρ : Nat → Nat) : AObj.dead.ren ρ = .dead := (rfl)
theorem ixs_z (i : Nat) (ids : List Nat) (N : Nat) : ixs (i :: ids) N 0 = i := (rfl)
theorem ixs_1 (i j : Nat) (ids : List Nat) (N : Nat) : ixs (i :: j :: ids) N 1 = j := (rfl)
theorem ixs_2 (i j k : Nat) (ids : List Nat) (N : Nat) : ixs (i :: j :: k :: ids) N 2 = k := (rfl)
theorem ixs_3 (i j k l : Nat) (ids : List Nat) (N : Nat) : ixs (i :: j :: k :: l :: ids) N 3 = l := (rfl)

/-- Integers of one kind as abstract values. -/
def ints (k : IntKind) (l : List Int) : List AV := l.map fun z => .lit (.int k z)
theorem ren_ints (ρ : Nat → Nat) (k : IntKind) (l : List Int) : (ints k l).map (fun x => x.ren ρ) = ints k l := by simp [ints, AV.ren]
theorem ints_length (k : IntKind) (l : List Int) : (ints k l).length = l.length := by simp [ints]
theorem ints_append (k : IntKind) (l m : List Int) : ints k l ++ ints k m = ints k (l ++ m) := by simp [ints]
theorem ints_nil (k : IntKind) : ints k [] = [] := (rfl)
theorem ints_cons (k : IntKind) (z : Int) (l : List Int) : ints k (z :: l) = .lit (.int k z) :: ints k l := (rfl)
theorem ints_getD (k : IntKind) (l : List Int) (i : Nat) (h : i < l.length) : (ints k l).getD i .any = .lit (.int k (l.getD i 0)) := by
  simp [ints, h]
theorem ints_u8 (l : List Int) : (ints .u8 l).all (·.isU8) = true := by simp [ints, AV.isU8]
theorem okEl_int (k : IntKind) (z : Int) : okEl 1 (.lit (.int k z)) = true := (rfl)
theorem ints_okEl (k : IntKind) (l : List Int) : (ints k l).all (okEl 1) = true := by simp [ints, okEl_int]
theorem w64_1 : IntKind.i64.wrap 1 = 1 := (rfl)
theorem w64_2 : IntKind.i64.wrap 2 = 2 := (rfl)
theorem w64_3 : IntKind.i64.wrap 3 = 3 := (rfl)
theorem w64_4 : IntKind.i64.wrap 4 = 4 := (rfl)
/-- A value told without whose slice it is. -/
def untag1 : AV → AV
  | .sl _ k xs => .sl .none k xs
  | x => x
def untag : AV → AV
  | .sl _ k xs => .sl .none k xs
  | .agg xs => .agg (xs.map untag1)
  | x => x
theorem rep_untag1 {G : Gh} {x : AV} {v : Value} (r : Rep G x v) : Rep G (untag1 x) v := by
  cases x with
  | sl t k xs => cases r with
    | sl vs hc hA hk h1 h2 h3 ht => exact .sl vs hc hA hk h1 h2 h3 trivial
  | _ => exact r
theorem rep_untag {G : Gh} {x : AV} {v : Value} (r : Rep G x v) : Rep G (untag x) v := by
  cases x with
  | sl t k xs => exact rep_untag1 (x := .sl t k xs) r
  | agg xs => cases r with
    | agg h0 h2 h3 => exact .agg (by simpa using h0) h2 (fun j x v hx hv => by
        obtain ⟨y, hy, rfl⟩ := map_get hx
        exact rep_untag1 (h3 j y v hy hv))
  | _ => exact r
theorem Wk.untag {tm : List AV} {S : List AObj} (t : Nat) {x : AV} (ht : tm[t]? = some x) : Wk m tm S (tm.set t (untag1 x)) S := fun G0 S0 w0 G a w _ hz => by
  have htl := (List.getElem?_eq_some_iff.1 ht).1
  refine ⟨G, hz.left, by simp [hz.size], fun t' y u hx hu => ?_, hz.defers, hz.wd0⟩
  by_cases et : t' = t
  · subst et
    simp [htl] at hx; subst hx
    exact rep_untag1 (hz.rep t' x u ht hu)
  · rw [List.getElem?_set_ne (Ne.symm et)] at hx
    exact hz.rep t' y u hx hu
theorem FinK.untag (t : Nat) {x : AV} (ht : tm[t]? = some x) (h : FinK P m fn (tm.set t (untag1 x)) S r S') : FinK P m fn tm S r S' := FinK.wk (Wk.untag t ht) h
/-- An object's slices told without whose they are. -/
theorem Wk.unobj {tm : List AV} {S : List AObj} (i : Nat) {xs : List AV} (hi : S[i]? = some (.cells xs)) : Wk m tm S tm (S.set i (.cells (xs.map untag1))) := fun G0 S0 w0 G a w _ hz => by
  refine ⟨G, hz.left.trans (Left.reobj hz.left.wd hi (by simp) fun k x v hx h => ?_), hz.size, hz.rep, hz.defers, hz.wd0⟩
  obtain ⟨y, hy, rfl⟩ := map_get hx
  exact rep_untag1 (h y hy)
theorem FinK.unobj (i : Nat) {xs : List AV} (hi : S[i]? = some (.cells xs)) (h : FinK P m fn tm (S.set i (.cells (xs.map untag1))) r S') : FinK P m fn tm S r S' := FinK.wk (Wk.unobj i hi) h
theorem untag1_lit (v : Value) : untag1 (.lit v) = .lit v := (rfl)
theorem untag1_sl (t : Tag) (k : Nat) (xs : List AV) : untag1 (.sl t k xs) = .sl .none k xs := (rfl)
theorem Does.untag {f : FuncId} {args : List AV} {S : List AObj} (h : Does P f (args.map untag) S r S') : Does P f args S r S' :=
  ⟨h.1, fun G w vs hw hr => h.2 G w vs hw ⟨by simpa using hr.1, fun j x v hx hv => by
    obtain ⟨y, hy, rfl⟩ := map_get hx
    exact rep_untag (hr.2 j y v hy hv)⟩⟩
theorem Ct.untag {f : FuncId} {args : List AV} {rd : List (Nat × AObj)} {r : Nat → AV} {upd : List (Nat × AObj)} {new : Nat → List AObj} (h : Ct P f (args.map untag) rd r upd new) : Ct P f args rd r upd new :=
  fun T n h1 h2 => (h T n h1 h2).untag

-- contracts out of small stores
theorem Ct.p {f : FuncId} {args : List AV} {r : AV} (h : Does P f args [] r []) (ha : ∀ ρ, args.map (fun x => x.ren ρ) = args) (hr : ∀ ρ, r.ren ρ = r) : Ct P f args [] (fun _ => r) [] (fun _ => []) :=
  Ct.mk h [] (by simp) rfl (by simp) (by simp) (fun n N => ha _) (fun n N => hr _) (fun n N => rfl) (.inl fun n N => rfl) (fun n N => rfl)
theorem Ct.r1 {f : FuncId} {args args₀ : List AV} {o : AObj} {r : AV} (h : Does P f args₀ [o] r [o]) (i : Nat) (ha : ∀ N, args₀.map (fun x => x.ren (ixs [i] N)) = args) (ho : ∀ ρ, o.ren ρ = o) (hd : o ≠ .dead) (hr : ∀ ρ, r.ren ρ = r) : Ct P f args [(i, o)] (fun _ => r) [] (fun _ => []) :=
  Ct.mk h [i] (by simp) rfl (by simp) (by simpa using hd) (fun n N => ha N) (fun n N => hr _) (fun n N => by simp [ho]) (.inr ⟨rfl, rfl⟩) (fun n N => rfl)
theorem Ct.u1 {f : FuncId} {args args₀ : List AV} {o o' : AObj} {r : AV} (h : Does P f args₀ [o] r [o']) (i : Nat) (ha : ∀ N, args₀.map (fun x => x.ren (ixs [i] N)) = args) (ho : ∀ ρ, o.ren ρ = o) (ho' : ∀ ρ, o'.ren ρ = o') (hd : o ≠ .dead) (hr : ∀ ρ, r.ren ρ = r) :
    Ct P f args [(i, o)] (fun _ => r) [(i, o')] (fun _ => []) :=
  Ct.mk h [i] (by simp) rfl (by simp) (by simpa using hd) (fun n N => ha N) (fun n N => hr _) (fun n N => by simp [ho]) (.inl fun n N => by simp [ho']) (fun n N => rfl)
/-- A result in new objects. -/
theorem Ct.n {f : FuncId} {args : List AV} {r₀ : AV} {r : Nat → AV} {S₁ : List AObj} {new : Nat → List AObj} (h : Does P f args [] r₀ S₁) (ha : ∀ ρ, args.map (fun x => x.ren ρ) = args) (hr : ∀ n N, r₀.ren (ixs (List.range' n S₁.length) N) = r n)
    (hn : ∀ n N, (S₁.map fun o => o.ren (ixs (List.range' n S₁.length) N)) = new n) : Ct P f args [] r [] new :=
  Ct.mk h [] (by simp) rfl (by simp) (by simp) (fun n N => ha _) (fun n N => by simpa using hr n N) (fun n N => rfl) (.inl fun n N => rfl) (fun n N => by simpa using hn n N)
/-- A result in new objects, one object turned. -/
theorem Ct.un {f : FuncId} {args args₀ : List AV} {o o' : AObj} {r₀ : AV} {r : Nat → AV} {S₁ : List AObj} {new : Nat → List AObj} (h : Does P f args₀ [o] r₀ (o' :: S₁)) (i : Nat) (ha : ∀ n N, args₀.map (fun x => x.ren (ixs (i :: List.range' n S₁.length) N)) = args) (ho : ∀ ρ, o.ren ρ = o) (ho' : ∀ ρ, o'.ren ρ = o') (hd : o ≠ .dead)
    (hr : ∀ n N, r₀.ren (ixs (i :: List.range' n S₁.length) N) = r n) (hn : ∀ n N, (S₁.map fun o => o.ren (ixs (i :: List.range' n S₁.length) N)) = new n) : Ct P f args [(i, o)] r [(i, o')] new :=
  Ct.mk h [i] (by simp) rfl (by simp) (by simpa using hd) (fun n N => by simpa using ha n N) (fun n N => by simpa using hr n N) (fun n N => by simp [ho]) (.inl fun n N => by simp [ho']) (fun n N => by simpa using hn n N)

theorem Does.toCt {f : FuncId} {args : List AV} {r : AV} (h : Does P f args [] r []) (ha : ∀ ρ, args.map (fun x => x.ren ρ) = args) (hr : ∀ ρ, r.ren ρ = r) : Ct P f args [] (fun _ => r) [] (fun _ => []) := Ct.p h ha hr
-- contracts at a call
variable {K : KT} {f : FuncId} {args : List AV}
theorem CallK.p {r : AV} (h : Ct P f (args.map Proofs.Ytnfagphepkeedaa.untag) [] (fun _ => r) [] (fun _ => [])) (hK : K r [] [] []) : CallK P f args S K := CallK.of h.untag (by simp) (by simp) hK
theorem CallK.r1 {r : AV} {i : Nat} {o : AObj} (h : Ct P f (args.map Proofs.Ytnfagphepkeedaa.untag) [(i, o)] (fun _ => r) [] (fun _ => [])) (hS : S[i]? = some o) (hK : K r [i] [] []) : CallK P f args S K := CallK.of h.untag (by simpa using hS) (by simp) hK
theorem CallK.u1 {r : AV} {i : Nat} {o o' : AObj} (h : Ct P f (args.map Proofs.Ytnfagphepkeedaa.untag) [(i, o)] (fun _ => r) [(i, o')] (fun _ => [])) (hS : S[i]? = some o) (hK : K r [i] [(i, o')] []) : CallK P f args S K := CallK.of h.untag (by simpa using hS) (by simp) hK
theorem CallK.n {r : Nat → AV} {new : Nat → List AObj} (h : Ct P f (args.map Proofs.Ytnfagphepkeedaa.untag) [] r [] new) (hK : K (r S.length) [] [] (new S.length)) : CallK P f args S K := CallK.of h.untag (by simp) (by simp) hK
theorem CallK.un {r : Nat → AV} {i : Nat} {o o' : AObj} {new : Nat → List AObj} (h : Ct P f (args.map Proofs.Ytnfagphepkeedaa.untag) [(i, o)] r [(i, o')] new) (hS : S[i]? = some o) (hK : K (r S.length) [i] [(i, o')] (new S.length)) : CallK P f args S K := CallK.of h.untag (by simpa using hS) (by simp) hK
end
end Go.Proofs.Ytnfagphepkeedaa
end
section
namespace Go.Proofs.Ytnfagphepkeedaa
variable {P : Program} {S : List AObj} {K : KT} {f : FuncId} {args args₀ : List AV}

theorem Ct.u2 {o₀ p₀ o₁ p₁ o p o' p' : AObj} {r : AV} (h : Does P f args₀ [o₀, p₀] r [o₁, p₁]) (i j : Nat) (hij : i ≠ j) (ha : ∀ N, args₀.map (fun x => x.ren (ixs [i, j] N)) = args)
    (ho : ∀ N, o₀.ren (ixs [i, j] N) = o) (hp : ∀ N, p₀.ren (ixs [i, j] N) = p) (ho' : ∀ N, o₁.ren (ixs [i, j] N) = o') (hp' : ∀ N, p₁.ren (ixs [i, j] N) = p') (hd : o₀ ≠ .dead) (hd' : p₀ ≠ .dead) (hr : ∀ ρ, r.ren ρ = r) :
    Ct P f args [(i, o), (j, p)] (fun _ => r) [(i, o'), (j, p')] (fun _ => []) :=
  Ct.mk h [i, j] (by simpa using hij) rfl (by simp) (by simp [hd, hd']) (fun n N => by simpa using ha N) (fun n N => hr _) (fun n N => by simp [ho, hp]) (.inl fun n N => by simp [ho', hp']) (fun n N => rfl)
theorem Ct.r2 {o₀ p₀ o p : AObj} {r : AV} (h : Does P f args₀ [o₀, p₀] r [o₀, p₀]) (i j : Nat) (hij : i ≠ j) (ha : ∀ N, args₀.map (fun x => x.ren (ixs [i, j] N)) = args)
    (ho : ∀ N, o₀.ren (ixs [i, j] N) = o) (hp : ∀ N, p₀.ren (ixs [i, j] N) = p) (hd : o₀ ≠ .dead) (hd' : p₀ ≠ .dead) (hr : ∀ ρ, r.ren ρ = r) :
    Ct P f args [(i, o), (j, p)] (fun _ => r) [] (fun _ => []) :=
  Ct.mk h [i, j] (by simpa using hij) rfl (by simp) (by simp [hd, hd']) (fun n N => by simpa using ha N) (fun n N => hr _) (fun n N => by simp [ho, hp]) (.inr ⟨rfl, rfl⟩) (fun n N => rfl)
theorem CallK.r2 {r : AV} {i j : Nat} {o p : AObj} (h : Ct P f (args.map Proofs.Ytnfagphepkeedaa.untag) [(i, o), (j, p)] (fun _ => r) [] (fun _ => [])) (hS : S[i]? = some o) (hS' : S[j]? = some p) (hK : K r [i, j] [] []) : CallK P f args S K := CallK.of h.untag (by simp [hS, hS']) (by simp) hK
theorem CallK.u2 {r : AV} {i j : Nat} {o p o' p' : AObj} (h : Ct P f (args.map Proofs.Ytnfagphepkeedaa.untag) [(i, o), (j, p)] (fun _ => r) [(i, o'), (j, p')] (fun _ => [])) (hS : S[i]? = some o) (hS' : S[j]? = some p) (hK : K r [i, j] [(i, o'), (j, p')] []) : CallK P f args S K := CallK.of h.untag (by simp [hS, hS']) (by simp) hK
end Go.Proofs.Ytnfagphepkeedaa
end
section
namespace Go.Proofs.Ytnfagphepkeedaa
attribute [go_sem]
  rounds_cons qRds_normal qRds_ret qRds_exit qRds_goto qLoop_normal qLoop_ret qLoop_exit qScope_normal qScope_ret qScope_exit qScope_goto qScoped_normal qScoped_ret
  qScoped_exit qScoped_goto qSeq_normal qSeq_ret qSeq_exit qSeq_goto qBlock_normal qBlock_ret qBlock_exit qBlock_goto cdK_true cdK_false aw_skip aw_reg
  aw_seq aw_cond aw_block aw_exit aw_label aw_goto aw_ret kReg_pure aReg_nil aReg_nil0 aReg_cons aReg_guard gdF_tt gdF_ff
  gdF_tf gdF_ft gdF_undef setD_some setD_none ev_tmp ev_const ev_func ofC_int ofC_bool ofC_string ofC_nil ofC_ptr ofC1_int
  ofC1_bool ofC1_string ofC1_nil ofC1_ptr parts_lit_int parts_lit_bool parts_lit_string parts_lit_ptr parts_agg parts_ref parts_iptr parts_sl parts_fn cells_agg
  cells_lit cells_sl splice_nil splice_cons e_mov e_pick e_new e_box e_build e_bsl e_load e_store e_nilc e_bin
  e_eqb e_eqa e_eqp e_un e_cvt e_b2s e_s2b e_slice e_sstr e_fadr e_fld e_iadr e_aadr e_idx
  e_sidx e_ext e_mkf e_call e_app e_len e_lenc e_mx e_mksl kPick_lit kBin_int kBin_str i_add i_sub
  i_mul i_quo i_rem i_and i_or i_xor i_andNot i_shl i_shr i_eql i_neq i_lss i_leq i_gtr
  i_geq s_eql s_neq kBox_int kBox_bool kBox_agg kBox_ref kBox_sl kBuild_eq fillA_nil fillA_cons kBsl_eq okEl_eq l_iptr1
  l_iptrn l_ref st_ref l_mref st_mref nil_mref fadr_mref iadr_ms len_ms app_ms app_slc parts_ms flat_cons flat_nil nil_ref nil_iptr eqb_lit eqa_agg cellsEq_nil cellsEq_cons eqOk_nil eqOk_cons eqp_ref eqp_nil un_neg
  un_xor un_not cvt_int b2s_sl s2b_str fadr_ref fadr_iptr fld_one fld_n iadr_sl aadr_ref aadr_iptr idx_agg ext_tup call_fn
  app_full app_row len_sl len_str mx_int okTr_nil sli_lh sli_h sli_l_full sli_l_none sli_hm kReg_go List.getD_cons_zero List.getD_cons_succ
  List.set_cons_zero List.set_cons_succ List.getElem?_cons_zero List.getElem?_cons_succ List.map_cons List.map_nil List.length_cons List.length_nil List.nil_append List.cons_append List.append_nil updL_nil updL_cons newU
  List.replicate Nat.zero_add Nat.add_zero Option.map_some Option.map_none List.drop_zero List.drop_succ_cons List.take_succ_cons List.take_zero List.drop_nil List.take_nil and_true true_and Nat.le_refl
  Int.le_refl Nat.zero_le Bool.false_eq_true or_true true_or Bool.not_true Bool.not_false cond_true cond_false Int.cast_ofNat_Int List.all_cons List.all_nil okEl_int ints_okEl
  Bool.and_true Bool.and_self decide_false decide_true beq_self_eq_true bne_self_eq_false w64_1 w64_2 w64_3 w64_4
section
variable {P : Program} {m : Nat} {tm : List AV} {S : List AObj} {Q : QT}
end
attribute [simp] ren_ms ren_slc oren_mrow ren_lit ren_ref ren_any ren_agg ren_tup ren_sl ren_fn tren_none tren_full tren_row oren_cells oren_row oren_dead ixs_z ixs_1 ixs_2 ixs_3 ren_ints ints_nil
attribute [go_sem] qFin_ret qFin_normal zM zV zF zL zN zS zC zE zU zB zI zJ zG_eq
-- steps that many proofs take, each told once
theorem cl {p : Prop} (h : p := by (intros; simp [ixs, List.range'_succ])) : p := h
theorem sd {p : Prop} (h : p := by first | with_reducible assumption | omega | with_reducible rfl | (simp only [List.length_append, List.length_cons, List.length_nil, List.length_singleton]; omega) | (simp [ints_length, okEl_eq, AV.parts]; done) | (simp [ints_length, okEl_eq, AV.parts]; omega) | rfl) : p := h
section
variable {P : Program} {m : Nat} {fn : Func} {r : AV} {S' : List AObj} {tm : List AV} {S : List AObj}
theorem FinK.finB {rv : List RV} (hr : compR P fn = some rv) (ids : List Nat) (hT : ids.map (fun i => S[i]?) = S'.map fun o => some (o.ren (ixs ids S.length))) (hx0 : (resAL tm S rv).map oneOr = some (r.ren (ixs ids S.length)))
    (hn : ids.Nodup := by decide) (hl : ids.length = S'.length := by rfl) (hm : m ≤ S'.length := by simp) (hp : ids.take m = List.range m := by rfl) : FinK P m fn tm S r S' := FinK.fin hr ids hn hl hm hp hT hx0
theorem FinK.finA {rv : List RV} (hr : compR P fn = some rv) (ids : List Nat) (hn : ids.Nodup := by decide) (hl : ids.length = S'.length := by rfl) (hm : m ≤ S'.length := by simp) (hp : ids.take m = List.range m := by rfl)
    (hT : ids.map (fun i => S[i]?) = S'.map (fun o => some (o.ren (ixs ids S.length))) := by first | with_reducible rfl | (simp; done) | rfl) (hx0 : (resAL tm S rv).map oneOr = some (r.ren (ixs ids S.length)) := by simp [resAL, resA1, loadA, oneOr]) : FinK P m fn tm S r S' := FinK.fin hr ids hn hl hm hp hT hx0
theorem Does.runA {f : FuncId} {c : C} {args : List AV} {n : Nat} (hf : P.funcs[f]? = some fn) (hb : fn.body.bind (compC P) = some c) (hname : (fn.name == "runtime.NumGoroutine") = false) (hn : fn.ntmps = n) (h : aw P S.length c tm S (qFin P S.length fn r S'))
    (ht : args ++ List.replicate (n - args.length) .any = tm := by simp only [List.cons_append, List.nil_append, List.length_cons, List.length_nil, Nat.zero_add, Nat.reduceAdd, Nat.reduceSub, List.replicate]; rfl) : Does P f args S r S' := Does.run hf hb hname hn ht h
end
end Go.Proofs.Ytnfagphepkeedaa
end
end
section
namespace Go.Proofs.Ytnfagphepkeedaa
open Go.RowKit Go.ChangeShapes Go.WideShapes Go.ChangeAt

theorem take_snoc (l : List Int) (k : Nat) (h : k < l.length) : l.take (k + 1) = l.take k ++ [l.getD k 0] := by
  rw [List.take_succ_eq_append_getElem h]; simp [h]
theorem getD_mem (l : List Int) (k : Nat) (h : k < l.length) : l.getD k 0 ∈ l := by
  simp [h]

/-- A slice value that reads as integers of one kind, its cells in a block that F lets. -/
def RdI (k : IntKind) (w : World) (F : Nat → Prop) (v : Value) (l : List Int) : Prop :=
  ∃ A c, v = .slice A l.length c ∧ l.length ≤ c ∧ c ≤ maxLen ∧
    (0 < l.length → ∃ b o, A = some ⟨b, o, none⟩ ∧ F b ∧ ∀ i, i < l.length → w.cell? ⟨b, o + i, none⟩ = some (.int k (l.getD i 0)))
def U64s (l : List Int) : Prop := ∀ x ∈ l, 0 ≤ x ∧ x < 18446744073709551616
def Bys (l : List Int) : Prop := ∀ x ∈ l, 0 ≤ x ∧ x < 256

section
variable {H : Type} {enc : TypeId × Value → H} {P : Program}
/-- What was read before reads so behind a call that leaves the old blocks. -/
theorem all_stays (hlaid : laidOutB P = true) {W W' : World} (hb : Below W.heap.size W W') : ∀ (ts : List TypeId) (vs : List Value) (ds : List (DataW H)) (ps : List MemPlace),
    ts.all (fun t => P.readableRec t && decide (t < P.types.size)) = true →
    DataW.TrodAll enc P W 0 (fun _ => true) true ts vs ds ps → (∀ x ∈ ps, x.block < W.heap.size) →
    DataW.TrodAll enc P W' 0 (fun b => decide (b < W.heap.size)) true ts vs ds ps := by
  intro ts
  induction ts with
  | nil => intro vs ds ps _ h _; cases vs <;> cases ds <;> first | exact h | exact h.elim
  | cons t ts ih =>
    intro vs ds ps hr h hlt
    obtain ⟨v, vs', d, ds', p, q, rfl, rfl, rfl, h0, h1⟩ := trodAll_cons h
    simp only [List.all_cons, Bool.and_eq_true, decide_eq_true_eq] at hr
    exact ⟨p, q, Below.trod hlaid hr.1.1 hr.1.2 h0 hb (fun x hx => hlt x (List.mem_append_left _ hx)),
      ih vs' ds' q hr.2 h1 (fun x hx => hlt x (List.mem_append_right _ hx)), rfl⟩

/-- The law's row: it returned true, and what was there is as it was. -/
theorem law_post (hlaid : laidOutB P = true) {fn : Func} {s : ChangeSpec} {W W' : World} {args : Array Value} {ds gs : List (DataW H)} {before : List MemPlace}
    (hW : DataW.Whole enc P fn.params.toList s.vars false W args.toList ds gs before) (hv : s.vars = [])
    (hr : fn.params.toList.all (fun t => P.readableRec t && decide (t < P.types.size)) = true)
    (tb : TypeId) (ht : P.underlying tb = some .bool) (hres : fn.resultTypes = #[tb])
    (hfn : s.fn H (ds ++ gs) = { results := [.lit (.bool true)], args := ds }) (hb : Below W.heap.size W W') :
    s.post enc P fn false true false false W args (.bool true) W' := by
  have hW0 := hW
  obtain ⟨p, q, hA, hV, rfl, hfz, hnd⟩ := hW0
  rw [hv] at hV
  obtain ⟨rfl, rfl⟩ := trodVars_none hV
  refine ⟨ds, [], p ++ [], [], p, [], hW, ?_, ?_, ?_, hb.frame _, fun h => by cases h⟩
  · rw [hfn, hres]; exact trodAll_mk1 (shut_bool ht _)
  · rw [hfn]; exact all_stays hlaid hb _ _ _ _ hr hA (fun x hx => by simpa using hW.lt x (List.mem_append_left _ hx))
  · rw [hfn, hv]; rfl

theorem u64_wf {x : Int} (h : (Lit.int .u64 x).wf = true) : 0 ≤ x ∧ x < 18446744073709551616 := by
  simp [Lit.wf, IntKind.min, IntKind.max, IntKind.signed, IntKind.bits] at h
  omega
theorem u8_wf {x : Int} (h : (Lit.int .u8 x).wf = true) : 0 ≤ x ∧ x < 256 := by
  simp [Lit.wf, IntKind.min, IntKind.max, IntKind.signed, IntKind.bits] at h
  omega
theorem bys_wf {l : List Int} (h : ∀ n ∈ l, (Lit.int .u8 n).wf = true) : Bys l := fun x hx => u8_wf (h x hx)
theorem spot_none {a : Addr} {w : World} {u : Value} (h : w.cell? a = some u) : a.spot = none := by
  unfold World.cell? at h
  split at h
  · split at h
    · cases h
    · rename_i hs; cases hsp : a.spot with
      | none => rfl
      | some _ => rw [hsp] at hs; simp at hs
  · cases h
end
end Go.Proofs.Ytnfagphepkeedaa
end
section
section
namespace Go.Proofs.Ytnfagphepkeedaa

def vbF : Nat → Int → List Int
  | 0, x => [x]
  | n + 1, x => if x < 128 then [x] else (128 + x % 128) :: vbF n (x / 128)
/-- A number's bytes. -/
def vb (x : Int) : List Int := vbF 9 x
theorem vbF_eq : ∀ (n m : Nat) (x : Int), 0 ≤ x → x < 128 ^ (n + 1) → n ≤ m → vbF n x = vbF m x := by
  intro n
  induction n with
  | zero =>
    intro m x h0 h1 _
    cases m with
    | zero => rfl
    | succ m => simp only [vbF]; rw [if_pos (by omega)]
  | succ n ih =>
    intro m x h0 h1 hm
    obtain ⟨k, rfl⟩ : ∃ k, m = k + 1 := ⟨m - 1, by omega⟩
    simp only [vbF]
    by_cases h : x < 128
    · rw [if_pos h, if_pos h]
    · rw [if_neg h, if_neg h, ih k (x / 128) (by omega) ?_ (by omega)]
      rw [Int.pow_succ] at h1
      omega
theorem vb_lt {x : Int} (h : x < 128) : vb x = [x] := by unfold vb; simp only [vbF]; rw [if_pos h]
theorem vb_ge {x : Int} (h : 128 ≤ x) (h1 : x < 18446744073709551616) : vb x = (128 + x % 128) :: vb (x / 128) := by
  have e : vb x = (128 + x % 128) :: vbF 8 (x / 128) := by unfold vb; rw [show (9 : Nat) = 8 + 1 from rfl]; simp only [vbF]; rw [if_neg (by omega)]
  rw [e]
  unfold vb
  rw [vbF_eq 8 9 (x / 128) (by omega) (by omega) (by omega)]
theorem vb_bys : ∀ (n : Nat) (x : Int), 0 ≤ x → x < 128 ^ (n + 1) → Bys (vbF n x) := by
  intro n
  induction n with
  | zero => intro x h0 h1 y hy; simp [vbF] at hy; omega
  | succ n ih =>
    intro x h0 h1 y hy
    simp only [vbF] at hy
    split at hy
    · simp at hy; omega
    · rcases List.mem_cons.1 hy with rfl | hy
      · omega
      · exact ih (x / 128) (by omega) (by rw [Int.pow_succ] at h1; omega) y hy
theorem vb_by {x : Int} (h0 : 0 ≤ x) (h1 : x < 18446744073709551616) : Bys (vb x) := vb_bys 9 x h0 (by omega)
theorem vbF_len : ∀ (n : Nat) (x : Int), 1 ≤ (vbF n x).length ∧ (vbF n x).length ≤ n + 1 := by
  intro n
  induction n with
  | zero => intro x; simp [vbF]
  | succ n ih =>
    intro x
    simp only [vbF]
    split
    · simp
    · have := ih (x / 128); simp; omega
theorem vb_len (x : Int) : 1 ≤ (vb x).length ∧ (vb x).length ≤ 10 := vbF_len 9 x
/-- What the next number is: the code, how many bytes were looked at ahead of it (or with it, where it is right), the number; n bytes of it were read already. -/
def vgo : Int → List Int → Int × Int × Int
  | n, [] => (1, n, 0)
  | n, c :: t => if n = 9 ∧ 1 < c then (5, n, 0) else if 0 < n ∧ c = 0 then (4, n, 0) else if c < 128 then (0, n + 1, c)
    else ((vgo (n + 1) t).1, (vgo (n + 1) t).2.1, if (vgo (n + 1) t).1 = 0 then c % 128 + 128 * (vgo (n + 1) t).2.2 else 0)
/-- What is written is read, whatever stands behind. -/
theorem vgo_vbF : ∀ (k : Nat) (x : Int) (n : Int) (b : List Int), 0 ≤ x → 0 ≤ n → n + k ≤ 9 → x < 128 ^ (k + 1) → (n + k = 9 → x < 2 * 128 ^ k) → (0 < n → 0 < x) → vgo n (vbF k x ++ b) = (0, n + (vbF k x).length, x) := by
  intro k
  induction k with
  | zero =>
    intro x n b h0 hn h9 hx h2 hp
    simp only [vbF, List.cons_append, List.nil_append, vgo]
    rw [if_neg (by omega), if_neg (by omega), if_pos (by omega)]
    simp
  | succ k ih =>
    intro x n b h0 hn h9 hx h2 hp
    rw [Int.pow_succ] at hx
    simp only [vbF]
    by_cases h : x < 128
    · rw [if_pos h]
      simp only [List.cons_append, List.nil_append, vgo]
      rw [if_neg (by omega), if_neg (by omega), if_pos h]
      simp
    · rw [if_neg h]
      simp only [List.cons_append, vgo]
      rw [if_neg (by omega), if_neg (by omega), if_neg (by omega)]
      rw [ih (x / 128) (n + 1) b (by omega) (by omega) (by omega) (by omega) (fun e => by have := h2 (by omega); rw [Int.pow_succ] at this; omega) (fun _ => by omega)]
      simp only [if_true, List.length_cons, Prod.mk.injEq, true_and]
      refine ⟨by omega, by omega⟩
theorem vgo_vb {x : Int} (b : List Int) (h0 : 0 ≤ x) (h1 : x < 18446744073709551616) : vgo 0 (vb x ++ b) = (0, ((vb x).length : Int), x) := by
  have := vgo_vbF 9 x 0 b h0 (by omega) (by omega) (by omega) (fun _ => by omega) (fun h => by omega)
  simpa [vb] using this
/-- What is read is so written. -/
theorem vgo_once : ∀ (l : List Int) (n : Int) (k : Nat), Bys l → 0 ≤ n → n + k = 9 → (vgo n l).1 = 0 →
    vbF k (vgo n l).2.2 = l.take ((vgo n l).2.1 - n).toNat ∧ n < (vgo n l).2.1 ∧ (vgo n l).2.1 ≤ n + l.length ∧ 0 ≤ (vgo n l).2.2 ∧ (vgo n l).2.2 < 2 * 128 ^ k ∧ (0 < n → 0 < (vgo n l).2.2) := by
  intro l
  induction l with
  | nil => intro n k _ _ _ h; simp [vgo] at h
  | cons c t ih =>
    intro n k hb hn hk h
    have hc := hb c (List.mem_cons_self ..)
    simp only [vgo] at h ⊢
    by_cases h1 : n = 9 ∧ 1 < c
    · rw [if_pos h1] at h; simp at h
    rw [if_neg h1] at h ⊢
    by_cases h2 : 0 < n ∧ c = 0
    · rw [if_pos h2] at h; simp at h
    rw [if_neg h2] at h ⊢
    by_cases h3 : c < 128
    · rw [if_pos h3]
      refine ⟨?_, by simp only; omega, by simp; omega, by simp only; omega, ?_, fun h => by simp only; omega⟩
      · rw [show (n + 1 - n).toNat = 1 from by omega]
        cases k with
        | zero => simp [vbF]
        | succ k => simp only [vbF]; rw [if_pos h3]; simp
      · cases k with
        | zero => simp only [Int.pow_zero]; omega
        | succ k => simp only; have : (0 : Int) < 128 ^ k := Int.pow_pos (by omega); rw [Int.pow_succ]; omega
    · rw [if_neg h3] at h ⊢
      simp only at h ⊢
      obtain ⟨j, rfl⟩ : ∃ j, k = j + 1 := ⟨k - 1, by omega⟩
      obtain ⟨e1, e2, e3, e4, e5, e6⟩ := ih (n + 1) j (fun x hx => hb x (List.mem_cons_of_mem _ hx)) (by omega) (by omega) h
      rw [if_pos h]
      have e7 := e6 (by omega)
      refine ⟨?_, by omega, by simp; omega, by omega, ?_, fun _ => by omega⟩
      · simp only [vbF]
        rw [if_neg (by omega)]
        rw [show (c % 128 + 128 * (vgo (n + 1) t).2.2) / 128 = (vgo (n + 1) t).2.2 from by omega, e1]
        rw [show ((vgo (n + 1) t).2.1 - n).toNat = ((vgo (n + 1) t).2.1 - (n + 1)).toNat + 1 from by omega, List.take_succ_cons]
        congr 1
        omega
      · rw [Int.pow_succ]; omega
theorem vgo_back {l : List Int} (hb : Bys l) (h : (vgo 0 l).1 = 0) : vb (vgo 0 l).2.2 = l.take (vgo 0 l).2.1.toNat ∧ 1 ≤ (vgo 0 l).2.1 ∧ (vgo 0 l).2.1 ≤ l.length ∧ 0 ≤ (vgo 0 l).2.2 ∧ (vgo 0 l).2.2 < 18446744073709551616 := by
  obtain ⟨e1, e2, e3, e4, e5, _⟩ := vgo_once l 0 9 hb (by omega) (by omega) h
  refine ⟨by simpa [vb] using e1, by omega, by omega, e4, by omega⟩
/-- Of a fault the number is 0; its code is one of three; its place is within. -/
theorem vgo_fault : ∀ (l : List Int) (n : Int), 0 ≤ n → (vgo n l).1 ≠ 0 → (vgo n l).2.2 = 0 ∧ n ≤ (vgo n l).2.1 ∧ (((vgo n l).1 = 1 ∧ (vgo n l).2.1 = n + l.length) ∨ (((vgo n l).1 = 4 ∨ (vgo n l).1 = 5) ∧ (vgo n l).2.1 < n + l.length)) := by
  intro l
  induction l with
  | nil => intro n _ _; simp [vgo]
  | cons c t ih =>
    intro n hn h
    simp only [vgo] at h ⊢
    by_cases h1 : n = 9 ∧ 1 < c
    · rw [if_pos h1]; simp; omega
    rw [if_neg h1] at h ⊢
    by_cases h2 : 0 < n ∧ c = 0
    · rw [if_pos h2]; simp; omega
    rw [if_neg h2] at h ⊢
    by_cases h3 : c < 128
    · rw [if_pos h3] at h; simp at h
    rw [if_neg h3] at h ⊢
    simp only at h ⊢
    obtain ⟨e1, e2, e3⟩ := ih (n + 1) (by omega) h
    rw [if_neg h]
    refine ⟨rfl, by omega, ?_⟩
    rcases e3 with ⟨a, b⟩ | ⟨a, b⟩
    · left; exact ⟨a, by simp; omega⟩
    · right; exact ⟨a, by simp; omega⟩
end Go.Proofs.Ytnfagphepkeedaa
end
section
namespace Go.Proofs.Ytnfagphepkeedaa

def flt (c a : Int) : Int × Int := if c = 0 then (0, 0) else (c, a)
/-- A reader: its bytes, its place, its fault. -/
structure RS where
  l : List Int
  at_ : Int
  code : Int
  fat : Int
def RS.fail (s : RS) (c a : Int) : RS := if s.code = 0 then { s with code := (flt c a).1, fat := (flt c a).2 } else s
def RS.good (s : RS) : Bool := s.code == 0
def RS.left (s : RS) : Int := s.l.length - s.at_
def RS.ok (s : RS) : Prop := 0 ≤ s.at_ ∧ s.at_ ≤ s.l.length ∧ s.l.length ≤ 140737488355328
def RS.skip (s : RS) (n : Int) : RS × Bool :=
  if s.code = 0 then (if n < 0 then (s.fail 17 s.at_, false) else if s.left < n then (s.fail 1 s.l.length, false) else ({ s with at_ := s.at_ + n }, true)) else (s, false)
def RS.byte (s : RS) : RS × Int := if (s.skip 1).2 = true then ((s.skip 1).1, s.l.getD s.at_.toNat 0) else ((s.skip 1).1, 0)
def RS.take (s : RS) (n : Int) : RS × List Int := if (s.skip n).2 = true then ((s.skip n).1, (s.l.drop s.at_.toNat).take n.toNat) else ((s.skip n).1, [])
def RS.new (l : List Int) : RS := ⟨l, 0, 0, 0⟩

theorem skip_yes {s : RS} {n : Int} (h : (s.skip n).2 = true) : s.code = 0 ∧ 0 ≤ n ∧ n ≤ s.left ∧ (s.skip n).1 = { s with at_ := s.at_ + n } := by
  unfold RS.skip at h ⊢
  by_cases h1 : s.code = 0
  · rw [if_pos h1] at h ⊢
    by_cases h2 : n < 0
    · rw [if_pos h2] at h; cases h
    · rw [if_neg h2] at h ⊢
      by_cases h3 : s.left < n
      · rw [if_pos h3] at h; cases h
      · rw [if_neg h3]; exact ⟨h1, by omega, by omega, rfl⟩
  · rw [if_neg h1] at h; cases h
theorem fail_l (s : RS) (c a : Int) : (s.fail c a).l = s.l := by unfold RS.fail; split <;> rfl
theorem fail_at (s : RS) (c a : Int) : (s.fail c a).at_ = s.at_ := by unfold RS.fail; split <;> rfl
theorem RS.ok.fail {s : RS} (h : s.ok) (c a : Int) : (s.fail c a).ok := by unfold RS.ok; rw [fail_l, fail_at]; exact h
theorem RS.ok.skip {s : RS} (h : s.ok) (n : Int) : (s.skip n).1.ok ∧ (s.skip n).1.l = s.l := by
  by_cases hy : (s.skip n).2 = true
  · obtain ⟨h1, h2, h3, h4⟩ := skip_yes hy
    rw [h4]
    obtain ⟨a, b, c⟩ := h
    unfold RS.left at h3
    exact ⟨⟨by show 0 ≤ s.at_ + n; omega, by show s.at_ + n ≤ s.l.length; omega, c⟩, rfl⟩
  · unfold RS.skip at hy ⊢
    by_cases h1 : s.code = 0
    · rw [if_pos h1] at hy ⊢
      by_cases h2 : n < 0
      · rw [if_pos h2]; exact ⟨h.fail _ _, fail_l _ _ _⟩
      · rw [if_neg h2] at hy ⊢
        by_cases h3 : s.left < n
        · rw [if_pos h3]; exact ⟨h.fail _ _, fail_l _ _ _⟩
        · rw [if_neg h3] at hy; exact absurd rfl hy
    · rw [if_neg h1]; exact ⟨h, rfl⟩
theorem RS.ok.byte {s : RS} (h : s.ok) : s.byte.1.ok ∧ s.byte.1.l = s.l := by
  unfold RS.byte; split <;> exact h.skip 1
theorem RS.ok.take {s : RS} (h : s.ok) (n : Int) : (s.take n).1.ok ∧ (s.take n).1.l = s.l := by
  unfold RS.take; split <;> exact h.skip n
theorem RS.ok.new {l : List Int} (h : l.length ≤ 140737488355328) : (RS.new l).ok := ⟨Int.le_refl _, by simp [RS.new], h⟩
end Go.Proofs.Ytnfagphepkeedaa
end
section
namespace Go.Proofs.Ytnfagphepkeedaa
open Go.RowKit

theorem Bys.drop {l : List Int} (h : Bys l) (n : Nat) : Bys (l.drop n) := fun x hx => h x (List.mem_of_mem_drop hx)
theorem or128 : ∀ a : Fin 256, a.val ||| 128 = 128 + a.val % 128 := by decide +kernel
def RS.adv (s : RS) (i : Int) : RS := { s with at_ := s.at_ + i }
def RS.rest (s : RS) : List Int := s.l.drop s.at_.toNat
/-- The reader behind the next number, and that. -/
def RS.vint (s : RS) : RS × Int :=
  if s.code = 0 then
    (if (vgo 0 s.rest).1 = 0 then (s.adv (vgo 0 s.rest).2.1, (vgo 0 s.rest).2.2)
    else if (vgo 0 s.rest).1 = 1 then ({ s with at_ := s.l.length, code := 1, fat := s.l.length }, 0)
    else ({ s with at_ := s.at_ + (vgo 0 s.rest).2.1 + 1, code := (vgo 0 s.rest).1, fat := s.at_ + (vgo 0 s.rest).2.1 }, 0))
  else (s, 0)
theorem rest_len (s : RS) (h0 : 0 ≤ s.at_) (h1 : s.at_ ≤ s.l.length) : (s.rest.length : Int) = s.l.length - s.at_ := by
  unfold RS.rest; simp; omega
theorem vint_bad {s : RS} (hc : s.code ≠ 0) : s.vint = (s, 0) := by unfold RS.vint; rw [if_neg hc]
def RS.most (s : RS) (m : Int) : RS × Int := if m < s.vint.2 then (s.vint.1.fail 2 s.at_, 0) else s.vint
def RS.int (s : RS) (m : Int) : RS × Int := if 0 ≤ m then s.most m else (s.vint.1.fail 2 s.at_, 0)

theorem vint_range {s : RS} (hb : Bys s.l) : 0 ≤ s.vint.2 ∧ s.vint.2 < 18446744073709551616 := by
  unfold RS.vint
  split
  · split
    · rename_i h1 h2
      have := vgo_back (l := s.rest) (hb.drop _) h2
      exact ⟨this.2.2.2.1, this.2.2.2.2⟩
    · split <;> simp
  · simp

theorem new_rest (l : List Int) : (RS.new l).rest = l := by simp [RS.rest, RS.new]
end Go.Proofs.Ytnfagphepkeedaa
end
section
namespace Go.Proofs.Ytnfagphepkeedaa

structure WS where
  most : Int
  l : List Int
  code : Int
def WS.new (most : Int) : WS := ⟨max most 0, [], 0⟩
def WS.fail (s : WS) (c : Int) : WS := if s.code = 0 then { s with code := c } else s
def WS.put (s : WS) (m : List Int) : WS := if s.code = 0 then (if s.most - s.l.length < m.length then { s with code := 2 } else { s with l := s.l ++ m }) else s
def WS.bytes (s : WS) : List Int := if s.code = 0 then s.l else []
/-- A number's lowest bytes. -/
def lowBytes : Nat → Int → List Int
  | 0, _ => []
  | n + 1, x => x % 256 :: lowBytes n (x / 256)
theorem lowBytes_len (n : Nat) : ∀ x : Int, (lowBytes n x).length = n := by
  induction n with
  | zero => intro x; rfl
  | succ n ih => intro x; simp [lowBytes, ih]
theorem lowBytes_bys (n : Nat) : ∀ x : Int, Bys (lowBytes n x) := by
  induction n with
  | zero => intro x y hy; simp [lowBytes] at hy
  | succ n ih =>
    intro x y hy
    simp only [lowBytes, List.mem_cons] at hy
    rcases hy with rfl | hy
    · omega
    · exact ih _ y hy

def WS.ok (s : WS) : Prop := 0 ≤ s.most ∧ s.most < 9223372036854775808 ∧ s.l.length ≤ s.most
def WS.room (s : WS) : Int := s.most - s.l.length
theorem WS.ok.new {n : Int} (h : n < 9223372036854775808) : (WS.new n).ok := by
  refine ⟨?_, ?_, ?_⟩ <;> simp [WS.new] <;> omega
theorem fail_parts (s : WS) (c : Int) : (s.fail c).most = s.most ∧ (s.fail c).l = s.l := by unfold WS.fail; split <;> exact ⟨rfl, rfl⟩
theorem WS.ok.fail {s : WS} (h : s.ok) (c : Int) : (s.fail c).ok := by
  obtain ⟨h1, h2⟩ := fail_parts s c
  unfold WS.ok; rw [h1, h2]; exact h
theorem put_most (s : WS) (m : List Int) : (s.put m).most = s.most := by
  unfold WS.put; split
  · split <;> rfl
  · rfl
theorem WS.ok.put {s : WS} (h : s.ok) (m : List Int) : (s.put m).ok := by
  obtain ⟨a, b, c⟩ := h
  unfold WS.put
  split
  · split
    · exact ⟨a, b, c⟩
    · exact ⟨a, b, by simp; omega⟩
  · exact ⟨a, b, c⟩
end Go.Proofs.Ytnfagphepkeedaa
end
section
namespace Go.Proofs.Ytnfagphepkeedaa

/-- The number at the front of bytes, how many bytes it has, the fault. -/
def vGet (l : List Int) : Int × Int × (Int × Int) := if (vgo 0 l).1 = 0 then ((vgo 0 l).2.2, (vgo 0 l).2.1, (0, 0)) else (0, 0, ((vgo 0 l).1, (vgo 0 l).2.1))
/-- A reader that may be: its place within its bytes, which are bytes. -/
structure ROk (s : RS) : Prop where
  at0 : 0 ≤ s.at_
  at1 : s.at_ ≤ s.l.length
  len : s.l.length ≤ 140737488355328
  bys : Bys s.l
theorem ROk.ok {s : RS} (h : ROk s) : s.ok := ⟨h.at0, h.at1, h.len⟩
theorem RS.ok.rok {s : RS} (h : s.ok) (hb : Bys s.l) : ROk s := ⟨h.1, h.2.1, h.2.2, hb⟩
theorem ROk.new {l : List Int} (hb : Bys l) (hn : l.length ≤ 140737488355328) : ROk (RS.new l) := ⟨by simp [RS.new], by simp [RS.new], hn, hb⟩
theorem ROk.fail {s : RS} (h : ROk s) (c a : Int) : ROk (s.fail c a) := by
  unfold RS.fail; split
  · exact ⟨h.at0, h.at1, h.len, h.bys⟩
  · exact h
theorem ROk.skip {s : RS} (h : ROk s) (n : Int) : ROk (s.skip n).1 := (h.ok.skip n).1.rok (by rw [(h.ok.skip n).2]; exact h.bys)
theorem ROk.take {s : RS} (h : ROk s) (n : Int) : ROk (s.take n).1 := (h.ok.take n).1.rok (by rw [(h.ok.take n).2]; exact h.bys)
theorem vint_parts {s : RS} (h : ROk s) (hc : s.code = 0) {X N C Af : Int} (hq : vGet s.rest = (X, N, (C, Af))) :
    (C = 0 → s.vint = (s.adv N, X) ∧ 1 ≤ N ∧ s.at_ + N ≤ s.l.length ∧ 0 ≤ X ∧ X < 18446744073709551616) ∧ (C = 1 → s.vint = ({ s with at_ := s.l.length, code := 1, fat := s.l.length }, 0)) ∧
      (C ≠ 0 → C ≠ 1 → s.vint = ({ s with at_ := s.at_ + Af + 1, code := C, fat := s.at_ + Af }, 0) ∧ 0 ≤ Af ∧ s.at_ + Af + 1 ≤ s.l.length) := by
  have hrl := rest_len s h.at0 h.at1
  have hb : Bys s.rest := h.bys.drop _
  unfold vGet at hq
  unfold RS.vint
  rw [if_pos hc]
  by_cases h0 : (vgo 0 s.rest).1 = 0
  · have hk := vgo_back hb h0
    rw [if_pos h0] at hq
    simp only [Prod.mk.injEq] at hq
    obtain ⟨rfl, rfl, rfl, rfl⟩ := hq
    rw [if_pos h0]
    exact ⟨fun _ => ⟨rfl, by omega, by omega, by omega, by omega⟩, fun h => by omega, fun h => by omega⟩
  · have hf := vgo_fault s.rest 0 (Int.le_refl _) h0
    rw [if_neg h0] at hq
    simp only [Prod.mk.injEq] at hq
    obtain ⟨rfl, rfl, rfl, rfl⟩ := hq
    rw [if_neg h0]
    refine ⟨fun h => by omega, fun h => by rw [if_pos h], fun _ h1 => ?_⟩
    rw [if_neg h1]
    refine ⟨rfl, by omega, by omega⟩
theorem ROk.vint {s : RS} (h : ROk s) : ROk s.vint.1 ∧ s.vint.1.l = s.l := by
  by_cases hc : s.code = 0
  · obtain ⟨X, N, C, Af, hq⟩ : ∃ X N C Af, vGet s.rest = (X, N, (C, Af)) := ⟨_, _, _, _, rfl⟩
    obtain ⟨p1, p2, p3⟩ := vint_parts h hc hq
    by_cases c0 : C = 0
    · obtain ⟨e, h1, h2, _⟩ := p1 c0
      rw [e]
      have := h.at0
      exact ⟨⟨by simp [RS.adv]; omega, by simp [RS.adv]; omega, h.len, h.bys⟩, rfl⟩
    by_cases c1 : C = 1
    · rw [p2 c1]; exact ⟨⟨by simp, by simp, h.len, h.bys⟩, rfl⟩
    · obtain ⟨e, h1, h2⟩ := p3 c0 c1
      rw [e]
      have := h.at0
      exact ⟨⟨by simp; omega, by simp; omega, h.len, h.bys⟩, rfl⟩
  · rw [vint_bad hc]; exact ⟨h, rfl⟩
theorem ROk.most {s : RS} (h : ROk s) (m : Int) : ROk (s.most m).1 ∧ (s.most m).1.l = s.l := by
  unfold RS.most
  split
  · exact ⟨h.vint.1.fail _ _, by rw [fail_l]; exact h.vint.2⟩
  · exact h.vint
theorem ROk.int {s : RS} (h : ROk s) (m : Int) : ROk (s.int m).1 ∧ (s.int m).1.l = s.l := by
  unfold RS.int
  split
  · exact h.most m
  · exact ⟨h.vint.1.fail _ _, by rw [fail_l]; exact h.vint.2⟩
/-- Two rows of bytes are the same where their bytes as small numbers are. -/
theorem bys_inj : ∀ (l m : List Int), Bys l → Bys m → (l.map fun n => UInt8.ofNat n.toNat) = (m.map fun n => UInt8.ofNat n.toNat) → l = m := by
      intro l
      induction l with
      | nil => intro m _ _ h; cases m with
        | nil => rfl
        | cons => simp at h
      | cons x l ih =>
        intro m hl hm h
        cases m with
        | nil => simp at h
        | cons y m =>
          simp only [List.map_cons, List.cons.injEq] at h
          have hx := hl x (List.mem_cons_self ..)
          have hy := hm y (List.mem_cons_self ..)
          have e := congrArg UInt8.toNat h.1
          simp only [UInt8.toNat_ofNat'] at e
          rw [Nat.mod_eq_of_lt (by omega), Nat.mod_eq_of_lt (by omega)] at e
          rw [ih m (fun z hz => hl z (List.mem_cons_of_mem _ hz)) (fun z hz => hm z (List.mem_cons_of_mem _ hz)) h.2, show x = y from by omega]
def sameB (l m : List Int) : Bool := decide (l = m)
theorem same_self (l : List Int) : sameB l l = true := by simp [sameB]
end Go.Proofs.Ytnfagphepkeedaa
end
section
namespace Go.Proofs.Ytnfagphepkeedaa
open Go.RowKit

/-- The bytes of a list of numbers. -/
def vbs (l : List Int) : List Int := l.flatMap vb
theorem vbs_snoc (l : List Int) (x : Int) : vbs (l ++ [x]) = vbs l ++ vb x := by simp [vbs]
theorem vbs_bys {l : List Int} (h : U64s l) : Bys (vbs l) := by
  intro y hy
  simp only [vbs, List.mem_flatMap] at hy
  obtain ⟨x, hx, hy⟩ := hy
  exact vb_by (h x hx).1 (h x hx).2 y hy
def WS.puts (s : WS) (l : List Int) : WS := l.foldl (fun s x => s.put (vb x)) s
theorem puts_snoc (s : WS) (l : List Int) (x : Int) : s.puts (l ++ [x]) = (s.puts l).put (vb x) := by simp [WS.puts]
end Go.Proofs.Ytnfagphepkeedaa
end
section
namespace Go.Proofs.Ytnfagphepkeedaa

theorem vint_adv {s : RS} (h : ROk s) (hc : s.vint.1.code = 0) : s.at_ + 1 ≤ s.vint.1.at_ ∧ s.vint.1.at_ ≤ s.l.length := by
  have h0 := h.vint.1.at1
  rw [h.vint.2] at h0
  refine ⟨?_, h0⟩
  by_cases hc0 : s.code = 0
  · obtain ⟨X, N, C, Af, hq⟩ : ∃ X N C Af, vGet s.rest = (X, N, (C, Af)) := ⟨_, _, _, _, rfl⟩
    obtain ⟨p1, p2, p3⟩ := vint_parts h hc0 hq
    by_cases c0 : C = 0
    · obtain ⟨e, h1, h2, _⟩ := p1 c0
      rw [e]; show s.at_ + 1 ≤ s.at_ + N; omega
    · by_cases c1 : C = 1
      · rw [p2 c1] at hc; simp at hc
      · obtain ⟨e, _⟩ := p3 c0 c1
        rw [e] at hc; exact absurd hc c0
  · rw [vint_bad hc0] at hc; exact absurd hc hc0
/-- One number more of a rising list. -/
def RS.rnext (s : RS) (acc : List Int) : RS × Int :=
  if acc.length = 0 then s.vint
  else if s.vint.1.code = 0 ∧ 18446744073709551616 ≤ acc.getD (acc.length - 1) 0 + 1 + s.vint.2 then (s.vint.1.fail 13 s.at_, 0)
  else (s.vint.1, acc.getD (acc.length - 1) 0 + 1 + s.vint.2)
def RS.rr (s : RS) : Nat → List Int → RS × List Int
  | 0, acc => (s, acc)
  | n + 1, acc => if (s.rnext acc).1.code = 0 then (s.rnext acc).1.rr n (acc ++ [(s.rnext acc).2]) else ((s.rnext acc).1, [])
theorem rr_good {s : RS} {acc : List Int} {N : Nat} (h : acc.length < N) (hc : (s.rnext acc).1.code = 0) : s.rr (N - acc.length) acc = (s.rnext acc).1.rr (N - (acc ++ [(s.rnext acc).2]).length) (acc ++ [(s.rnext acc).2]) := by
  obtain ⟨m, hm⟩ : ∃ m, N - acc.length = m + 1 := ⟨N - acc.length - 1, by omega⟩
  rw [hm, RS.rr, if_pos hc]
  congr 1
  simp; omega
theorem rnext_zero {s : RS} {acc : List Int} (h : acc.length = 0) : s.rnext acc = s.vint := by unfold RS.rnext; rw [if_pos h]
theorem rnext_over {s : RS} {acc : List Int} (h : 0 < acc.length) (ho : 18446744073709551616 ≤ acc.getD (acc.length - 1) 0 + 1 + s.vint.2) :
    (s.rnext acc).1 = s.vint.1.fail 13 s.at_ ∧ ¬ (s.rnext acc).1.code = 0 := by
  unfold RS.rnext
  rw [if_neg (by omega)]
  by_cases hc : s.vint.1.code = 0
  · rw [if_pos ⟨hc, ho⟩]
    refine ⟨rfl, ?_⟩
    unfold RS.fail; rw [if_pos hc]; simp [flt]
  · rw [if_neg (by intro h; exact hc h.1)]
    refine ⟨?_, hc⟩
    unfold RS.fail; rw [if_neg hc]
theorem rnext_fits {s : RS} {acc : List Int} (h : 0 < acc.length) (ho : ¬ 18446744073709551616 ≤ acc.getD (acc.length - 1) 0 + 1 + s.vint.2) :
    s.rnext acc = (s.vint.1, acc.getD (acc.length - 1) 0 + 1 + s.vint.2) := by
  unfold RS.rnext
  rw [if_neg (by omega), if_neg (by intro h; exact ho h.2)]
/-- What is borne at each round. -/
def ROn (s : RS) (N : Nat) (a : RS × List Int) : Prop :=
  ROk a.1 ∧ a.1.l = s.l ∧ (a.2.length : Int) ≤ a.1.at_ ∧ a.2.length ≤ N ∧ U64s a.2 ∧ a.1.rr (N - a.2.length) a.2 = s.rr N []
theorem U64s.snoc {l : List Int} {x : Int} (h : U64s l) (h0 : 0 ≤ x) (h1 : x < 18446744073709551616) : U64s (l ++ [x]) := by
  intro y hy
  rcases List.mem_append.1 hy with hy | hy
  · exact h y hy
  · simp at hy; subst hy; exact ⟨h0, h1⟩
theorem ROn.next {s t : RS} {N : Nat} {acc : List Int} (h : ROn s N (t, acc)) (hN : acc.length < N) (hc : (t.rnext acc).1.code = 0) : ROn s N ((t.rnext acc).1, acc ++ [(t.rnext acc).2]) := by
  obtain ⟨h1, h2, h3, h4, h5, h6⟩ := h
  simp only at h1 h2 h3 h4 h5 h6
  have hx := vint_range (s := t) h1.bys
  have key : (t.rnext acc).1 = t.vint.1 ∧ 0 ≤ (t.rnext acc).2 ∧ (t.rnext acc).2 < 18446744073709551616 := by
    rcases Nat.eq_zero_or_pos acc.length with hz | hz
    · rw [rnext_zero hz]; exact ⟨rfl, hx.1, hx.2⟩
    · by_cases ho : 18446744073709551616 ≤ acc.getD (acc.length - 1) 0 + 1 + t.vint.2
      · exact absurd hc (rnext_over hz ho).2
      · rw [rnext_fits hz ho]
        have hp := h5 _ (getD_mem acc (acc.length - 1) (by omega))
        exact ⟨rfl, by simp only; omega, by simp only; omega⟩
  have hadv := vint_adv h1 (key.1 ▸ hc)
  refine ⟨?_, ?_, ?_, ?_, h5.snoc key.2.1 key.2.2, ?_⟩
  · rw [key.1]; exact h1.vint.1
  · rw [key.1, h1.vint.2]; exact h2
  · rw [key.1]; simp; omega
  · simp; omega
  · rw [← h6]; exact (rr_good hN hc).symm
theorem ROn.len {s t : RS} {N : Nat} {acc : List Int} (h : ROn s N (t, acc)) : acc.length ≤ s.l.length := by
  obtain ⟨h1, h2, h3, _⟩ := h
  have := h1.at1
  simp only at h2 h3 this
  rw [h2] at this
  omega
/-- The next number's bytes stand where it was read. -/
theorem vint_bytes {s : RS} (h : ROk s) (hc : s.vint.1.code = 0) : s.l.take s.vint.1.at_.toNat = s.l.take s.at_.toNat ++ vb s.vint.2 ∧ s.vint.1.l = s.l ∧ s.code = 0 := by
  have hc0 : s.code = 0 := by
    by_cases hc0 : s.code = 0
    · exact hc0
    · rw [vint_bad hc0] at hc; exact absurd hc hc0
  refine ⟨?_, h.vint.2, hc0⟩
  have h0 : (vgo 0 s.rest).1 = 0 := by
    by_cases h0 : (vgo 0 s.rest).1 = 0
    · exact h0
    · unfold RS.vint at hc
      rw [if_pos hc0, if_neg h0] at hc
      split at hc
      · simp at hc
      · exact absurd hc h0
  have hb : Bys s.rest := h.bys.drop _
  obtain ⟨k1, k2, k3, k4, k5⟩ := vgo_back hb h0
  have e : s.vint = (s.adv (vgo 0 s.rest).2.1, (vgo 0 s.rest).2.2) := by unfold RS.vint; rw [if_pos hc0, if_pos h0]
  rw [e]
  show s.l.take (s.at_ + (vgo 0 s.rest).2.1).toNat = _ ++ vb (vgo 0 s.rest).2.2
  rw [k1]
  have ha := h.at0
  rw [show (s.at_ + (vgo 0 s.rest).2.1).toNat = s.at_.toNat + (vgo 0 s.rest).2.1.toNat from by omega]
  unfold RS.rest
  rw [List.take_add]
end Go.Proofs.Ytnfagphepkeedaa
end
section
namespace Go.Proofs.Ytnfagphepkeedaa

theorem vint_own {s : RS} {x : Int} {r : List Int} (hc : s.code = 0) (h0 : 0 ≤ x) (h1 : x < 18446744073709551616) (hr : s.rest = vb x ++ r) : s.vint = (s.adv ((vb x).length : Int), x) := by
  unfold RS.vint
  rw [if_pos hc, hr, vgo_vb r h0 h1]
  simp
theorem adv_rest {s : RS} (h0 : 0 ≤ s.at_) (n : Nat) : (s.adv (n : Int)).rest = s.rest.drop n := by
  unfold RS.rest RS.adv
  simp only [List.drop_drop]
  congr 1
  omega
theorem adv_adv (s : RS) (a b : Int) : (s.adv a).adv b = s.adv (a + b) := by simp [RS.adv, Int.add_assoc]
end Go.Proofs.Ytnfagphepkeedaa
end
end
section
namespace Go.Proofs.Ytnfagphepkeedaa
def c3 : C := .seq
  (.reg [(none, (.box (.tmp 0), .some 2)), (none, (.box (.tmp 1), .some 3)), zV (.bool .false) 4] []) (.seq (.seq
  (.reg [zN 2 2 9, zC 6 [9] 10, zM 10 11, zG 11 false (zN 2 3 12), zG 11 false (zC 6 [12] 13), (none, (.pick (.tmp 11) (.const (.bool .true)) (.tmp 13), .some 14))] []) (.cond (.tmp 14) (.seq
  (.reg [zC 7 [] 15, zM 15 4] []) .ret) .skip)) (.seq
  (.reg [zN 2 2 16, zC 8 [16] 17, zN 2 2 18, zC 8 [18] 19, (none, (.new [.slice none 0 0, .slice none 0 0], .some 5)), (none, (.new [.slice none 0 0, .slice none 0 0], .some 6)), zS 2 5 17, zS 2 6 19] [(0, 2), (1, 2), (0, 4), (1, 4), (2, 4), (3, 4), (0, 5), (1, 5), (2, 5), (3, 5), (4, 5)]) (.seq (.seq
  (.reg [zV (.int .i64 0) 7] []) (.block 0 (.loop (.seq (.seq
  (.reg [zM 7 20, zF 1 5 21, zL 21 22, zU 22 23, zB .lss 20 23 24] []) (.cond (.tmp 24) .skip (.exit 0))) (.seq (.block 1
  (.reg [zF 1 5 27, zL 27 28, zM 7 29, zF 1 5 30, zL 30 31, zM 7 32, zJ 1 31 32 33, zL 33 34, (none, (.bin .add (.tmp 34) (.const (.int .u8 1)), .some 35)), zJ 1 28 29 36, zS 1 36 35] [(1, 4), (1, 7)]))
  (.reg [zM 7 25, zI .add 25 1 26, zM 26 7] [])))))) (.seq (.seq
  (.reg [zV (.int .i64 0) 8] []) (.block 2 (.loop (.seq (.seq
  (.reg [zM 8 37, zF 0 5 38, zL 38 39, zU 39 40, zB .lss 37 40 41] []) (.cond (.tmp 41) .skip (.exit 2))) (.seq (.block 3
  (.reg [zF 0 5 44, zL 44 45, zM 8 46, zF 0 5 47, zL 47 48, zM 8 49, zJ 2 48 49 50, zF 0 50 51, zL 51 52, (none, (.bin .add (.tmp 52) (.const (.int .u64 1)), .some 53)), zJ 2 45 46 54, zF 0 54 55, zS 1 55 53] [(1, 4), (1, 8)]))
  (.reg [zM 8 42, zI .add 42 1 43, zM 43 8] [])))))) (.seq
  (.reg [zN 2 6 56, zN 2 2 57, zC 9 [56, 57] 58, zM 58 59, zG 59 true (zN 2 2 60), zG 59 true (zN 2 3 61), zG 59 true (zC 10 [60, 61] 62), zG 59 true (zN 2 2 63), zG 59 true (zN 2 3 64), zG 59 true (zC 9 [63, 64] 65), (.some (59, .true), (.eqb .false (.tmp 62) (.tmp 65), .some 66)), (none, (.pick (.tmp 59) (.tmp 66) (.const (.bool .false)), .some 67)), zM 67 68, zG 68 true (zN 2 2 69), zG 68 true (zN 2 3 70), (.some (68, .true), (.bsl 2 [.tmp 69, .tmp 70], .some 71)), zG 68 true (zN 2 6 72), zG 68 true (zN 2 2 73), (.some (68, .true), (.bsl 2 [.tmp 72, .tmp 73], .some 74)), zG 68 true (zC 11 [71, 74] 75), zG 68 true (zN 2 2 76), zG 68 true (zN 2 3 77), zG 68 true (zC 9 [76, 77] 78), (.some (68, .true), (.eqb .false (.tmp 75) (.tmp 78), .some 79)), (none, (.pick (.tmp 68) (.tmp 79) (.const (.bool .false)), .some 80)), zM 80 81, zG 81 true (zC 7 [] 82), (none, (.pick (.tmp 81) (.tmp 82) (.const (.bool .false)), .some 83)), zM 83 4] [(0, 1), (4, 5), (4, 7), (5, 7), (6, 7), (4, 8), (5, 8), (6, 8), (7, 8), (13, 14), (13, 16), (14, 16), (13, 17), (14, 17), (16, 17), (13, 20), (14, 20), (16, 20), (17, 20), (19, 20), (13, 21), (14, 21), (16, 21), (17, 21), (19, 21), (20, 21)]) .ret)))))
theorem b3 : Try.f3.body.bind (compC Try.prog) = some c3 := by kernel_rfl
theorem r3 : compR Try.prog Try.f3 = .some [.tmp 4] := by kernel_rfl
theorem n3 : (Try.f3.name == "runtime.NumGoroutine") = false := by kernel_rfl
def c6 : C := .seq
  (.reg [(none, (.box (.tmp 0), .some 1)), zV (.bool .false) 2] []) (.seq
  (.reg [zF 0 1 3, zL 3 4, zC 12 [4] 5, zM 5 6, zG 6 false (zF 1 1 7), zG 6 false (zL 7 8), zG 6 false (zU 8 9), zG 6 false (zI .gtr 9 500 10), (none, (.pick (.tmp 6) (.const (.bool .true)) (.tmp 10), .some 11)), zM 11 2] []) .ret)
theorem b6 : Try.f6.body.bind (compC Try.prog) = some c6 := by kernel_rfl
theorem r6 : compR Try.prog Try.f6 = .some [.tmp 2] := by kernel_rfl
theorem n6 : (Try.f6.name == "runtime.NumGoroutine") = false := by kernel_rfl
def c15 : C := .seq
  (.reg [(none, (.box (.tmp 0), .some 2)), zV (.bool .false) 4] []) (.seq (.seq
  (.reg [zM 1 6, zU 6 7, zI .gtr 7 16 8, zM 8 9, zG 9 false (zM 1 10), (.some (9, .false), (.call (.func 35) [.tmp 10, .func 36], .some 11)), (.some (9, .false), (.un .not (.tmp 11), .some 12)), (none, (.pick (.tmp 9) (.const (.bool .true)) (.tmp 12), .some 13))] []) (.cond (.tmp 13) (.seq
  (.reg [zV (.bool .false) 4] []) .ret) .skip)) (.seq
  (.reg [(none, (.mkf 37 [] [.tmp 2], .some 14)), zM 14 5] []) (.seq
  (.reg [zM 1 15, zM 5 16, zC 39 [15, 16] 17, zM 1 18, zU 18 19, zB .eql 17 19 20, zM 20 4] []) .ret)))
theorem b15 : Try.f15.body.bind (compC Try.prog) = some c15 := by kernel_rfl
theorem r15 : compR Try.prog Try.f15 = .some [.tmp 4] := by kernel_rfl
theorem n15 : (Try.f15.name == "runtime.NumGoroutine") = false := by kernel_rfl
def c28 : C := .seq
  (.reg [zV (.slice none 0 0) 2, zV (.int .i64 0) 3] []) (.seq (.seq
  (.reg [zM 0 5, zC 51 [5] 6, zM 6 4] []) (.seq
  (.reg [zM 4 7, zI .neq 7 0 8] []) (.cond (.tmp 8) (.seq
  (.reg [zM 4 9, zV (.slice none 0 0) 2, zM 9 3] []) .ret) .skip))) (.seq
  (.reg [(none, (.bsl 1 [], .some 10)), zM 0 11, (none, (.nilc (.tmp 11), .some 12)), zF 1 12 13, zL 13 14, (none, (.app 1 1 (.tmp 10) (.tmp 14), .some 15)), zM 15 2, zV (.int .i64 0) 3] []) .ret))
theorem b28 : Try.f28.body.bind (compC Try.prog) = some c28 := by kernel_rfl
theorem r28 : compR Try.prog Try.f28 = .some [.tmp 2, .tmp 3] := by kernel_rfl
theorem n28 : (Try.f28.name == "runtime.NumGoroutine") = false := by kernel_rfl
def c30 : C := .seq
  (.reg [zV (.bool .false) 4] []) (.seq
  (.reg [zM 0 5, (none, (.b2s (.tmp 5), .some 6)), zM 1 7, (none, (.b2s (.tmp 7), .some 8)), zB .eql 6 8 9, zM 9 4] []) .ret)
theorem b30 : Try.f30.body.bind (compC Try.prog) = some c30 := by kernel_rfl
theorem r30 : compR Try.prog Try.f30 = .some [.tmp 4] := by kernel_rfl
theorem n30 : (Try.f30.name == "runtime.NumGoroutine") = false := by kernel_rfl
def c37 : C := .seq
  (.reg [(none, (.box (.tmp 0), .some 2)), zV (.bool .false) 3] []) (.seq
  (.reg [zF 1 2 4, zL 4 5, zU 5 6, zI .gtr 6 4 7, zM 7 8, zG 8 false (zL 1 9), zG 8 false (zF 1 2 10), zG 8 false (zL 10 11), zG 8 false (zC 38 [9, 11] 12), (.some (8, .false), (.un .not (.tmp 12), .some 13)), (none, (.pick (.tmp 8) (.const (.bool .true)) (.tmp 13), .some 14)), zM 14 3] []) .ret)
theorem b37 : Try.f37.body.bind (compC Try.prog) = some c37 := by kernel_rfl
theorem r37 : compR Try.prog Try.f37 = .some [.tmp 3] := by kernel_rfl
theorem n37 : (Try.f37.name == "runtime.NumGoroutine") = false := by kernel_rfl
def c39 : C := .seq
  (.reg [zV (.int .i64 0) 4] []) (.seq (.seq
  (.reg [zM 0 7, zU 7 8, zV (.int .i64 0) 9] []) (.block 0 (.loop (.seq
  (.reg [zB .lss 9 8 10] []) (.seq (.cond (.tmp 10) .skip (.exit 0)) (.seq (.block 1 (.seq
  (.reg [zM 9 11, zJ 2 7 9 12, zN 2 12 13, (none, (.new [.int .u64 0, .slice none 0 0], .some 6)), zM 11 5, zS 2 6 13] []) (.seq
  (.reg [zM 1 14, zN 2 6 15, (none, (.call (.tmp 14) [.tmp 15], .some 16))] []) (.cond (.tmp 16) (.seq
  (.reg [zM 5 17, zM 17 4] []) .ret) .skip))))
  (.reg [zI .add 9 1 18, zM 18 9] []))))))) (.seq
  (.reg [zM 0 19, zU 19 20, zM 20 4] []) .ret))
theorem b39 : Try.f39.body.bind (compC Try.prog) = some c39 := by kernel_rfl
theorem r39 : compR Try.prog Try.f39 = .some [.tmp 4] := by kernel_rfl
theorem n39 : (Try.f39.name == "runtime.NumGoroutine") = false := by kernel_rfl
def c49 : C := .seq
  (.reg [zM 0 4, zC 51 [4] 5, zI .eql 5 0 6] []) (.cond (.tmp 6)
  (.reg [zM 0 7, zM 1 8, (none, (.nilc (.tmp 7), .some 9)), zF 2 9 10, zS 1 10 8] []) .skip)
theorem b49 : Try.f49.body.bind (compC Try.prog) = some c49 := by kernel_rfl
theorem r49 : compR Try.prog Try.f49 = .some [] := by kernel_rfl
theorem n49 : (Try.f49.name == "runtime.NumGoroutine") = false := by kernel_rfl
end Go.Proofs.Ytnfagphepkeedaa
end
section
namespace Go.Proofs.Ytnfagphepkeedaa
def c10 : C := .seq
  (.reg [(none, (.box (.tmp 0), .some 2)), (none, (.box (.tmp 1), .some 3)), zV (.bool .false) 4] []) (.seq
  (.reg [zF 0 2 5, zL 5 6, zF 0 3 7, zL 7 8, zC 24 [6, 8] 9, zM 9 10, zG 10 true (zF 1 2 11), zG 10 true (zL 11 12), zG 10 true (zF 1 3 13), zG 10 true (zL 13 14), zG 10 true (zC 30 [12, 14] 15), (none, (.pick (.tmp 10) (.tmp 15) (.const (.bool .false)), .some 16)), zM 16 4] []) .ret)
theorem b10 : Try.f10.body.bind (compC Try.prog) = some c10 := by kernel_rfl
theorem r10 : compR Try.prog Try.f10 = .some [.tmp 4] := by kernel_rfl
theorem n10 : (Try.f10.name == "runtime.NumGoroutine") = false := by kernel_rfl
def c11 : C := .seq
  (.reg [zV (.bool .false) 4] []) (.seq
  (.reg [zM 0 5, zM 1 6, (none, (.call (.func 31) [.tmp 5, .tmp 6, .func 10], .some 7)), zM 7 4] []) .ret)
theorem b11 : Try.f11.body.bind (compC Try.prog) = some c11 := by kernel_rfl
theorem r11 : compR Try.prog Try.f11 = .some [.tmp 4] := by kernel_rfl
theorem n11 : (Try.f11.name == "runtime.NumGoroutine") = false := by kernel_rfl
def c26 : C := .seq
  (.reg [zV (.pointer none) 2] []) (.seq
  (.reg [zM 0 3, (none, (.mx .true (.tmp 3) (.const (.int .i64 0)), .some 4)), (none, (.build [.int .i64 0, .slice none 0 0, .int .i64 0] [(0, (1, .tmp 4))], .some 5)), (none, (.box (.tmp 5), .some 6)), zM 6 2] []) .ret)
theorem b26 : Try.f26.body.bind (compC Try.prog) = some c26 := by kernel_rfl
theorem r26 : compR Try.prog Try.f26 = .some [.tmp 2] := by kernel_rfl
theorem n26 : (Try.f26.name == "runtime.NumGoroutine") = false := by kernel_rfl
def c34 : C := .seq
  (.reg [zV (.bool .false) 4] []) (.seq (.seq
  (.reg [zM 0 6, zU 6 7, zM 1 8, zU 8 9, zB .neq 7 9 10] []) (.cond (.tmp 10) (.seq
  (.reg [zV (.bool .false) 4] []) .ret) .skip)) (.seq (.seq
  (.reg [zV (.int .i64 0) 5] []) (.block 0 (.loop (.seq (.seq
  (.reg [zM 5 11, zM 0 12, zU 12 13, zB .lss 11 13 14] []) (.cond (.tmp 14) .skip (.exit 0))) (.seq (.block 1 (.seq
  (.reg [zM 0 17, zM 5 18, zJ 1 17 18 19, zL 19 20, zM 1 21, zM 5 22, zJ 1 21 22 23, zL 23 24, zB .neq 20 24 25] [(3, 7)]) (.cond (.tmp 25) (.seq
  (.reg [zV (.bool .false) 4] []) .ret) .skip)))
  (.reg [zM 5 15, zI .add 15 1 16, zM 16 5] [])))))) (.seq
  (.reg [zV (.bool .true) 4] []) .ret)))
theorem b34 : Try.f34.body.bind (compC Try.prog) = some c34 := by kernel_rfl
theorem r34 : compR Try.prog Try.f34 = .some [.tmp 4] := by kernel_rfl
theorem n34 : (Try.f34.name == "runtime.NumGoroutine") = false := by kernel_rfl
def c36 : C := .seq
  (.reg [(none, (.box (.tmp 0), .some 1)), zV (.int .u64 0) 2] []) (.seq
  (.reg [zF 0 1 3, zL 3 4, zM 4 2] []) .ret)
theorem b36 : Try.f36.body.bind (compC Try.prog) = some c36 := by kernel_rfl
theorem r36 : compR Try.prog Try.f36 = .some [.tmp 2] := by kernel_rfl
theorem n36 : (Try.f36.name == "runtime.NumGoroutine") = false := by kernel_rfl
def c48 : C := .seq
  (.reg [(none, (.box (.tmp 1), .some 3)), zV (.bool .false) 4] []) (.seq
  (.reg [zM 0 5, zF 0 3 6, zL 6 7, zC 15 [5, 7] 8, zM 8 9, zG 9 true (zF 1 3 10), zG 9 true (zL 10 11), zG 9 true (zU 11 12), zG 9 true (zI .leq 12 1048576 13), (none, (.pick (.tmp 9) (.tmp 13) (.const (.bool .false)), .some 14)), zM 14 4] []) .ret)
theorem b48 : Try.f48.body.bind (compC Try.prog) = some c48 := by kernel_rfl
theorem r48 : compR Try.prog Try.f48 = .some [.tmp 4] := by kernel_rfl
theorem n48 : (Try.f48.name == "runtime.NumGoroutine") = false := by kernel_rfl
def c52 : C := .seq
  (.reg [zV (.slice none 0 0) 2] []) (.seq
  (.reg [zV (.slice none 0 0) 3] []) (.seq (.seq
  (.reg [zM 0 7, zU 7 8, zV (.int .i64 0) 9] []) (.block 0 (.loop (.seq
  (.reg [zB .lss 9 8 10] []) (.seq (.cond (.tmp 10) .skip (.exit 0)) (.seq (.block 1 (.seq
  (.reg [zM 9 11, zJ 2 7 9 12, zN 2 12 13, (none, (.new [.int .u64 0, .slice none 0 0], .some 5)), zM 11 4, zS 2 5 13] []) (.seq
  (.reg [zF 0 5 14, zL 14 15, zM 15 6] []) (.seq (.seq
  (.reg [zM 4 16, zI .gtr 16 0 17] []) (.cond (.tmp 17)
  (.reg [zM 6 18, zM 0 19, zM 4 20, zI .sub 20 1 21, zJ 2 19 21 22, zF 0 22 23, zL 23 24, (none, (.bin .add (.tmp 24) (.const (.int .u64 1)), .some 25)), zB .sub 18 25 26, zM 26 6] []) .skip))
  (.reg [zM 3 27, zM 6 28, (none, (.bsl 1 [.tmp 28], .some 29)), (none, (.app 1 8 (.tmp 27) (.tmp 29), .some 30)), zM 30 3] [])))))
  (.reg [zI .add 9 1 31, zM 31 9] []))))))) (.seq
  (.reg [zM 3 32, zM 32 2] []) .ret)))
theorem b52 : Try.f52.body.bind (compC Try.prog) = some c52 := by kernel_rfl
theorem r52 : compR Try.prog Try.f52 = .some [.tmp 2] := by kernel_rfl
theorem n52 : (Try.f52.name == "runtime.NumGoroutine") = false := by kernel_rfl
def c53 : C := .seq
  (.reg [zM 1 11, zM 2 12, zC 54 [11, 12] 13, zM 13 10, zE 10 0 14, zE 10 1 15, zM 14 6, zM 15 7] []) (.seq (.seq
  (.reg [zM 7 16, (none, (.un .not (.tmp 16), .some 17))] []) (.cond (.tmp 17) (.seq
  (.reg [zM 0 18, (none, (.call (.func 49) [.tmp 18, .const (.int .i64 3)], .some 19))] []) .ret) .skip)) (.seq
  (.reg [zM 0 20, zM 2 21, zU 21 22, (none, (.cvt .u64 (.tmp 22), .some 23)), zC 50 [20, 23] 24] []) (.seq
  (.reg [zM 6 25, zU 25 26, zV (.int .i64 0) 27] []) (.block 0 (.loop (.seq
  (.reg [zB .lss 27 26 28] []) (.seq (.cond (.tmp 28) .skip (.exit 0)) (.seq (.block 1 (.seq
  (.reg [zJ 1 25 27 29, zL 29 30, zM 30 9] [])
  (.reg [zM 0 31, zM 9 32, zC 50 [31, 32] 33] [])))
  (.reg [zI .add 27 1 34, zM 34 27] [])))))))))
theorem b53 : Try.f53.body.bind (compC Try.prog) = some c53 := by kernel_rfl
theorem r53 : compR Try.prog Try.f53 = .some [] := by kernel_rfl
theorem n53 : (Try.f53.name == "runtime.NumGoroutine") = false := by kernel_rfl
def c54 : C := .seq
  (.reg [zV (.slice none 0 0) 4, zV (.bool .false) 5] []) (.seq
  (.reg [zV (.slice none 0 0) 6] []) (.seq (.seq
  (.reg [zM 1 9, zU 9 10, zV (.int .i64 0) 11] []) (.block 0 (.loop (.seq
  (.reg [zB .lss 11 10 12] []) (.seq (.cond (.tmp 12) .skip (.exit 0)) (.seq (.block 1 (.seq
  (.reg [zJ 1 9 11 13, zL 13 14, zM 14 8] []) (.seq (.seq
  (.reg [zM 8 15, zM 0 16, zB .geq 15 16 17] []) (.cond (.tmp 17) (.seq
  (.reg [zV (.slice none 0 0) 4, zV (.bool .false) 5] []) .ret) .skip)) (.seq
  (.reg [zM 6 18, zM 0 19, zM 8 20, zB .sub 19 20 21, (none, (.bin .sub (.tmp 21) (.const (.int .u64 1)), .some 22)), (none, (.bsl 1 [.tmp 22], .some 23)), (none, (.app 1 8 (.tmp 18) (.tmp 23), .some 24)), zM 24 6] [])
  (.reg [zM 8 25, zM 25 0] [])))))
  (.reg [zI .add 11 1 26, zM 26 11] []))))))) (.seq
  (.reg [zM 6 27, zM 27 4, zV (.bool .true) 5] []) .ret)))
theorem b54 : Try.f54.body.bind (compC Try.prog) = some c54 := by kernel_rfl
theorem r54 : compR Try.prog Try.f54 = .some [.tmp 4, .tmp 5] := by kernel_rfl
theorem n54 : (Try.f54.name == "runtime.NumGoroutine") = false := by kernel_rfl
def c57 : C := .block 0 (.seq
  (.reg [zM 0 14, zC 51 [14] 15, zI .neq 15 0 16, zM 16 13] []) (.cond (.tmp 13) .skip (.seq
  (.reg [zM 1 18, zU 18 19, zM 0 20, zC 60 [20] 21, zB .gtr 19 21 22, zM 22 17] []) (.cond (.tmp 17)
  (.reg [zM 0 23, (none, (.call (.func 49) [.tmp 23, .const (.int .i64 2)], .some 24))] [])
  (.reg [zM 0 4, zM 0 5, (none, (.nilc (.tmp 5), .some 6)), zF 1 6 7, zL 7 8, zM 1 9, (none, (.app 1 1 (.tmp 8) (.tmp 9), .some 10)), (none, (.nilc (.tmp 4), .some 11)), zF 1 11 12, zS 1 12 10] [])))))
theorem b57 : Try.f57.body.bind (compC Try.prog) = some c57 := by kernel_rfl
theorem r57 : compR Try.prog Try.f57 = .some [] := by kernel_rfl
theorem n57 : (Try.f57.name == "runtime.NumGoroutine") = false := by kernel_rfl
def c60 : C := .seq
  (.reg [zV (.int .i64 0) 2] []) (.seq (.seq
  (.reg [zM 0 3, (none, (.eqp .false (.tmp 3) (.const (.pointer none)), .some 4))] []) (.cond (.tmp 4) (.seq
  (.reg [zV (.int .i64 0) 2] []) .ret) .skip)) (.seq
  (.reg [zM 0 5, (none, (.nilc (.tmp 5), .some 6)), zF 0 6 7, zL 7 8, zM 0 9, (none, (.nilc (.tmp 9), .some 10)), zF 1 10 11, zL 11 12, zU 12 13, zB .sub 8 13 14, zM 14 2] [(3, 7)]) .ret))
theorem b60 : Try.f60.body.bind (compC Try.prog) = some c60 := by kernel_rfl
theorem r60 : compR Try.prog Try.f60 = .some [.tmp 2] := by kernel_rfl
theorem n60 : (Try.f60.name == "runtime.NumGoroutine") = false := by kernel_rfl
end Go.Proofs.Ytnfagphepkeedaa
end
section
namespace Go.Proofs.Ytnfagphepkeedaa
def c7 : C := .seq
  (.reg [zV (.bool .false) 0] []) (.seq
  (.reg [(none, (.call (.func 26) [.const (.int .i64 9)], .some 4)), zM 4 1] []) (.seq
  (.reg [zM 1 5, (none, (.bsl 1 [.const (.int .u8 7), .const (.int .u8 8)], .some 6)), (none, (.build [.slice none 0 0, .slice none 0 0] [(1, (1, .tmp 6))], .some 7)), (none, (.call (.func 27) [.tmp 5, .const (.int .u64 10), .tmp 7], .some 8))] []) (.seq
  (.reg [zM 1 10, zC 28 [10] 11, zM 11 9, zE 9 0 12, zE 9 1 13, zM 12 2, zM 13 3] []) (.seq
  (.reg [zM 3 14, zI .eql 14 0 15, zM 15 16, zG 16 true (zM 2 17), (.some (16, .true), (.bsl 1 [.const (.int .u8 0), .const (.int .u8 2)], .some 18)), zG 16 true (zC 29 [17, 18] 19), (none, (.pick (.tmp 16) (.tmp 19) (.const (.bool .false)), .some 20)), zM 20 0] []) .ret))))
theorem b7 : Try.f7.body.bind (compC Try.prog) = some c7 := by kernel_rfl
theorem r7 : compR Try.prog Try.f7 = .some [.tmp 0] := by kernel_rfl
theorem n7 : (Try.f7.name == "runtime.NumGoroutine") = false := by kernel_rfl
def c22 : C := .seq
  (.reg [zV (.bool .false) 4] []) (.seq (.seq
  (.reg [zM 0 6, zU 6 7, zM 1 8, zU 8 9, zB .neq 7 9 10] []) (.cond (.tmp 10) (.seq
  (.reg [zV (.bool .false) 4] []) .ret) .skip)) (.seq (.seq
  (.reg [zV (.int .i64 0) 5] []) (.block 0 (.loop (.seq (.seq
  (.reg [zM 5 11, zM 0 12, zU 12 13, zB .lss 11 13 14] []) (.cond (.tmp 14) .skip (.exit 0))) (.seq (.block 1 (.seq
  (.reg [zM 0 17, zM 5 18, zJ 2 17 18 19, zN 2 19 20, zM 1 21, zM 5 22, zJ 2 21 22 23, zN 2 23 24, zC 20 [20, 24] 25, (none, (.un .not (.tmp 25), .some 26))] [(3, 7)]) (.cond (.tmp 26) (.seq
  (.reg [zV (.bool .false) 4] []) .ret) .skip)))
  (.reg [zM 5 15, zI .add 15 1 16, zM 16 5] [])))))) (.seq
  (.reg [zV (.bool .true) 4] []) .ret)))
theorem b22 : Try.f22.body.bind (compC Try.prog) = some c22 := by kernel_rfl
theorem r22 : compR Try.prog Try.f22 = .some [.tmp 4] := by kernel_rfl
theorem n22 : (Try.f22.name == "runtime.NumGoroutine") = false := by kernel_rfl
def c25 : C := .seq
  (.reg [zV (.slice none 0 0) 2] []) (.seq
  (.reg [zV (.slice none 0 0) 3] []) (.seq (.seq
  (.reg [zM 0 6, zU 6 7, zV (.int .i64 0) 8] []) (.block 0 (.loop (.seq
  (.reg [zB .lss 8 7 9] []) (.seq (.cond (.tmp 9) .skip (.exit 0)) (.seq (.block 1 (.seq
  (.reg [zJ 2 6 8 10, zN 2 10 11, (none, (.new [.int .u64 0, .slice none 0 0], .some 5)), zS 2 5 11] [])
  (.reg [zM 3 12, zN 2 5 13, zC 40 [13] 14, (none, (.bsl 2 [.tmp 14], .some 15)), (none, (.app 2 32 (.tmp 12) (.tmp 15), .some 16)), zM 16 3] [])))
  (.reg [zI .add 8 1 17, zM 17 8] []))))))) (.seq
  (.reg [zM 3 18, zM 18 2] []) .ret)))
theorem b25 : Try.f25.body.bind (compC Try.prog) = some c25 := by kernel_rfl
theorem r25 : compR Try.prog Try.f25 = .some [.tmp 2] := by kernel_rfl
theorem n25 : (Try.f25.name == "runtime.NumGoroutine") = false := by kernel_rfl
def c27 : C := .seq
  (.reg [(none, (.box (.tmp 2), .some 5))] []) (.seq (.seq
  (.reg [zM 1 6, zN 2 5 7, zC 48 [6, 7] 8, (none, (.un .not (.tmp 8), .some 9))] []) (.cond (.tmp 9) (.seq
  (.reg [zM 0 10, (none, (.call (.func 49) [.tmp 10, .const (.int .i64 3)], .some 11))] []) .ret) .skip)) (.seq
  (.reg [zM 0 12, zM 1 13, zF 0 5 14, zL 14 15, zC 33 [12, 13, 15] 16] [])
  (.reg [zM 0 17, zF 1 5 18, zL 18 19, zU 19 20, (none, (.cvt .u64 (.tmp 20), .some 21)), zC 50 [17, 21] 22] [])))
theorem b27 : Try.f27.body.bind (compC Try.prog) = some c27 := by kernel_rfl
theorem r27 : compR Try.prog Try.f27 = .some [] := by kernel_rfl
theorem n27 : (Try.f27.name == "runtime.NumGoroutine") = false := by kernel_rfl
def c29 : C := .seq
  (.reg [zV (.bool .false) 4] []) (.seq
  (.reg [zM 0 5, (none, (.b2s (.tmp 5), .some 6)), zM 1 7, (none, (.b2s (.tmp 7), .some 8)), zB .eql 6 8 9, zM 9 4] []) .ret)
theorem b29 : Try.f29.body.bind (compC Try.prog) = some c29 := by kernel_rfl
theorem r29 : compR Try.prog Try.f29 = .some [.tmp 4] := by kernel_rfl
theorem n29 : (Try.f29.name == "runtime.NumGoroutine") = false := by kernel_rfl
def c31 : C := .seq
  (.reg [zV (.bool .false) 6] []) (.seq (.seq
  (.reg [zM 0 10, zU 10 11, zM 1 12, zU 12 13, zB .neq 11 13 14] []) (.cond (.tmp 14) (.seq
  (.reg [zV (.bool .false) 6] []) .ret) .skip)) (.seq (.seq
  (.reg [zM 0 15, zU 15 16, zV (.int .i64 0) 17] []) (.block 0 (.loop (.seq
  (.reg [zB .lss 17 16 18] []) (.seq (.cond (.tmp 18) .skip (.exit 0)) (.seq (.block 1 (.seq
  (.reg [zM 17 19, zJ 2 15 17 20, zN 2 20 21, (none, (.new [.slice none 0 0, .slice none 0 0], .some 8)), zM 19 7, zS 2 8 21] []) (.seq
  (.reg [zM 1 22, zM 7 23, zJ 2 22 23 24, zN 2 24 25, (none, (.new [.slice none 0 0, .slice none 0 0], .some 9)), zS 2 9 25] []) (.seq
  (.reg [zM 2 26, zN 2 8 27, zN 2 9 28, (none, (.call (.tmp 26) [.tmp 27, .tmp 28], .some 29)), (none, (.un .not (.tmp 29), .some 30))] []) (.cond (.tmp 30) (.seq
  (.reg [zV (.bool .false) 6] []) .ret) .skip)))))
  (.reg [zI .add 17 1 31, zM 31 17] []))))))) (.seq
  (.reg [zV (.bool .true) 6] []) .ret)))
theorem b31 : Try.f31.body.bind (compC Try.prog) = some c31 := by kernel_rfl
theorem r31 : compR Try.prog Try.f31 = .some [.tmp 6] := by kernel_rfl
theorem n31 : (Try.f31.name == "runtime.NumGoroutine") = false := by kernel_rfl
def c33 : C := .seq (.seq
  (.reg [zM 1 8, zM 2 9, zC 15 [8, 9] 10, (none, (.un .not (.tmp 10), .some 11))] []) (.cond (.tmp 11) (.seq
  (.reg [zM 0 12, (none, (.call (.func 49) [.tmp 12, .const (.int .i64 3)], .some 13))] []) .ret) .skip)) (.seq
  (.reg [zM 0 14, zM 2 15, zU 15 16, (none, (.cvt .u64 (.tmp 16), .some 17)), zC 50 [14, 17] 18] []) (.seq
  (.reg [zM 2 19, zC 52 [19] 20, zU 20 21, zV (.int .i64 0) 22] []) (.block 0 (.loop (.seq
  (.reg [zB .lss 22 21 23] []) (.seq (.cond (.tmp 23) .skip (.exit 0)) (.seq (.block 1 (.seq
  (.reg [zM 22 24, zJ 1 20 22 25, zL 25 26, zM 24 6, zM 26 7] []) (.seq
  (.reg [zM 0 27, zM 7 28, zC 50 [27, 28] 29] [])
  (.reg [zM 0 30, zM 1 31, zM 2 32, zM 6 33, zJ 2 32 33 34, zF 1 34 35, zL 35 36, zC 53 [30, 31, 36] 37] []))))
  (.reg [zI .add 22 1 38, zM 38 22] []))))))))
theorem b33 : Try.f33.body.bind (compC Try.prog) = some c33 := by kernel_rfl
theorem r33 : compR Try.prog Try.f33 = .some [] := by kernel_rfl
theorem n33 : (Try.f33.name == "runtime.NumGoroutine") = false := by kernel_rfl
def c38 : C := .seq
  (.reg [zV (.bool .false) 4] []) (.seq
  (.reg [zM 0 8, zM 1 9, zC 54 [8, 9] 10, zM 10 7, zE 7 0 11, zE 7 1 12, zM 11 5, zM 12 6] []) (.seq
  (.reg [zM 6 13, zM 13 4] []) .ret))
theorem b38 : Try.f38.body.bind (compC Try.prog) = some c38 := by kernel_rfl
theorem r38 : compR Try.prog Try.f38 = .some [.tmp 4] := by kernel_rfl
theorem n38 : (Try.f38.name == "runtime.NumGoroutine") = false := by kernel_rfl
def c46 : C := .seq
  (.reg [(none, (.box (.tmp 0), .some 2)), (none, (.box (.tmp 1), .some 3)), zV (.bool .false) 4] []) (.seq
  (.reg [zF 0 2 5, zL 5 6, zF 0 3 7, zL 7 8, zB .eql 6 8 9, zM 9 10, zG 10 true (zF 1 2 11), zG 10 true (zL 11 12), zG 10 true (zF 1 3 13), zG 10 true (zL 13 14), zG 10 true (zC 47 [12, 14] 15), (none, (.pick (.tmp 10) (.tmp 15) (.const (.bool .false)), .some 16)), zM 16 4] []) .ret)
theorem b46 : Try.f46.body.bind (compC Try.prog) = some c46 := by kernel_rfl
theorem r46 : compR Try.prog Try.f46 = .some [.tmp 4] := by kernel_rfl
theorem n46 : (Try.f46.name == "runtime.NumGoroutine") = false := by kernel_rfl
def c50 : C := .reg [zM 0 4, zM 1 5, zC 58 [5] 6, zC 57 [4, 6] 7] []
theorem b50 : Try.f50.body.bind (compC Try.prog) = some c50 := by kernel_rfl
theorem r50 : compR Try.prog Try.f50 = .some [] := by kernel_rfl
theorem n50 : (Try.f50.name == "runtime.NumGoroutine") = false := by kernel_rfl
def c51 : C := .seq
  (.reg [zV (.int .i64 0) 2] []) (.seq (.seq
  (.reg [zM 0 3, (none, (.eqp .false (.tmp 3) (.const (.pointer none)), .some 4))] []) (.cond (.tmp 4) (.seq
  (.reg [zV (.int .i64 19) 2] []) .ret) .skip)) (.seq
  (.reg [zM 0 5, (none, (.nilc (.tmp 5), .some 6)), zF 2 6 7, zL 7 8, zM 8 2] []) .ret))
theorem b51 : Try.f51.body.bind (compC Try.prog) = some c51 := by kernel_rfl
theorem r51 : compR Try.prog Try.f51 = .some [.tmp 2] := by kernel_rfl
theorem n51 : (Try.f51.name == "runtime.NumGoroutine") = false := by kernel_rfl
end Go.Proofs.Ytnfagphepkeedaa
end
section
namespace Go.Proofs.Ytnfagphepkeedaa
def c8 : C := .seq
  (.reg [(none, (.box (.tmp 0), .some 1)), (none, (.new [.slice none 0 0, .slice none 0 0], .some 2))] []) (.seq
  (.reg [zF 0 1 3, zL 3 4, zC 25 [4] 5, (none, (.bsl 1 [], .some 6)), zF 1 1 7, zL 7 8, (none, (.app 1 1 (.tmp 6) (.tmp 8), .some 9)), (none, (.build [.slice none 0 0, .slice none 0 0] [(0, (1, .tmp 5)), (1, (1, .tmp 9))], .some 10)), zS 2 2 10] [(1, 5), (2, 5)]) .ret)
theorem b8 : Try.f8.body.bind (compC Try.prog) = some c8 := by kernel_rfl
theorem r8 : compR Try.prog Try.f8 = .some [.cell 2 (.some 2)] := by kernel_rfl
theorem n8 : (Try.f8.name == "runtime.NumGoroutine") = false := by kernel_rfl
def c9 : C := .seq
  (.reg [(none, (.box (.tmp 0), .some 2)), (none, (.box (.tmp 1), .some 3)), zV (.bool .false) 4] []) (.seq
  (.reg [zF 0 2 5, zL 5 6, zF 0 3 7, zL 7 8, zC 22 [6, 8] 9, zM 9 10, zG 10 true (zF 1 2 11), zG 10 true (zL 11 12), zG 10 true (zF 1 3 13), zG 10 true (zL 13 14), zG 10 true (zC 29 [12, 14] 15), (none, (.pick (.tmp 10) (.tmp 15) (.const (.bool .false)), .some 16)), zM 16 4] []) .ret)
theorem b9 : Try.f9.body.bind (compC Try.prog) = some c9 := by kernel_rfl
theorem r9 : compR Try.prog Try.f9 = .some [.tmp 4] := by kernel_rfl
theorem n9 : (Try.f9.name == "runtime.NumGoroutine") = false := by kernel_rfl
def c12 : C := .seq
  (.reg [zV (.bool .false) 2] []) (.seq (.seq
  (.reg [zV (.int .i64 0) 3] []) (.block 0 (.loop (.seq (.seq
  (.reg [zM 3 4, zM 0 5, zU 5 6, zB .lss 4 6 7, zM 7 8, zG 8 true (zM 3 9), zG 8 true (zI .lss 9 50 10), (none, (.pick (.tmp 8) (.tmp 10) (.const (.bool .false)), .some 11))] []) (.cond (.tmp 11) .skip (.exit 0))) (.seq (.block 1 (.seq
  (.reg [zM 0 14, zM 3 15, zJ 2 14 15 16, zF 1 16 17, zL 17 18, zU 18 19, zI .gtr 19 50 20] []) (.cond (.tmp 20) (.seq
  (.reg [zV (.bool .true) 2] []) .ret) .skip)))
  (.reg [zM 3 12, zI .add 12 1 13, zM 13 3] [])))))) (.seq
  (.reg [zM 0 21, zU 21 22, zI .gtr 22 50 23, zM 23 2] []) .ret))
theorem b12 : Try.f12.body.bind (compC Try.prog) = some c12 := by kernel_rfl
theorem r12 : compR Try.prog Try.f12 = .some [.tmp 2] := by kernel_rfl
theorem n12 : (Try.f12.name == "runtime.NumGoroutine") = false := by kernel_rfl
def c20 : C := .seq
  (.reg [(none, (.box (.tmp 0), .some 2)), (none, (.box (.tmp 1), .some 3)), zV (.bool .false) 4] []) (.seq
  (.reg [zF 0 2 5, zL 5 6, zF 0 3 7, zL 7 8, zB .eql 6 8 9, zM 9 10, zG 10 true (zF 1 2 11), zG 10 true (zL 11 12), zG 10 true (zF 1 3 13), zG 10 true (zL 13 14), zG 10 true (zC 34 [12, 14] 15), (none, (.pick (.tmp 10) (.tmp 15) (.const (.bool .false)), .some 16)), zM 16 4] []) .ret)
theorem b20 : Try.f20.body.bind (compC Try.prog) = some c20 := by kernel_rfl
theorem r20 : compR Try.prog Try.f20 = .some [.tmp 4] := by kernel_rfl
theorem n20 : (Try.f20.name == "runtime.NumGoroutine") = false := by kernel_rfl
def c24 : C := .seq
  (.reg [zV (.bool .false) 4] []) (.seq
  (.reg [zM 0 5, zM 1 6, (none, (.call (.func 45) [.tmp 5, .tmp 6, .func 46], .some 7)), zM 7 4] []) .ret)
theorem b24 : Try.f24.body.bind (compC Try.prog) = some c24 := by kernel_rfl
theorem r24 : compR Try.prog Try.f24 = .some [.tmp 4] := by kernel_rfl
theorem n24 : (Try.f24.name == "runtime.NumGoroutine") = false := by kernel_rfl
def c35 : C := .seq
  (.reg [zV (.bool .false) 4] []) (.seq (.seq
  (.reg [zM 0 6, zU 6 7, zV (.int .i64 0) 8] []) (.block 0 (.loop (.seq
  (.reg [zB .lss 8 7 9] []) (.seq (.cond (.tmp 9) .skip (.exit 0)) (.seq (.block 1 (.seq
  (.reg [zM 8 10, zM 10 5] []) (.seq
  (.reg [zM 5 11, zI .gtr 11 0 12, zM 12 13, zG 13 true (zM 1 14), zG 13 true (zM 0 15), zG 13 true (zM 5 16), zG 13 true (zJ 2 15 16 17), zG 13 true (zN 2 17 18), (.some (13, .true), (.call (.tmp 14) [.tmp 18], .some 19)), zG 13 true (zM 1 20), zG 13 true (zM 0 21), zG 13 true (zM 5 22), zG 13 true (zI .sub 22 1 23), zG 13 true (zJ 2 21 23 24), zG 13 true (zN 2 24 25), (.some (13, .true), (.call (.tmp 20) [.tmp 25], .some 26)), zG 13 true (zB .leq 19 26 27), (none, (.pick (.tmp 13) (.tmp 27) (.const (.bool .false)), .some 28))] [(7, 14), (8, 14)]) (.cond (.tmp 28) (.seq
  (.reg [zV (.bool .false) 4] []) .ret) .skip))))
  (.reg [zI .add 8 1 29, zM 29 8] []))))))) (.seq
  (.reg [zV (.bool .true) 4] []) .ret))
theorem b35 : Try.f35.body.bind (compC Try.prog) = some c35 := by kernel_rfl
theorem r35 : compR Try.prog Try.f35 = .some [.tmp 4] := by kernel_rfl
theorem n35 : (Try.f35.name == "runtime.NumGoroutine") = false := by kernel_rfl
def c40 : C := .seq
  (.reg [(none, (.box (.tmp 0), .some 1)), (none, (.new [.int .u64 0, .slice none 0 0], .some 2))] []) (.seq
  (.reg [(none, (.bsl 1 [], .some 3)), zF 1 1 4, zL 4 5, (none, (.app 1 8 (.tmp 3) (.tmp 5), .some 6)), zF 1 1 7, zS 1 7 6] []) (.seq
  (.reg [zN 2 1 8, zS 2 2 8] []) .ret))
theorem b40 : Try.f40.body.bind (compC Try.prog) = some c40 := by kernel_rfl
theorem r40 : compR Try.prog Try.f40 = .some [.cell 2 (.some 2)] := by kernel_rfl
theorem n40 : (Try.f40.name == "runtime.NumGoroutine") = false := by kernel_rfl
def c45 : C := .seq
  (.reg [zV (.bool .false) 6] []) (.seq (.seq
  (.reg [zM 0 10, zU 10 11, zM 1 12, zU 12 13, zB .neq 11 13 14] []) (.cond (.tmp 14) (.seq
  (.reg [zV (.bool .false) 6] []) .ret) .skip)) (.seq (.seq
  (.reg [zM 0 15, zU 15 16, zV (.int .i64 0) 17] []) (.block 0 (.loop (.seq
  (.reg [zB .lss 17 16 18] []) (.seq (.cond (.tmp 18) .skip (.exit 0)) (.seq (.block 1 (.seq
  (.reg [zM 17 19, zJ 2 15 17 20, zN 2 20 21, (none, (.new [.int .u64 0, .slice none 0 0], .some 8)), zM 19 7, zS 2 8 21] []) (.seq
  (.reg [zM 1 22, zM 7 23, zJ 2 22 23 24, zN 2 24 25, (none, (.new [.int .u64 0, .slice none 0 0], .some 9)), zS 2 9 25] []) (.seq
  (.reg [zM 2 26, zN 2 8 27, zN 2 9 28, (none, (.call (.tmp 26) [.tmp 27, .tmp 28], .some 29)), (none, (.un .not (.tmp 29), .some 30))] []) (.cond (.tmp 30) (.seq
  (.reg [zV (.bool .false) 6] []) .ret) .skip)))))
  (.reg [zI .add 17 1 31, zM 31 17] []))))))) (.seq
  (.reg [zV (.bool .true) 6] []) .ret)))
theorem b45 : Try.f45.body.bind (compC Try.prog) = some c45 := by kernel_rfl
theorem r45 : compR Try.prog Try.f45 = .some [.tmp 6] := by kernel_rfl
theorem n45 : (Try.f45.name == "runtime.NumGoroutine") = false := by kernel_rfl
def c47 : C := .seq
  (.reg [zV (.bool .false) 4] []) (.seq (.seq
  (.reg [zM 0 6, zU 6 7, zM 1 8, zU 8 9, zB .neq 7 9 10] []) (.cond (.tmp 10) (.seq
  (.reg [zV (.bool .false) 4] []) .ret) .skip)) (.seq (.seq
  (.reg [zM 0 11, zU 11 12, zV (.int .i64 0) 13] []) (.block 0 (.loop (.seq
  (.reg [zB .lss 13 12 14] []) (.seq (.cond (.tmp 14) .skip (.exit 0)) (.seq (.block 1 (.seq
  (.reg [zM 13 15, zM 15 5] []) (.seq
  (.reg [zM 0 16, zM 5 17, zJ 1 16 17 18, zL 18 19, zM 1 20, zM 5 21, zJ 1 20 21 22, zL 22 23, zB .neq 19 23 24] [(3, 7)]) (.cond (.tmp 24) (.seq
  (.reg [zV (.bool .false) 4] []) .ret) .skip))))
  (.reg [zI .add 13 1 25, zM 25 13] []))))))) (.seq
  (.reg [zV (.bool .true) 4] []) .ret)))
theorem b47 : Try.f47.body.bind (compC Try.prog) = some c47 := by kernel_rfl
theorem r47 : compR Try.prog Try.f47 = .some [.tmp 4] := by kernel_rfl
theorem n47 : (Try.f47.name == "runtime.NumGoroutine") = false := by kernel_rfl
def c58 : C := .seq
  (.reg [zV (.slice none 0 0) 2] []) (.seq
  (.reg [zV (.slice none 0 0) 3] []) (.seq (.block 0 (.loop (.seq (.seq
  (.reg [zM 0 4, (none, (.bin .geq (.tmp 4) (.const (.int .u64 128)), .some 5))] []) (.cond (.tmp 5) .skip (.exit 0))) (.block 1 (.seq
  (.reg [zM 3 6, zM 0 7, (none, (.cvt .u8 (.tmp 7), .some 8)), (none, (.bin .or (.tmp 8) (.const (.int .u8 128)), .some 9)), (none, (.bsl 1 [.tmp 9], .some 10)), (none, (.app 1 1 (.tmp 6) (.tmp 10), .some 11)), zM 11 3] [])
  (.reg [zM 0 12, (none, (.bin .shr (.tmp 12) (.const (.int .u64 7)), .some 13)), zM 13 0] [])))))) (.seq
  (.reg [zM 3 14, zM 0 15, (none, (.cvt .u8 (.tmp 15), .some 16)), (none, (.bsl 1 [.tmp 16], .some 17)), (none, (.app 1 1 (.tmp 14) (.tmp 17), .some 18)), zM 18 2] []) .ret)))
theorem b58 : Try.f58.body.bind (compC Try.prog) = some c58 := by kernel_rfl
theorem r58 : compR Try.prog Try.f58 = .some [.tmp 2] := by kernel_rfl
theorem n58 : (Try.f58.name == "runtime.NumGoroutine") = false := by kernel_rfl
end Go.Proofs.Ytnfagphepkeedaa
end
section
section
namespace Go.Proofs.Ytnfagphepkeedaa
theorem clo {p : Prop} (h : p := by (intros; simp [flt])) : p := h

abbrev iA (n : Int) : AV := .lit (.int .i64 n)
abbrev uA (n : Int) : AV := .lit (.int .u64 n)
abbrev bA (b : Bool) : AV := .lit (.bool b)
abbrev slA (k : IntKind) (l : List Int) : AV := .sl .none 1 (ints k l)
def rdr (s : RS) : AObj := .cells [.sl .full 1 (ints .u8 s.l), iA s.at_, iA s.code, iA s.fat]
@[simp] theorem rdr_ren (ρ : Nat → Nat) (s : RS) : (rdr s).ren ρ = rdr s := by simp [rdr, ixs_z]
end Go.Proofs.Ytnfagphepkeedaa
end
section
namespace Go.Proofs.Ytnfagphepkeedaa
open Go.RowKit

abbrev u8A (n : Int) : AV := .lit (.int .u8 n)
theorem shr7 {y : Int} : y.fdiv (2 ^ min 7 64) = y / 128 := by
  show y.fdiv 128 = y / 128
  rw [Int.fdiv_eq_ediv_of_nonneg _ (by omega)]
theorem or128_of {y : Int} (h0 : 0 ≤ y) : bitsI .or .u8 (IntKind.u8.wrap y) 128 = 128 + y % 128 := by
  rw [IntKind.wrap_u8]
  show bits .or .u8 (y % 256) 128 = _
  rw [u8_or _ _ (by omega) (by omega) (by omega) (by omega)]
  have := or128 ⟨(y % 256).toNat, by omega⟩
  simp only at this
  rw [show (128 : Int).toNat = 128 from rfl, this]
  omega
theorem varint_Bytes0 (x : Int) (h0 : 0 ≤ x) (h1 : x < 18446744073709551616) : Does Try.prog 58 [uA x] [] (slA .u8 (vb x)) [] := by
  refine Does.runA Try.func58 b58 n58 Try.ntmps58 ?_; simp only [c58, go_sem, Nat.reduceAdd, Nat.reduceMul, Int.reduceToNat, Nat.reduceLeDiff, Int.reduceLE, Int.reduceLT, ↓reduceIte, Int.reduceBEq, Int.reduceBNe, Int.reduceAdd, Int.reduceSub, Int.reduceMul]; try refine okTr_and rfl ?_
  have hl := (vb_len x).2
  refine loop_of (α := Int × List Int) (fun a => [uA a.1, .any, .any, .sl (.row 0) 1 (ints .u8 a.2), .any, .any, .any, .any, .any, .any, .any, .any, .any, .any, .any, .any, .any, .any, .any]) (fun a => [.row 1 a.2.length]) (fun a => 0 ≤ a.1 ∧ a.1 < 18446744073709551616 ∧ a.2 ++ vb a.1 = vb x) (fun a => a.1.toNat) (x, []) ⟨h0, h1, rfl⟩ ((Wk.row 3 1 rfl (.inl rfl) (Nat.le_refl _)).trans (Wk.forget (by simp [leT, ints]))) ?_
  rintro ⟨y, m⟩ ⟨y0, y1, hk⟩
  simp only at y0 y1 hk
  have hm : m.length ≤ 10 := by rw [← hk] at hl; simp at hl; omega
  (simp only [go_sem, Nat.reduceAdd, Nat.reduceMul, Int.reduceToNat, Nat.reduceLeDiff, Int.reduceLE, Int.reduceLT, ↓reduceIte, Int.reduceBEq, Int.reduceBNe, Int.reduceAdd, Int.reduceSub, Int.reduceMul]; try refine okTr_and rfl ?_)
  refine cdK_split (fun h => ?_) (fun h => ?_)
  · have hy2 : 128 ≤ y := by simpa using h
    have eb := vb_ge hy2 y1
    have e1 : [u8A (128 + y % 128)] = ints .u8 [128 + y % 128] := rfl
    (simp only [go_sem, Nat.reduceAdd, Nat.reduceMul, Int.reduceToNat, Nat.reduceLeDiff, Int.reduceLE, Int.reduceLT, ↓reduceIte, Int.reduceBEq, Int.reduceBNe, Int.reduceAdd, Int.reduceSub, Int.reduceMul, shr7, or128_of y0, e1, ints_append, ints_length]; try refine okTr_and rfl ?_)
    (repeat ((with_reducible refine And.intro ?_ ?_); (· exact sd)))
    refine ⟨(y / 128, m ++ [128 + y % 128]), ⟨by simp only; omega, by simp only; omega, ?_⟩, by simp only; omega, Wk.to (by simp) (by simp [leT])⟩
    rw [← hk, eb]; simp
  · have hy2 : y < 128 := by simpa using h
    have eb := vb_lt hy2
    rw [eb] at hk
    have ew : IntKind.u8.wrap y = y := IntWalk.u8_in _ (by omega)
    have e1 : [u8A y] = ints .u8 [y] := rfl
    (simp only [go_sem, Nat.reduceAdd, Nat.reduceMul, Int.reduceToNat, Nat.reduceLeDiff, Int.reduceLE, Int.reduceLT, ↓reduceIte, Int.reduceBEq, Int.reduceBNe, Int.reduceAdd, Int.reduceSub, Int.reduceMul, ew, e1, ints_append, ints_length]; try refine okTr_and rfl ?_)
    (repeat ((with_reducible refine And.intro ?_ ?_); (· exact sd)))
    (refine FinK.untag 2 rfl ?_; simp only [untag1_sl, List.set_cons_zero, List.set_cons_succ])
    ((refine FinK.finB r58 [] ?_ ?_); (· first | with_reducible rfl | (simp [hk]; done) | rfl); (· simp [resAL, resA1, loadA, oneOr, hk]))
theorem varint_Bytes (x : Int) (h0 : 0 ≤ x) (h1 : x < 18446744073709551616) : Ct Try.prog 58 [uA x] [] (fun _ => slA .u8 (vb x)) [] (fun _ => []) := (varint_Bytes0 x h0 h1).toCt cl cl
end Go.Proofs.Ytnfagphepkeedaa
end
section
namespace Go.Proofs.Ytnfagphepkeedaa
open Go.RowKit

theorem RS.ok.adv {s : RS} (h : s.ok) {i : Nat} (hi : i ≤ s.rest.length) : (s.adv i).ok := by
  obtain ⟨a, b, c⟩ := h
  have := rest_len s a b
  exact ⟨by show 0 ≤ s.at_ + (i : Int); omega, by show s.at_ + (i : Int) ≤ s.l.length; omega, c⟩
end Go.Proofs.Ytnfagphepkeedaa
end
section
namespace Go.Proofs.Ytnfagphepkeedaa
open Go.RowKit

/-- A writer whose buffer is row j. -/
def wob (j : Nat) (s : WS) : AObj := .cells [iA s.most, .sl (.row j) 1 (ints .u8 s.l), iA s.code]
def wrow (s : WS) : AObj := .row 1 s.l.length
@[simp] theorem wob_ren (ρ : Nat → Nat) (j : Nat) (s : WS) : (wob j s).ren ρ = wob (ρ j) s := by simp [wob, ixs_z]
@[simp] theorem wrow_ren (ρ : Nat → Nat) (s : WS) : (wrow s).ren ρ = wrow s := rfl
theorem wob_dead (j : Nat) (s : WS) : wob j s ≠ .dead := by simp [wob]
theorem wrow_dead (s : WS) : wrow s ≠ .dead := by simp [wrow]

theorem Writer_Code0 (s : WS) : Does Try.prog 51 [.ref 0 0] [wob 1 s, wrow s] (iA s.code) [wob 1 s, wrow s] := by
  refine Does.runA Try.func51 b51 n51 Try.ntmps51 ?_; simp only [c51, go_sem, Nat.reduceAdd, Nat.reduceMul, Int.reduceToNat, Nat.reduceLeDiff, Int.reduceLE, Int.reduceLT, ↓reduceIte, Int.reduceBEq, Int.reduceBNe, Int.reduceAdd, Int.reduceSub, Int.reduceMul, wob, wrow]; try refine okTr_and rfl ?_
  ((refine FinK.finB r51 [0, 1] ?_ ?_); (· first | with_reducible rfl | (simp [wob, wrow]; done) | rfl); (· simp [resAL, resA1, loadA, oneOr, wob, wrow]))
theorem Writer_Code (s : WS) (i j : Nat) (h : i ≠ j) : Ct Try.prog 51 [.ref i 0] [(i, wob j s), (j, wrow s)] (fun _ => iA s.code) [] (fun _ => []) := Ct.r2 (Writer_Code0 s) i j h clo cl cl (wob_dead _ _) (wrow_dead _) clo

theorem Writer_Room0 (s : WS) (hs : s.ok) : Does Try.prog 60 [.ref 0 0] [wob 1 s, wrow s] (iA s.room) [wob 1 s, wrow s] := by
  obtain ⟨a, b, c⟩ := hs
  have e : IntKind.i64.wrap (s.most - s.l.length) = s.room := by rw [IntWalk.i64_in _ (by omega)]; rfl
  refine Does.runA Try.func60 b60 n60 Try.ntmps60 ?_; simp only [c60, go_sem, Nat.reduceAdd, Nat.reduceMul, Int.reduceToNat, Nat.reduceLeDiff, Int.reduceLE, Int.reduceLT, ↓reduceIte, Int.reduceBEq, Int.reduceBNe, Int.reduceAdd, Int.reduceSub, Int.reduceMul, wob, wrow, ints_length, e]; try refine okTr_and rfl ?_
  ((refine FinK.finB r60 [0, 1] ?_ ?_); (· first | with_reducible rfl | (simp [wob, wrow]; done) | rfl); (· simp [resAL, resA1, loadA, oneOr, wob, wrow]))
theorem Writer_Room (s : WS) (i j : Nat) (h : i ≠ j) (hs : s.ok) : Ct Try.prog 60 [.ref i 0] [(i, wob j s), (j, wrow s)] (fun _ => iA s.room) [] (fun _ => []) := Ct.r2 (Writer_Room0 s hs) i j h clo cl cl (wob_dead _ _) (wrow_dead _) clo

theorem Writer_Fail0 (s : WS) (c : Int) : Does Try.prog 49 [.ref 0 0, iA c] [wob 1 s, wrow s] (.tup []) [wob 1 (s.fail c), wrow (s.fail c)] := by
  have hw : wrow (s.fail c) = wrow s := by unfold wrow; rw [(fail_parts s c).2]
  refine Does.runA Try.func49 b49 n49 Try.ntmps49 ?_; simp only [c49, go_sem, Nat.reduceAdd, Nat.reduceMul, Int.reduceToNat, Nat.reduceLeDiff, Int.reduceLE, Int.reduceLT, ↓reduceIte, Int.reduceBEq, Int.reduceBNe, Int.reduceAdd, Int.reduceSub, Int.reduceMul]; try refine okTr_and rfl ?_
  refine CallK.r2 (Writer_Code s 0 1 (by decide)) rfl rfl ?_
  (simp only [go_sem, Nat.reduceAdd, Nat.reduceMul, Int.reduceToNat, Nat.reduceLeDiff, Int.reduceLE, Int.reduceLT, ↓reduceIte, Int.reduceBEq, Int.reduceBNe, Int.reduceAdd, Int.reduceSub, Int.reduceMul]; try refine okTr_and rfl ?_)
  refine cdK_split (fun h => ?_) (fun h => ?_)
  · have h' : s.code = 0 := by simpa using h
    (simp only [go_sem, Nat.reduceAdd, Nat.reduceMul, Int.reduceToNat, Nat.reduceLeDiff, Int.reduceLE, Int.reduceLT, ↓reduceIte, Int.reduceBEq, Int.reduceBNe, Int.reduceAdd, Int.reduceSub, Int.reduceMul, wob]; try refine okTr_and rfl ?_)
    ((refine FinK.finB r49 [0, 1] ?_ ?_); (· first | with_reducible rfl | (simp [wob, wrow, WS.fail, h']; done) | rfl); (· simp [resAL, resA1, loadA, oneOr, wob, wrow, WS.fail, h']))
  · have h' : ¬ s.code = 0 := by simpa using h
    (simp only [go_sem, Nat.reduceAdd, Nat.reduceMul, Int.reduceToNat, Nat.reduceLeDiff, Int.reduceLE, Int.reduceLT, ↓reduceIte, Int.reduceBEq, Int.reduceBNe, Int.reduceAdd, Int.reduceSub, Int.reduceMul]; try refine okTr_and rfl ?_)
    ((refine FinK.finB r49 [0, 1] ?_ ?_); (· first | with_reducible rfl | (simp [hw, WS.fail, h']; done) | rfl); (· simp [resAL, resA1, loadA, oneOr, hw, WS.fail, h']))
theorem Writer_Fail (s : WS) (c : Int) (i j : Nat) (h : i ≠ j) : Ct Try.prog 49 [.ref i 0, iA c] [(i, wob j s), (j, wrow s)] (fun _ => .tup []) [(i, wob j (s.fail c)), (j, wrow (s.fail c))] (fun _ => []) := Ct.u2 (Writer_Fail0 s c) i j h clo cl cl cl cl (wob_dead _ _) (wrow_dead _) clo

theorem Writer_Put0 (s : WS) (m : List Int) (hs : s.ok) (hB : s.l.length + m.length ≤ s.most → s.l.length + m.length ≤ 140737488355328) : Does Try.prog 57 [.ref 0 0, slA .u8 m] [wob 1 s, wrow s] (.tup []) [wob 1 (s.put m), wrow (s.put m)] := by
  refine Does.runA Try.func57 b57 n57 Try.ntmps57 ?_; simp only [c57, go_sem, Nat.reduceAdd, Nat.reduceMul, Int.reduceToNat, Nat.reduceLeDiff, Int.reduceLE, Int.reduceLT, ↓reduceIte, Int.reduceBEq, Int.reduceBNe, Int.reduceAdd, Int.reduceSub, Int.reduceMul]; try refine okTr_and rfl ?_
  refine CallK.r2 (Writer_Code s 0 1 (by decide)) rfl rfl ?_
  (simp only [go_sem, Nat.reduceAdd, Nat.reduceMul, Int.reduceToNat, Nat.reduceLeDiff, Int.reduceLE, Int.reduceLT, ↓reduceIte, Int.reduceBEq, Int.reduceBNe, Int.reduceAdd, Int.reduceSub, Int.reduceMul]; try refine okTr_and rfl ?_)
  refine cdK_split (fun h => ?_) (fun h => ?_)
  · have h' : ¬ s.code = 0 := by simpa using h
    (simp only [go_sem, Nat.reduceAdd, Nat.reduceMul, Int.reduceToNat, Nat.reduceLeDiff, Int.reduceLE, Int.reduceLT, ↓reduceIte, Int.reduceBEq, Int.reduceBNe, Int.reduceAdd, Int.reduceSub, Int.reduceMul]; try refine okTr_and rfl ?_)
    ((refine FinK.finB r57 [0, 1] ?_ ?_); (· first | with_reducible rfl | (simp [WS.put, h']; done) | rfl); (· simp [resAL, resA1, loadA, oneOr, WS.put, h']))
  · have h' : s.code = 0 := by simpa using h
    (simp only [go_sem, Nat.reduceAdd, Nat.reduceMul, Int.reduceToNat, Nat.reduceLeDiff, Int.reduceLE, Int.reduceLT, ↓reduceIte, Int.reduceBEq, Int.reduceBNe, Int.reduceAdd, Int.reduceSub, Int.reduceMul]; try refine okTr_and rfl ?_)
    refine CallK.r2 (Writer_Room s 0 1 (by decide) hs) rfl rfl ?_
    (simp only [go_sem, Nat.reduceAdd, Nat.reduceMul, Int.reduceToNat, Nat.reduceLeDiff, Int.reduceLE, Int.reduceLT, ↓reduceIte, Int.reduceBEq, Int.reduceBNe, Int.reduceAdd, Int.reduceSub, Int.reduceMul, ints_length]; try refine okTr_and rfl ?_)
    refine cdK_split (fun h => ?_) (fun h => ?_)
    · have h2 : s.most - s.l.length < m.length := by simp at h; simp only [WS.room] at h; omega
      have hf : s.fail 2 = s.put m := by unfold WS.put WS.fail; rw [if_pos h', if_pos h', if_pos h2]
      (simp only [go_sem, Nat.reduceAdd, Nat.reduceMul, Int.reduceToNat, Nat.reduceLeDiff, Int.reduceLE, Int.reduceLT, ↓reduceIte, Int.reduceBEq, Int.reduceBNe, Int.reduceAdd, Int.reduceSub, Int.reduceMul]; try refine okTr_and rfl ?_)
      refine CallK.u2 (Writer_Fail s 2 0 1 (by decide)) rfl rfl ?_
      (simp only [go_sem, Nat.reduceAdd, Nat.reduceMul, Int.reduceToNat, Nat.reduceLeDiff, Int.reduceLE, Int.reduceLT, ↓reduceIte, Int.reduceBEq, Int.reduceBNe, Int.reduceAdd, Int.reduceSub, Int.reduceMul]; try refine okTr_and rfl ?_)
      ((refine FinK.finB r57 [0, 1] ?_ ?_); (· first | with_reducible rfl | (simp [hf]; done) | rfl); (· simp [resAL, resA1, loadA, oneOr, hf]))
    · have h2 : ¬ s.most - s.l.length < m.length := by simp at h; simp only [WS.room] at h; omega
      (simp only [go_sem, Nat.reduceAdd, Nat.reduceMul, Int.reduceToNat, Nat.reduceLeDiff, Int.reduceLE, Int.reduceLT, ↓reduceIte, Int.reduceBEq, Int.reduceBNe, Int.reduceAdd, Int.reduceSub, Int.reduceMul, wob, wrow, ints_length, ints_append]; try refine okTr_and rfl ?_)
      (repeat ((with_reducible refine And.intro ?_ ?_); (· exact sd)))
      ((refine FinK.finB r57 [0, 1] ?_ ?_); (· first | with_reducible rfl | (simp [wob, wrow, WS.put, h', h2]; done) | rfl); (· simp [resAL, resA1, loadA, oneOr, wob, wrow, WS.put, h', h2]))
theorem Writer_Put (s : WS) (m : List Int) (i j : Nat) (h : i ≠ j) (hs : s.ok) (hB : s.l.length + m.length ≤ s.most → s.l.length + m.length ≤ 140737488355328) : Ct Try.prog 57 [.ref i 0, slA .u8 m] [(i, wob j s), (j, wrow s)] (fun _ => .tup []) [(i, wob j (s.put m)), (j, wrow (s.put m))] (fun _ => []) := Ct.u2 (Writer_Put0 s m hs hB) i j h clo cl cl cl cl (wob_dead _ _) (wrow_dead _) clo

theorem Writer_Bytes0 (s : WS) (hb : s.l.length ≤ 140737488355328) : Does Try.prog 28 [.ref 0 0] [wob 1 s, wrow s] (.tup [slA .u8 s.bytes, iA s.code]) [wob 1 s, wrow s] := by
  refine Does.runA Try.func28 b28 n28 Try.ntmps28 ?_; simp only [c28, go_sem, Nat.reduceAdd, Nat.reduceMul, Int.reduceToNat, Nat.reduceLeDiff, Int.reduceLE, Int.reduceLT, ↓reduceIte, Int.reduceBEq, Int.reduceBNe, Int.reduceAdd, Int.reduceSub, Int.reduceMul]; try refine okTr_and rfl ?_
  refine CallK.r2 (Writer_Code s 0 1 (by decide)) rfl rfl ?_
  (simp only [go_sem, Nat.reduceAdd, Nat.reduceMul, Int.reduceToNat, Nat.reduceLeDiff, Int.reduceLE, Int.reduceLT, ↓reduceIte, Int.reduceBEq, Int.reduceBNe, Int.reduceAdd, Int.reduceSub, Int.reduceMul]; try refine okTr_and rfl ?_)
  refine cdK_split (fun h => ?_) (fun h => ?_)
  · have h' : ¬ s.code = 0 := by simpa using h
    (simp only [go_sem, Nat.reduceAdd, Nat.reduceMul, Int.reduceToNat, Nat.reduceLeDiff, Int.reduceLE, Int.reduceLT, ↓reduceIte, Int.reduceBEq, Int.reduceBNe, Int.reduceAdd, Int.reduceSub, Int.reduceMul]; try refine okTr_and rfl ?_)
    (refine FinK.untag 2 rfl ?_; simp only [untag1_sl, List.set_cons_zero, List.set_cons_succ])
    ((refine FinK.finB r28 [0, 1] ?_ ?_); (· first | with_reducible rfl | (simp [WS.bytes, h']; done) | rfl); (· simp [resAL, resA1, loadA, oneOr, WS.bytes, h']))
  · have h' : s.code = 0 := by simpa using h
    (simp only [go_sem, Nat.reduceAdd, Nat.reduceMul, Int.reduceToNat, Nat.reduceLeDiff, Int.reduceLE, Int.reduceLT, ↓reduceIte, Int.reduceBEq, Int.reduceBNe, Int.reduceAdd, Int.reduceSub, Int.reduceMul, wob, wrow, ints_length]; try refine okTr_and rfl ?_)
    (repeat ((with_reducible refine And.intro ?_ ?_); (· exact sd)))
    (refine FinK.untag 2 rfl ?_; simp only [untag1_sl, List.set_cons_zero, List.set_cons_succ])
    ((refine FinK.finB r28 [0, 1] ?_ ?_); (· first | with_reducible rfl | (simp [wob, wrow, WS.bytes, h']; done) | rfl); (· simp [resAL, resA1, loadA, oneOr, wob, wrow, WS.bytes, h']))
theorem Writer_Bytes (s : WS) (i j : Nat) (h : i ≠ j) (hb : s.l.length ≤ 140737488355328) : Ct Try.prog 28 [.ref i 0] [(i, wob j s), (j, wrow s)] (fun _ => .tup [slA .u8 s.bytes, iA s.code]) [] (fun _ => []) := Ct.r2 (Writer_Bytes0 s hb) i j h clo cl cl (wob_dead _ _) (wrow_dead _) clo

theorem pen_New0 (n : Int) : Does Try.prog 26 [iA n] [] (.ref 0 0) [wob 1 (WS.new n), wrow (WS.new n)] := by
  have e : (if 0 > n then (0 : Int) else n) = max n 0 := by split <;> omega
  refine Does.runA Try.func26 b26 n26 Try.ntmps26 ?_; simp only [c26, go_sem, Nat.reduceAdd, Nat.reduceMul, Int.reduceToNat, Nat.reduceLeDiff, Int.reduceLE, Int.reduceLT, ↓reduceIte, Int.reduceBEq, Int.reduceBNe, Int.reduceAdd, Int.reduceSub, Int.reduceMul, e]; try refine okTr_and rfl ?_
  refine FinK.wk (Wk.rowObj 0 1 1 rfl rfl (.inl rfl) (Nat.le_refl _)) ?_
  (simp only [go_sem, Nat.reduceAdd, Nat.reduceMul, Int.reduceToNat, Nat.reduceLeDiff, Int.reduceLE, Int.reduceLT, ↓reduceIte, Int.reduceBEq, Int.reduceBNe, Int.reduceAdd, Int.reduceSub, Int.reduceMul]; try refine okTr_and rfl ?_)
  ((refine FinK.finB r26 [0, 1] ?_ ?_); (· first | with_reducible rfl | (simp [wob, wrow, WS.new]; done) | rfl); (· simp [resAL, resA1, loadA, oneOr, wob, wrow, WS.new]))
theorem pen_New (n : Int) : Ct Try.prog 26 [iA n] [] (fun k => .ref k 0) [] (fun k => [wob (k + 1) (WS.new n), wrow (WS.new n)]) := Ct.n (pen_New0 n) clo cl cl

theorem varint_Put0 (s : WS) (x : Int) (h0 : 0 ≤ x) (h1 : x < 18446744073709551616) (hs : s.ok) (hB : s.l.length + (vb x).length ≤ s.most → s.l.length + (vb x).length ≤ 140737488355328) : Does Try.prog 50 [.ref 0 0, uA x] [wob 1 s, wrow s] (.tup []) [wob 1 (s.put (vb x)), wrow (s.put (vb x))] := by
  refine Does.runA Try.func50 b50 n50 Try.ntmps50 ?_; simp only [c50, go_sem, Nat.reduceAdd, Nat.reduceMul, Int.reduceToNat, Nat.reduceLeDiff, Int.reduceLE, Int.reduceLT, ↓reduceIte, Int.reduceBEq, Int.reduceBNe, Int.reduceAdd, Int.reduceSub, Int.reduceMul]; try refine okTr_and rfl ?_
  refine CallK.p (varint_Bytes x h0 h1) ?_
  (simp only [go_sem, Nat.reduceAdd, Nat.reduceMul, Int.reduceToNat, Nat.reduceLeDiff, Int.reduceLE, Int.reduceLT, ↓reduceIte, Int.reduceBEq, Int.reduceBNe, Int.reduceAdd, Int.reduceSub, Int.reduceMul]; try refine okTr_and rfl ?_)
  refine CallK.u2 (Writer_Put s (vb x) 0 1 (by decide) hs hB) rfl rfl ?_
  (simp only [go_sem, Nat.reduceAdd, Nat.reduceMul, Int.reduceToNat, Nat.reduceLeDiff, Int.reduceLE, Int.reduceLT, ↓reduceIte, Int.reduceBEq, Int.reduceBNe, Int.reduceAdd, Int.reduceSub, Int.reduceMul]; try refine okTr_and rfl ?_)
  exact FinK.finA r50 [0, 1]
theorem varint_Put (s : WS) (x : Int) (i j : Nat) (h : i ≠ j) (h0 : 0 ≤ x) (h1 : x < 18446744073709551616) (hs : s.ok) (hB : s.l.length + (vb x).length ≤ s.most → s.l.length + (vb x).length ≤ 140737488355328) : Ct Try.prog 50 [.ref i 0, uA x] [(i, wob j s), (j, wrow s)] (fun _ => .tup []) [(i, wob j (s.put (vb x))), (j, wrow (s.put (vb x)))] (fun _ => []) := Ct.u2 (varint_Put0 s x h0 h1 hs hB) i j h clo cl cl cl cl (wob_dead _ _) (wrow_dead _) clo
end Go.Proofs.Ytnfagphepkeedaa
end
section
namespace Go.Proofs.Ytnfagphepkeedaa
open Go.RowKit

/-- A reader as a value. -/
abbrev cv (s : RS) : AV := .agg [slA .u8 s.l, iA s.at_, iA s.code, iA s.fat]

theorem bytes_same {l m : List Int} (hl : Bys l) (hm : Bys m) : ((bytesOf (ints .u8 l)).toList == (bytesOf (ints .u8 m)).toList) = sameB l m := by
  rw [ByteArray.toList_eq, ByteArray.toList_eq]
  unfold sameB
  rw [Bool.eq_iff_iff]
  simp only [beq_iff_eq, decide_eq_true_eq]
  constructor
  · intro h
    refine bys_inj l m hl hm ?_
    have h' : (ints .u8 l).map AV.byte = (ints .u8 m).map AV.byte := by simpa [bytesOf] using h
    unfold ints at h'
    rw [List.map_map, List.map_map] at h'
    exact h'
  · rintro rfl; rfl
theorem ref02_Same0 (l m : List Int) (hl : Bys l) (hm : Bys m) : Does Try.prog 29 [slA .u8 l, slA .u8 m] [] (bA (sameB l m)) [] := by
  refine Does.runA Try.func29 b29 n29 Try.ntmps29 ?_; simp only [c29, go_sem, Nat.reduceAdd, Nat.reduceMul, Int.reduceToNat, Nat.reduceLeDiff, Int.reduceLE, Int.reduceLT, ↓reduceIte, Int.reduceBEq, Int.reduceBNe, Int.reduceAdd, Int.reduceSub, Int.reduceMul, ints_u8, bytes_same hl hm]; try refine okTr_and rfl ?_
  exact FinK.finA r29 []
theorem ref02_Same (l m : List Int) (hl : Bys l) (hm : Bys m) : Ct Try.prog 29 [slA .u8 l, slA .u8 m] [] (fun _ => bA (sameB l m)) [] (fun _ => []) := (ref02_Same0 l m hl hm).toCt clo clo

end Go.Proofs.Ytnfagphepkeedaa
end
section
namespace Go.Proofs.Ytnfagphepkeedaa
open Go.RowKit

end Go.Proofs.Ytnfagphepkeedaa
end
end
section
section
namespace Go.Proofs.Ytnfagphepkeedaa
open Go.RowKit

end Go.Proofs.Ytnfagphepkeedaa
end
section
namespace Go.Proofs.Ytnfagphepkeedaa
open Go.RowKit

abbrev slU (l : List Int) : AV := .sl .none 1 (ints .u64 l)
theorem u64_get (l : List Int) (i : Nat) (h : i < l.length) : (ints .u64 l).getD (i : Int).toNat .any = uA (l.getD i 0) := by
  rw [Int.toNat_natCast]; exact ints_getD .u64 l i h
theorem ints_snoc (k : IntKind) (l : List Int) (z : Int) : ints k l ++ [.lit (.int k z)] = ints k (l ++ [z]) := by simp [ints]
end Go.Proofs.Ytnfagphepkeedaa
end
section
namespace Go.Proofs.Ytnfagphepkeedaa
open Go.RowKit

end Go.Proofs.Ytnfagphepkeedaa
end
section
namespace Go.Proofs.Ytnfagphepkeedaa
open Go.RowKit

theorem ref05_Same0 (l m : List Int) (hn : l.length ≤ 140737488355328) : Does Try.prog 34 [slU l, slU m] [] (bA (sameB l m)) [] := by
  refine Does.runA Try.func34 b34 n34 Try.ntmps34 ?_; simp only [c34, go_sem, Nat.reduceAdd, Nat.reduceMul, Int.reduceToNat, Nat.reduceLeDiff, Int.reduceLE, Int.reduceLT, ↓reduceIte, Int.reduceBEq, Int.reduceBNe, Int.reduceAdd, Int.reduceSub, Int.reduceMul, ints_length]; try refine okTr_and rfl ?_
  refine cdK_split (fun h => ?_) (fun h => ?_)
  · have hne : sameB l m = false := by
      unfold sameB; simp at h ⊢; intro e; subst e; exact h rfl
    (simp only [go_sem, Nat.reduceAdd, Nat.reduceMul, Int.reduceToNat, Nat.reduceLeDiff, Int.reduceLE, Int.reduceLT, ↓reduceIte, Int.reduceBEq, Int.reduceBNe, Int.reduceAdd, Int.reduceSub, Int.reduceMul]; try refine okTr_and rfl ?_)
    ((refine FinK.finB r34 [] ?_ ?_); (· first | with_reducible rfl | (simp [hne]; done) | rfl); (· simp [resAL, resA1, loadA, oneOr, hne]))
  · have hlen : l.length = m.length := by
      have h' : (l.length : Int) = m.length := by simpa using h
      omega
    (simp only [go_sem, Nat.reduceAdd, Nat.reduceMul, Int.reduceToNat, Nat.reduceLeDiff, Int.reduceLE, Int.reduceLT, ↓reduceIte, Int.reduceBEq, Int.reduceBNe, Int.reduceAdd, Int.reduceSub, Int.reduceMul]; try refine okTr_and rfl ?_)
    refine loop_of (α := Nat) (fun k => [slU l, slU m, .any, .any, .any, iA k, .any, .any, .any, .any, .any, .any, .any, .any, .any, .any, .any, .any, .any, .any, .any, .any, .any, .any, .any, .any]) (fun _ => []) (fun k => k ≤ l.length ∧ l.take k = m.take k) (fun k => l.length - k) 0 ⟨by simp, by simp⟩ (Wk.to (by simp) (by simp [leT])) ?_
    rintro k ⟨hk, ht⟩
    (simp only [go_sem, Nat.reduceAdd, Nat.reduceMul, Int.reduceToNat, Nat.reduceLeDiff, Int.reduceLE, Int.reduceLT, ↓reduceIte, Int.reduceBEq, Int.reduceBNe, Int.reduceAdd, Int.reduceSub, Int.reduceMul, ints_length]; try refine okTr_and rfl ?_)
    refine cdK_split (fun h => ?_) (fun h => ?_)
    · have hlt : k < l.length := by simpa using h
      have g1 := u64_get l k hlt
      have g2 := u64_get m k (by omega)
      have ei : IntKind.i64.wrap ((k : Int) + 1) = ((k + 1 : Nat) : Int) := by rw [IntWalk.i64_in _ (by omega)]; omega
      (simp only [go_sem, Nat.reduceAdd, Nat.reduceMul, Int.reduceToNat, Nat.reduceLeDiff, Int.reduceLE, Int.reduceLT, ↓reduceIte, Int.reduceBEq, Int.reduceBNe, Int.reduceAdd, Int.reduceSub, Int.reduceMul, g1, g2, ints_length]; try refine okTr_and rfl ?_)
      (repeat ((with_reducible refine And.intro ?_ ?_); (· exact sd)))
      refine cdK_split (fun h => ?_) (fun h => ?_)
      · have hx : l.getD k 0 ≠ m.getD k 0 := by simpa using h
        have hne : sameB l m = false := by unfold sameB; simp only [decide_eq_false_iff_not]; rintro rfl; exact hx rfl
        (simp only [go_sem, Nat.reduceAdd, Nat.reduceMul, Int.reduceToNat, Nat.reduceLeDiff, Int.reduceLE, Int.reduceLT, ↓reduceIte, Int.reduceBEq, Int.reduceBNe, Int.reduceAdd, Int.reduceSub, Int.reduceMul]; try refine okTr_and rfl ?_)
        ((refine FinK.finB r34 [] ?_ ?_); (· first | with_reducible rfl | (simp [hne]; done) | rfl); (· simp [resAL, resA1, loadA, oneOr, hne]))
      · have hx : l.getD k 0 = m.getD k 0 := by simpa using h
        (simp only [go_sem, Nat.reduceAdd, Nat.reduceMul, Int.reduceToNat, Nat.reduceLeDiff, Int.reduceLE, Int.reduceLT, ↓reduceIte, Int.reduceBEq, Int.reduceBNe, Int.reduceAdd, Int.reduceSub, Int.reduceMul, ei]; try refine okTr_and rfl ?_)
        refine ⟨k + 1, ⟨hlt, ?_⟩, by omega, Wk.to (by simp) (by simp [leT])⟩
        rw [take_snoc l k hlt, take_snoc m k (by omega), ht, hx]
    · have hk' : k = l.length := by simp at h; omega
      have he : sameB l m = true := by
        unfold sameB
        rw [hk', List.take_length, List.take_of_length_le (by omega)] at ht
        simpa using ht
      (simp only [go_sem, Nat.reduceAdd, Nat.reduceMul, Int.reduceToNat, Nat.reduceLeDiff, Int.reduceLE, Int.reduceLT, ↓reduceIte, Int.reduceBEq, Int.reduceBNe, Int.reduceAdd, Int.reduceSub, Int.reduceMul]; try refine okTr_and rfl ?_)
      ((refine FinK.finB r34 [] ?_ ?_); (· first | with_reducible rfl | (simp [he]; done) | rfl); (· simp [resAL, resA1, loadA, oneOr, he]))
theorem ref05_Same (l m : List Int) (hn : l.length ≤ 140737488355328) : Ct Try.prog 34 [slU l, slU m] [] (fun _ => bA (sameB l m)) [] (fun _ => []) := (ref05_Same0 l m hn).toCt cl clo

end Go.Proofs.Ytnfagphepkeedaa
end
end
section
section
namespace Go.Proofs.Ytnfagphepkeedaa

/-- How one thing more is read and written, behind those that are there, and which may stand there. -/
structure Fmt (β : Type) where
  f : RS → List β → RS × β
  enc : List β → β → List Int
  nx : List β → β → Prop
def Wf {β : Type} (nx : List β → β → Prop) : List β → List β → Prop
  | _, [] => True
  | acc, x :: r => nx acc x ∧ Wf nx (acc ++ [x]) r
def encs {β : Type} (enc : List β → β → List Int) : List β → List β → List Int
  | _, [] => []
  | acc, x :: r => enc acc x ++ encs enc (acc ++ [x]) r
theorem wf_snoc {β : Type} {nx : List β → β → Prop} : ∀ {r acc : List β} {x : β}, Wf nx acc (r ++ [x]) ↔ Wf nx acc r ∧ nx (acc ++ r) x := by
  intro r
  induction r with
  | nil => intro acc x; simp [Wf]
  | cons y r ih => intro acc x; simp only [List.cons_append, Wf, ih, List.append_assoc, List.nil_append, and_assoc]
theorem encs_snoc {β : Type} {enc : List β → β → List Int} : ∀ {r acc : List β} {x : β}, encs enc acc (r ++ [x]) = encs enc acc r ++ enc (acc ++ r) x := by
  intro r
  induction r with
  | nil => intro acc x; simp [encs]
  | cons y r ih => intro acc x; simp only [List.cons_append, encs, ih, List.append_assoc, List.nil_append]
theorem wf_take {β : Type} {nx : List β → β → Prop} : ∀ {r acc : List β} (k : Nat), Wf nx acc r → Wf nx acc (r.take k) := by
  intro r
  induction r with
  | nil => intro acc k h; simp [Wf]
  | cons y r ih =>
    intro acc k h
    cases k with
    | zero => simp [Wf]
    | succ k => exact ⟨h.1, ih k h.2⟩
theorem wf_get {β : Type} {nx : List β → β → Prop} : ∀ {r acc : List β} (k : Nat) (h : k < r.length), Wf nx acc r → nx (acc ++ r.take k) r[k] := by
  intro r
  induction r with
  | nil => intro acc k h; simp at h
  | cons y r ih =>
    intro acc k h hw
    cases k with
    | zero => simpa using hw.1
    | succ k =>
      have := ih (acc := acc ++ [y]) k (by simpa using h) hw.2
      simpa using this
theorem wf_of {β : Type} {nx : List β → β → Prop} : ∀ {r acc : List β}, (∀ (k : Nat) (h : k < r.length), nx (acc ++ r.take k) r[k]) → Wf nx acc r := by
  intro r
  induction r with
  | nil => intro acc h; trivial
  | cons y r ih =>
    intro acc h
    have h0 := h 0 (by simp)
    simp only [List.take_zero, List.append_nil, List.getElem_cons_zero] at h0
    refine ⟨h0, ih fun k hk => ?_⟩
    have := h (k + 1) (by simpa using hk)
    simpa using this
structure Fmt.Ok {β : Type} (F : Fmt β) : Prop where
  keep : ∀ s acc, ROk s → Wf F.nx [] acc → ROk (F.f s acc).1 ∧ (F.f s acc).1.l = s.l
  read : ∀ s acc, ROk s → Wf F.nx [] acc → (F.f s acc).1.code = 0 → s.code = 0 ∧ F.nx acc (F.f s acc).2 ∧ s.at_ < (F.f s acc).1.at_ ∧ s.l.take (F.f s acc).1.at_.toNat = s.l.take s.at_.toNat ++ F.enc acc (F.f s acc).2
  own : ∀ s acc x r, ROk s → s.code = 0 → Wf F.nx [] acc → F.nx acc x → s.rest = F.enc acc x ++ r → F.f s acc = (s.adv ((F.enc acc x).length : Int), x)
  byt : ∀ acc x, Wf F.nx [] acc → F.nx acc x → Bys (F.enc acc x)

section
variable {β : Type} {F : Fmt β}
def Fmt.many (F : Fmt β) : Nat → RS → List β → RS × List β
  | 0, s, acc => (s, acc)
  | n + 1, s, acc => if (F.f s acc).1.code = 0 then F.many n (F.f s acc).1 (acc ++ [(F.f s acc).2]) else ((F.f s acc).1, [])
theorem many_good {s : RS} {acc : List β} {N : Nat} (h : acc.length < N) (hc : (F.f s acc).1.code = 0) : F.many (N - acc.length) s acc = F.many (N - (acc ++ [(F.f s acc).2]).length) (F.f s acc).1 (acc ++ [(F.f s acc).2]) := by
  obtain ⟨m, hm⟩ : ∃ m, N - acc.length = m + 1 := ⟨N - acc.length - 1, by omega⟩
  rw [hm, Fmt.many, if_pos hc]
  congr 1
  simp; omega
/-- What is borne at each round. -/
structure Fmt.On (F : Fmt β) (s : RS) (N : Nat) (a : RS × List β) : Prop where
  ok : ROk a.1
  l : a.1.l = s.l
  adv : (a.2.length : Int) ≤ a.1.at_
  le : a.2.length ≤ N
  wf : Wf F.nx [] a.2
  res : F.many (N - a.2.length) a.1 a.2 = F.many N s []
theorem Fmt.On.next {s t : RS} {N : Nat} {acc : List β} (hF : F.Ok) (h : F.On s N (t, acc)) (hN : acc.length < N) (hc : (F.f t acc).1.code = 0) : F.On s N ((F.f t acc).1, acc ++ [(F.f t acc).2]) := by
  obtain ⟨h1, h2, h3, h4, h5, h6⟩ := h
  simp only at h1 h2 h3 h4 h5 h6
  obtain ⟨k1, k2⟩ := hF.keep t acc h1 h5
  obtain ⟨r1, r2, r3, r4⟩ := hF.read t acc h1 h5 hc
  refine ⟨k1, k2.trans h2, ?_, ?_, wf_snoc.2 ⟨h5, by simpa using r2⟩, ?_⟩
  · simp; omega
  · simp; omega
  · rw [← h6]; exact (many_good hN hc).symm
theorem Fmt.On.len {s t : RS} {N : Nat} {acc : List β} (h : F.On s N (t, acc)) : acc.length ≤ s.l.length := by
  have h1 := h.ok.at1
  have h2 := h.l
  have h3 := h.adv
  simp only at h1 h2 h3
  rw [h2] at h1
  omega
theorem many_keep (hF : F.Ok) : ∀ (N : Nat) (s : RS) (acc : List β), ROk s → Wf F.nx [] acc → ROk (F.many N s acc).1 ∧ (F.many N s acc).1.l = s.l := by
  intro N
  induction N with
  | zero => intro s acc h _; exact ⟨h, rfl⟩
  | succ N ih =>
    intro s acc h hw
    obtain ⟨k1, k2⟩ := hF.keep s acc h hw
    simp only [Fmt.many]
    split
    · rename_i hc
      obtain ⟨r1, r2, r3, r4⟩ := hF.read s acc h hw hc
      obtain ⟨q1, q2⟩ := ih _ (acc ++ [(F.f s acc).2]) k1 (wf_snoc.2 ⟨hw, by simpa using r2⟩)
      exact ⟨q1, q2.trans k2⟩
    · exact ⟨k1, k2⟩
/-- What has been read is well-formed, and is so written. -/
theorem many_is (hF : F.Ok) : ∀ (N : Nat) (s : RS) (acc : List β), ROk s → Wf F.nx [] acc → (F.many N s acc).1.code = 0 →
    ∃ r, (F.many N s acc).2 = acc ++ r ∧ r.length = N ∧ Wf F.nx [] (acc ++ r) ∧ s.l.take (F.many N s acc).1.at_.toNat = s.l.take s.at_.toNat ++ encs F.enc acc r ∧ s.code = 0 ∧ s.at_ ≤ (F.many N s acc).1.at_ := by
  intro N
  induction N with
  | zero => intro s acc h hw hc; exact ⟨[], by simp [Fmt.many], rfl, by simpa using hw, by simp [Fmt.many, encs], hc, Int.le_refl _⟩
  | succ N ih =>
    intro s acc h hw hc
    obtain ⟨k1, k2⟩ := hF.keep s acc h hw
    simp only [Fmt.many] at hc ⊢
    by_cases hn : (F.f s acc).1.code = 0
    · rw [if_pos hn] at hc ⊢
      obtain ⟨r1, r2, r3, r4⟩ := hF.read s acc h hw hn
      obtain ⟨r, q1, q2, q3, q4, q5, q6⟩ := ih (F.f s acc).1 (acc ++ [(F.f s acc).2]) k1 (wf_snoc.2 ⟨hw, by simpa using r2⟩) hc
      refine ⟨(F.f s acc).2 :: r, by rw [q1]; simp, by simp [q2], by simpa using q3, ?_, r1, by omega⟩
      rw [k2] at q4
      rw [q4, r4, encs, List.append_assoc]
    · rw [if_neg hn] at hc; exact absurd hc hn
theorem adv_ok {s : RS} (h : ROk s) {a r : List Int} (hr : s.rest = a ++ r) : ROk (s.adv (a.length : Int)) := by
  have := rest_len s h.at0 h.at1
  rw [hr, List.length_append] at this
  have h0 := h.at0
  exact ⟨by show 0 ≤ s.at_ + (a.length : Int); omega, by show s.at_ + (a.length : Int) ≤ s.l.length; omega, h.len, h.bys⟩
/-- What is written is read. -/
theorem many_own (hF : F.Ok) {m : List Int} : ∀ (l acc : List β) (s : RS), ROk s → s.code = 0 → Wf F.nx [] acc → Wf F.nx acc l → s.rest = encs F.enc acc l ++ m → F.many l.length s acc = (s.adv ((encs F.enc acc l).length : Int), acc ++ l) := by
  intro l
  induction l with
  | nil => intro acc s _ _ _ _ _; simp [Fmt.many, encs, RS.adv]
  | cons x l ih =>
    intro acc s hs hc hw hl hr
    simp only [encs, List.append_assoc] at hr
    have h1 := hF.own s acc x _ hs hc hw hl.1 hr
    have hs2 := adv_ok hs hr
    simp only [List.length_cons, Fmt.many]
    rw [h1]
    have hc2 : (s.adv ((F.enc acc x).length : Int)).code = 0 := hc
    rw [if_pos hc2, ih (acc ++ [x]) _ hs2 hc2 (wf_snoc.2 ⟨hw, by simpa using hl.1⟩) hl.2 (by rw [adv_rest hs.at0, hr, List.drop_left]), adv_adv, encs, List.length_append]
    simp
end

/-- A number of things, and these. -/
def Fmt.counted {β : Type} (F : Fmt β) (m : Int) (s : RS) : RS × List β := F.many (s.int m).2.toNat (s.int m).1 []
theorem most_code {s : RS} {m : Int} (h : (s.most m).1.code = 0) : s.vint.1.code = 0 ∧ s.vint.2 ≤ m ∧ s.most m = s.vint := by
  unfold RS.most at h ⊢
  by_cases hm : m < s.vint.2
  · rw [if_pos hm] at h
    unfold RS.fail at h
    split at h
    · simp [flt] at h
    · contradiction
  · rw [if_neg hm] at h ⊢; exact ⟨h, by omega, rfl⟩
theorem int_code {s : RS} {m : Int} (h : (s.int m).1.code = 0) : 0 ≤ m ∧ s.vint.1.code = 0 ∧ s.vint.2 ≤ m ∧ s.int m = s.vint := by
  unfold RS.int at h ⊢
  by_cases hm : 0 ≤ m
  · rw [if_pos hm] at h ⊢; obtain ⟨a, b, c⟩ := most_code h; exact ⟨hm, a, b, c⟩
  · rw [if_neg hm] at h
    unfold RS.fail at h
    split at h
    · simp [flt] at h
    · contradiction
section
variable {β : Type} {F : Fmt β}
theorem counted_keep (hF : F.Ok) {s : RS} (h : ROk s) (m : Int) : ROk (F.counted m s).1 ∧ (F.counted m s).1.l = s.l := by
  obtain ⟨a, b⟩ := h.int m
  obtain ⟨c, d⟩ := many_keep hF (s.int m).2.toNat (s.int m).1 [] a trivial
  exact ⟨c, d.trans b⟩
theorem counted_is (hF : F.Ok) {s : RS} (h : ROk s) {m : Int} (hc : (F.counted m s).1.code = 0) : Wf F.nx [] (F.counted m s).2 ∧ ((F.counted m s).2.length : Int) ≤ m ∧ s.code = 0 ∧
    s.l.take (F.counted m s).1.at_.toNat = s.l.take s.at_.toNat ++ vb (F.counted m s).2.length ++ encs F.enc [] (F.counted m s).2 ∧ s.at_ < (F.counted m s).1.at_ := by
  obtain ⟨r, q1, q2, q3, q4, q5, q6⟩ := many_is hF (s.int m).2.toNat (s.int m).1 [] (h.int m).1 trivial hc
  obtain ⟨i1, i2, i3, i4⟩ := int_code q5
  have hv := vint_range (s := s) h.bys
  unfold Fmt.counted
  rw [q1]
  obtain ⟨v1, v2, v3⟩ := vint_bytes h i2
  have ha := vint_adv h i2
  refine ⟨q3, ?_, v3, ?_, ?_⟩
  · simp only [List.nil_append]; rw [q2, i4]; omega
  · rw [(h.int m).2] at q4
    rw [q4]
    congr 1
    rw [i4, v1]
    congr 2
    simp only [List.nil_append]
    rw [q2, i4]; omega
  · rw [i4] at q6 ⊢; omega
theorem counted_own (hF : F.Ok) {s : RS} (h : ROk s) (hc : s.code = 0) {l : List β} {m : Int} {r : List Int} (hm : (l.length : Int) ≤ m) (hl : Wf F.nx [] l) (hn : l.length < 18446744073709551616) (hr : s.rest = vb l.length ++ (encs F.enc [] l ++ r)) :
    F.counted m s = (s.adv (((vb l.length).length : Int) + (encs F.enc [] l).length), l) := by
  have hv := vint_own hc (by omega : (0 : Int) ≤ (l.length : Int)) (by omega) hr
  have hi : s.int m = (s.adv ((vb (l.length : Int)).length : Int), (l.length : Int)) := by
    unfold RS.int RS.most
    rw [if_pos (by omega), hv, if_neg (by simp only; omega)]
  have hs2 := adv_ok h hr
  unfold Fmt.counted
  rw [hi]
  simp only [Int.toNat_natCast]
  rw [many_own hF l [] _ hs2 hc trivial hl (m := r) (by rw [adv_rest h.at0, hr, List.drop_left]), adv_adv]
  rfl
end
end Go.Proofs.Ytnfagphepkeedaa
end
section
namespace Go.Proofs.Ytnfagphepkeedaa

theorem int_own {s : RS} {x m : Int} {r : List Int} (hc : s.code = 0) (h0 : 0 ≤ x) (h1 : x ≤ m) (h2 : x < 18446744073709551616) (hr : s.rest = vb x ++ r) : s.int m = (s.adv ((vb x).length : Int), x) := by
  have hv := vint_own hc h0 h2 hr
  unfold RS.int RS.most
  rw [if_pos (by omega), hv, if_neg (by simp only; omega)]
/-- A blob. -/
def RS.blob (s : RS) (m : Int) : RS × List Int := (s.int m).1.take (s.int m).2
def blobB (b : List Int) : List Int := vb b.length ++ b
theorem RS.ok.blob {s : RS} (h : ROk s) (m : Int) : ROk (s.blob m).1 ∧ (s.blob m).1.l = s.l := by
  obtain ⟨a, b⟩ := h.int m
  exact ⟨a.take _, ((a.ok.take _).2).trans b⟩
/-- A fixed number out of bytes, the lowest first. -/
def fixOf : List Int → Int
  | [] => 0
  | c :: l => c + 256 * fixOf l
/-- A writer whose bound is small. -/
structure WS.fine (s : WS) : Prop where
  m0 : 0 ≤ s.most
  m1 : s.most ≤ 140737488355328
  le : s.l.length ≤ s.most
theorem WS.fine.ok {s : WS} (h : s.fine) : s.ok := ⟨h.m0, by have := h.m1; omega, h.le⟩
theorem WS.fine.new {n : Int} (h : n ≤ 140737488355328) : (WS.new n).fine := ⟨by simp [WS.new]; omega, by simp [WS.new]; omega, by simp [WS.new]; omega⟩
theorem WS.fine.put {s : WS} (h : s.fine) (m : List Int) : (s.put m).fine := ⟨by rw [put_most]; exact h.m0, by rw [put_most]; exact h.m1, (h.ok.put m).2.2⟩
theorem WS.fine.fail {s : WS} (h : s.fine) (c : Int) : (s.fail c).fine := by
  obtain ⟨a, b⟩ := fail_parts s c
  exact ⟨by rw [a]; exact h.m0, by rw [a]; exact h.m1, by rw [a, b]; exact h.le⟩
theorem WS.fine.puts {s : WS} (h : s.fine) (l : List Int) : (s.puts l).fine := by
  induction l generalizing s with
  | nil => exact h
  | cons x l ih => exact ih (s := s.put (vb x)) (h.put _)
theorem WS.fine.room {s : WS} (h : s.fine) (k : Nat) : (s.l.length : Int) + k ≤ s.most → s.l.length + k ≤ 140737488355328 := fun hk => by have := h.m1; omega
theorem WS.fine.len {s : WS} (h : s.fine) : s.l.length ≤ 140737488355328 := by have := h.m1; have := h.le; omega
def RS.fixed (s : RS) (n : Int) : RS × Int := ((s.take n).1, fixOf (s.take n).2)
end Go.Proofs.Ytnfagphepkeedaa
end
end
