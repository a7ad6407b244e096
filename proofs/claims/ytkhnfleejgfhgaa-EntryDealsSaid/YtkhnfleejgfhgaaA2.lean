/-
  The operations do what is told of them: structs and arrays of integers that are compared; all of them together. Over any program.
  Regions over abstract values: what their operations do, one behind the other; in the text's order. Over any program.
  Regions over abstract values: in the text's order. Over any program.
  Regions over abstract values, in whatever order is drawn. Over any program.
  A region whose order is drawn does what the text's order does, where no two operations whose order is open touch what the other one reads. Over any program.
  The code of a function over abstract values; contracts out of it. Over any program.
-/
import Derived.Test.YtkhnfleejgfhgaaA1
import Derived.Laws.StructEq
set_option linter.all false
set_option linter.unusedSimpArgs false
set_option linter.unusedVariables false
set_option linter.unnecessarySimpa false
section
namespace Go.Proofs.Ytkhnfleejgfhgaa

section
variable {P : Program}

def eqV : List Value → List Value → Bool
  | .int _ a :: xs, .int _ b :: ys => (a == b) && eqV xs ys
  | _, _ => true
/-- Integers of the same kinds, one by one. -/
def okV (xs ys : List Value) : Prop := xs.length = ys.length ∧ ∀ (j : Nat) (u v : Value), xs[j]? = some u → ys[j]? = some v → ∃ k a b, u = .int k a ∧ v = .int k b
theorem okV.tail {u v : Value} {xs ys : List Value} (h : okV (u :: xs) (v :: ys)) : okV xs ys := ⟨by simpa using h.1, fun j a b ha hb => h.2 (j + 1) a b (by simpa using ha) (by simpa using hb)⟩
theorem okV.take {xs ys : List Value} (h : okV xs ys) (n : Nat) : okV (xs.take n) (ys.take n) := ⟨by simp [h.1], fun j a b ha hb => by
  rw [List.getElem?_take] at ha hb
  split at ha
  · rename_i hj; rw [if_pos hj] at hb; exact h.2 j a b ha hb
  · cases ha⟩
theorem okV.drop {xs ys : List Value} (h : okV xs ys) (n : Nat) : okV (xs.drop n) (ys.drop n) := ⟨by simp [h.1], fun j a b ha hb => by
  rw [List.getElem?_drop] at ha hb; exact h.2 _ a b ha hb⟩
theorem eqV_split {xs ys : List Value} (h : okV xs ys) (n : Nat) : eqV xs ys = (eqV (xs.take n) (ys.take n) && eqV (xs.drop n) (ys.drop n)) := by
  induction n generalizing xs ys with
  | zero => simp [eqV]
  | succ n ih =>
    match xs, ys, h with
    | [], [], _ => simp [eqV]
    | u :: xs, v :: ys, h =>
      obtain ⟨k, a, b, rfl, rfl⟩ := h.2 0 u v rfl rfl
      simp only [List.take_succ_cons, List.drop_succ_cons, eqV]
      rw [ih h.tail, Bool.and_assoc]
    | [], _ :: _, h => exact absurd h.1 (by simp)
    | _ :: _, [], h => exact absurd h.1 (by simp)

/-- A value of a type made of integers, of its cells. -/
def aggV (a : Option Nat) (vs : Array Value) : Value := match a with
  | none => vs.getD 0 undef
  | some _ => .agg vs

theorem run_part_flat {t : TypeId} {a : Option Nat} {s : Nat} (ha : aggO P t = some a) (hs : szO P t = some s) (h1 : a = none → s = 1) (vs : Array Value) (off : Nat) (hle : off + s ≤ vs.size) (w : World) :
    (part t vs off).run P w = .ok (aggV a (vs.extract off (off + s))) w := by
  cases a with
  | none =>
    have := h1 rfl
    subst this
    have hv : vs[off]? = some vs[off] := Array.getElem?_eq_getElem (by omega)
    simp [part, run_isAgg_no ha, hv, aggV, show 0 < min (off + 1) vs.size - off by omega]
  | some n =>
    simp [part, run_isAgg_yes ha, run_sizeO hs, aggV]

theorem run_equal_flat : ∀ (d : Nat) (t : TypeId) (n : Nat) (a : Option Nat), flatI P d t = some n → aggO P t = some a → (a = none → n = 1) → ∀ (D : Nat) (xs ys : Array Value), d ≤ D → xs.size = n → ys.size = n → okV xs.toList ys.toList → ∀ w : World,
    (Op.equalIn D t (aggV a xs) (aggV a ys)).run P w = .ok (eqV xs.toList ys.toList) w := by
  intro d
  induction d with
  | zero => intro t n a h; simp [flatI] at h
  | succ d ih =>
    intro t n a h ha h1 D xs ys hD hx hy hok w
    obtain ⟨D, rfl⟩ : ∃ D', D = D' + 1 := ⟨D - 1, by omega⟩
    simp only [flatI] at h
    cases hu : P.underlying t with
    | none => simp [hu] at h
    | some ds =>
      rw [hu] at h
      cases ds with
      | int k =>
        have han : a = none := by simpa [aggO, hu] using ha.symm
        subst han
        have hn := h1 rfl
        subst hn
        obtain ⟨xl⟩ := xs
        obtain ⟨yl⟩ := ys
        match xl, yl, hx, hy with
        | [u], [v], _, _ =>
          obtain ⟨k', p, q, rfl, rfl⟩ := hok.2 0 u v rfl rfl
          have := run_equalIn_int (P := P) w D t k' k p q hu
          simpa [aggV, eqV] using this
      | struct fs =>
        simp only at h
        split at h
        · cases h
        · rename_i hst
          have hagg : ∃ m, a = some m := by
            cases a with
            | none => obtain ⟨d', hd', hq, _⟩ := aggO_none ha; rw [hu] at hd'; injection hd' with e; exact (hq _ e.symm).elim
            | some m => exact ⟨m, rfl⟩
          obtain ⟨m, rfl⟩ := hagg
          simp only [aggV]
          have hfo : P.fieldsOf t = fs := by simp [Program.fieldsOf, hu]
          rw [run_equalIn_struct (P := P) w D t xs ys (by rw [hfo]; exact hu) (by simpa using hst), hfo]
          have key : ∀ (l : List Field) (off : Nat), off ≤ n → l.foldl (fun acc f => acc.bind fun off => match flatI P d f.type, aggO P f.type with
              | some s, some a => if f.name ≠ "_" ∧ f.offset = off ∧ szO P f.type = some s ∧ (a = none → s = 1) then some (off + s) else none
              | _, _ => none) (some off) = some n → (Op.eqFields D xs ys l).run P w = .ok (eqV (xs.toList.drop off) (ys.toList.drop off)) w := by
            intro l
            induction l with
            | nil =>
              intro off hoff hl
              simp at hl; subst hl
              rw [List.drop_eq_nil_of_le (by simp; omega), List.drop_eq_nil_of_le (by simp; omega)]
              simp [Op.eqFields, eqV]
            | cons f l ihl =>
              intro off hoff hl
              have hnone : ∀ l : List Field, l.foldl (fun acc f => acc.bind fun off => match flatI P d f.type, aggO P f.type with
                | some s, some a => if f.name ≠ "_" ∧ f.offset = off ∧ szO P f.type = some s ∧ (a = none → s = 1) then some (off + s) else none
                | _, _ => none) none = (none : Option Nat) := by
                intro l; induction l with
                | nil => rfl
                | cons g l ih => simpa using ih
              have hmono : ∀ (l : List Field) (o : Nat), l.foldl (fun acc f => acc.bind fun off => match flatI P d f.type, aggO P f.type with
                | some s, some a => if f.name ≠ "_" ∧ f.offset = off ∧ szO P f.type = some s ∧ (a = none → s = 1) then some (off + s) else none
                | _, _ => none) (some o) = some n → o ≤ n := by
                intro l; induction l with
                | nil => intro o ho; simp at ho; omega
                | cons g l ih =>
                  intro o ho
                  simp only [List.foldl_cons, Option.bind_some] at ho
                  split at ho
                  · split at ho
                    · have := ih _ ho; omega
                    · rw [hnone] at ho; cases ho
                  · rw [hnone] at ho; cases ho
              simp only [List.foldl_cons, Option.bind_some] at hl
              split at hl
              · rename_i s a' hs' ha'
                split at hl
                · rename_i hc
                  obtain ⟨hname, hfoff, hsz, h1'⟩ := hc
                  have hle := hmono _ _ hl
                  subst hfoff
                  have e1 := run_part_flat ha' hsz h1' xs f.offset (by omega) w
                  have e2 := run_part_flat ha' hsz h1' ys f.offset (by omega) w
                  have hokp : okV (xs.extract f.offset (f.offset + s)).toList (ys.extract f.offset (f.offset + s)).toList := by
                    simp only [Array.toList_extract, List.extract_eq_take_drop]
                    exact (hok.drop _).take _
                  have e3 := ih f.type s a' hs' ha' h1' D _ _ (by omega) (by simp; omega) (by simp; omega) hokp w
                  have e4 := ihl _ hle hl
                  simp only [Op.eqFields]
                  rw [if_pos hname]
                  simp only [Sem.run_bind, e1, e2, e3, Result.andThen_ok]
                  have hsp := eqV_split (hok.drop f.offset) s
                  simp only [Array.toList_extract, List.extract_eq_take_drop, Nat.add_sub_cancel_left] at *
                  rw [hsp, List.drop_drop, List.drop_drop]
                  cases hb : eqV (List.take s (List.drop f.offset xs.toList)) (List.take s (List.drop f.offset ys.toList))
                  · simp
                  · simp [e4]
                · rw [hnone] at hl; cases hl
              · rw [hnone] at hl; cases hl
          have := key fs.toList 0 (Nat.zero_le _) h
          simpa using this
      | array len e =>
        simp only at h
        split at h
        · rename_i s a' hs' ha'
          split at h
          · rename_i hc
            obtain ⟨hsz, h1'⟩ := hc
            injection h with h
            have hagg : ∃ m, a = some m := by
              cases a with
              | none => obtain ⟨d', hd', _, hq⟩ := aggO_none ha; rw [hu] at hd'; injection hd' with e; exact (hq _ _ e.symm).elim
              | some m => exact ⟨m, rfl⟩
            obtain ⟨m, rfl⟩ := hagg
            simp only [aggV, Op.equalIn, Sem.run_bind, run_underlying hu, Result.andThen_ok, run_sizeO hsz]
            have step : ∀ i, i < len → (do
                let p ← part e xs (i * s)
                let q ← part e ys (i * s)
                Op.equalIn D e p q).run P w = .ok (eqV ((xs.toList.drop (i * s)).take s) ((ys.toList.drop (i * s)).take s)) w := by
              intro i hi
              have hle : i * s + s ≤ n := by
                rw [← h]; have : (i + 1) * s ≤ len * s := Nat.mul_le_mul_right _ (by omega)
                rw [Nat.add_mul] at this; omega
              have e1 := run_part_flat ha' hsz h1' xs (i * s) (by omega) w
              have e2 := run_part_flat ha' hsz h1' ys (i * s) (by omega) w
              have hokp : okV (xs.extract (i * s) (i * s + s)).toList (ys.extract (i * s) (i * s + s)).toList := by
                simp only [Array.toList_extract, List.extract_eq_take_drop]
                exact (hok.drop _).take _
              have e3 := ih e s a' hs' ha' h1' D _ _ (by omega) (by simp; omega) (by simp; omega) hokp w
              simp only [Sem.run_bind, e1, e2, e3, Result.andThen_ok]
              simp only [Array.toList_extract, List.extract_eq_take_drop, Nat.add_sub_cancel_left]
            have key : ∀ (r i : Nat), i + r = len → (forIn (List.range' i r) ((none, ()) : Option Bool × Unit) fun i _ => do
                let p ← part e xs (i * s)
                let q ← part e ys (i * s)
                let b ← Op.equalIn D e p q
                if (!b) = true then pure (ForInStep.done ((some false, ()) : Option Bool × Unit)) else pure (ForInStep.yield (none, ()))).run P w = .ok (if eqV (xs.toList.drop (i * s)) (ys.toList.drop (i * s)) then none else some false, ()) w := by
              intro r
              induction r with
              | zero =>
                intro i hi
                rw [List.drop_eq_nil_of_le (by simp; rw [hx, ← h, show i = len by omega]; exact Nat.le_refl _), List.drop_eq_nil_of_le (by simp; rw [hy, ← h, show i = len by omega]; exact Nat.le_refl _)]
                simp [eqV]
              | succ r ihr =>
                intro i hi
                have e1 := step i (by omega)
                have e2 := ihr (i + 1) (by omega)
                rw [List.range'_succ, List.forIn_cons]
                have hsp := eqV_split (hok.drop (i * s)) s
                rw [List.drop_drop, List.drop_drop, show i * s + s = (i + 1) * s by rw [Nat.add_mul]; omega] at hsp
                rw [hsp]
                simp only [Sem.run_bind] at e1 ⊢
                generalize (part e xs (i * s)).run P w = r1 at e1 ⊢
                cases r1 with
                | halt x w1 => simp [Result.andThen] at e1
                | ok p w1 =>
                  simp only [Result.andThen_ok] at e1 ⊢
                  generalize (part e ys (i * s)).run P w1 = r2 at e1 ⊢
                  cases r2 with
                  | halt x w2 => simp [Result.andThen] at e1
                  | ok q w2 =>
                    simp only [Result.andThen_ok] at e1 ⊢
                    rw [e1]
                    cases eqV ((xs.toList.drop (i * s)).take s) ((ys.toList.drop (i * s)).take s)
                    · simp
                    · simpa using e2
            have e0 := key len 0 (by omega)
            simp only [Nat.zero_mul, List.drop_zero] at e0
            rw [Std.Legacy.Range.forIn_eq_forIn_range']
            simp only [Std.Legacy.Range.size, Nat.sub_zero, Nat.add_sub_cancel, Nat.div_one]
            rw [e0]
            cases eqV xs.toList ys.toList <;> simp
          · cases h
        · cases h
      | _ => simp at h


theorem eq_lits {G : Gh} : ∀ {xs ys : List AV} {vs us : List Value}, eqOk xs ys = true → RepL G xs vs → RepL G ys us → okV vs us ∧ eqV vs us = cellsEq xs ys := by
  intro xs
  induction xs with
  | nil =>
    intro ys vs us h r1 r2
    cases ys with
    | nil =>
      have hv : vs = [] := List.eq_nil_of_length_eq_zero (by simpa using r1.1.symm)
      have hu : us = [] := List.eq_nil_of_length_eq_zero (by simpa using r2.1.symm)
      subst hv hu
      exact ⟨⟨rfl, fun j u v h => by simp at h⟩, rfl⟩
    | cons => simp [eqOk] at h
  | cons x xs ih =>
    intro ys vs us h r1 r2
    cases ys with
    | nil => cases x with
      | lit v => cases v <;> simp [eqOk] at h
      | _ => simp [eqOk] at h
    | cons y ys =>
      cases x with
      | lit v =>
        cases v with
        | int k a =>
          cases y with
          | lit v' =>
            cases v' with
            | int k' b =>
              simp only [eqOk, Bool.and_eq_true, beq_iff_eq] at h
              obtain ⟨rfl, h⟩ := h
              cases vs with
              | nil => simpa using r1.1
              | cons v vs =>
                cases us with
                | nil => simpa using r2.1
                | cons u us =>
                  have e1 := rep_lit (r1.2 0 _ v rfl rfl)
                  have e2 := rep_lit (r2.2 0 _ u rfl rfl)
                  subst e1 e2
                  obtain ⟨h1, h2⟩ := ih (ys := ys) (vs := vs) (us := us) h ⟨by simpa using r1.1, fun j x v hx hv => r1.2 (j + 1) x v (by simpa using hx) (by simpa using hv)⟩ ⟨by simpa using r2.1, fun j x v hx hv => r2.2 (j + 1) x v (by simpa using hx) (by simpa using hv)⟩
                  refine ⟨⟨by simp [h1.1], fun j p q hp hq => ?_⟩, by simp [eqV, cellsEq, h2]⟩
                  cases j with
                  | zero => simp at hp hq; exact ⟨k, a, b, hp.symm, hq.symm⟩
                  | succ j => exact h1.2 j p q (by simpa using hp) (by simpa using hq)
            | _ => simp [eqOk] at h
          | _ => simp [eqOk] at h
        | _ => simp [eqOk] at h
      | _ => simp [eqOk] at h

theorem snd_eqa {o : Oper} {ρ : Operand → AV} {S : List AObj} {K : KT} {op : BinOp} {t t' : TypeId} {x y : Operand} {neg : Bool} {n m : Nat} (hop : o.op = .binOp op t x y t') (ha : aggO P t = some (some m)) (hg : P.eqGuardType P.depth t = false) (hf : flatI P 9 t = some n)
    (hn : op = if neg then .neq else .eql) (h : kEqa neg n (ρ x) (ρ y) K) : SND P o ρ S K := by
  unfold kEqa at h
  split at h
  · rename_i xs ys hx hy
    obtain ⟨hl, hok, hK⟩ := h
    refine snd_pure (fun G a w T _ hr => ⟨_, ?_, .lit _⟩) hK
    have rx := hr x (by simp [hop, Op.operands])
    have ry := hr y (by simp [hop, Op.operands])
    rw [hx] at rx
    rw [hy] at ry
    generalize e1 : a.eval x = vx at rx
    generalize e2 : a.eval y = vy at ry
    cases rx with
    | @agg _ vs h0 h2 h3 =>
      cases ry with
      | @agg _ us g0 g2 g3 =>
        obtain ⟨hv, he⟩ := eq_lits (G := G) (vs := vs.toList) (us := us.toList) hok ⟨by simpa using h0, fun j x v hx hv => h3 j x v hx (by simpa using hv)⟩ ⟨by simpa using g0, fun j x v hx hv => g3 j x v hx (by simpa using hv)⟩
        have hvs : vs.size = n := by rw [← h0]; exact hl
        have hus : us.size = n := by have := hv.1; simp at this; omega
        have heq := run_equal_flat (P := P) 9 t n (some m) hf ha (fun h => by cases h) 10000 vs us (by decide) hvs hus hv w
        simp only [aggV] at heq
        have hgd := run_eqGuard_agg (P := P) w op t x y vs us hg
        cases neg <;> simp at hn <;> subst hn <;> simp [execOp, hop, e1, e2, hgd, run_eql_struct, run_neq_struct, heq, he]
  · exact h.elim

theorem effK_sound {o : Oper} {i : I} {ρ : Operand → AV} {S : List AObj} {K : KT} (hc : compOp P o = some i) (h : effK P i ρ S K) : SND P o ρ S K := by
  unfold compOp at hc
  split at hc
  · rename_i x hop; injection hc with hc; subst hc; exact snd_mov (.inl hop) h
  · rename_i x hop; injection hc with hc; subst hc; exact snd_mov (.inr hop) h
  · rename_i c a b hop; injection hc with hc; subst hc; exact snd_pick hop h
  · rename_i e hop
    cases hz : zeroO P e with
    | none => simp [hz] at hc
    | some zs => simp [hz] at hc; subst hc; exact snd_new hop hz h
  · rename_i e x hop; injection hc with hc; subst hc; exact snd_box hop h
  · rename_i t ps hop
    split at hc
    · rename_i fs z ht hz
      split at hc
      · rename_i hfs
        cases hq : optM (fun p : Nat × Operand => (fs[p.1]?).bind fun f => (szO P f.type).map fun s => (f.offset, s, p.2)) ps.toList with
        | none => simp [hq] at hc
        | some qs => simp [hq] at hc; subst hc; exact snd_build_struct hop ht hz hfs hq h
      · cases hc
    · rename_i n e z ht hz
      cases hs : szO P e with
      | none => simp [hs] at hc
      | some s => simp [hs] at hc; subst hc; exact snd_build_array hop ht hz hs h
    · cases hc
  · rename_i t n ps hop
    split at hc
    · rename_i e ht
      split at hc
      · rename_i s z hs hz
        split at hc
        · rename_i hcond
          injection hc with hc; subst hc
          exact snd_bsl hop ht hs hz hcond.1 hcond.2.1 hcond.2.2.1 hcond.2.2.2 h
        · cases hc
      · cases hc
    · cases hc
  · rename_i t a hop
    cases hn : aggO P t with
    | none => simp [hn] at hc
    | some n => simp [hn] at hc; subst hc; exact snd_load hop hn h
  · rename_i t a x hop
    cases hn : szO P t with
    | none => simp [hn] at hc
    | some n => simp [hn] at hc; subst hc; exact snd_store hop hn h
  · rename_i x hop; injection hc with hc; subst hc; exact snd_nil hop h
  · rename_i op t x y t' hop
    split at hc
    · injection hc with hc; subst hc; exact snd_bin hop h
    · injection hc with hc; subst hc; exact snd_bin hop h
    · rename_i ht
      split at hc
      · rename_i e; injection hc with hc; subst hc; exact snd_eqb hop ht (neg := false) (by simpa using e) h
      · split at hc
        · rename_i e; injection hc with hc; subst hc; exact snd_eqb hop ht (neg := true) (by simpa using e) h
        · cases hc
    · rename_i e ht
      split at hc
      · split at hc
        · rename_i e; injection hc with hc; subst hc; exact snd_eqp hop ht (neg := false) (by simpa using e) h
        · split at hc
          · rename_i e; injection hc with hc; subst hc; exact snd_eqp hop ht (neg := true) (by simpa using e) h
          · cases hc
      · cases hc
    · rename_i fs ht
      split at hc
      · cases hc
      · rename_i hg
        have hg' : P.eqGuardType P.depth t = false := by simpa using hg
        split at hc
        · rename_i n m hf ha
          split at hc
          · rename_i e; injection hc with hc; subst hc; exact snd_eqa hop ha hg' hf (neg := false) (by simpa using e) h
          · split at hc
            · rename_i e; injection hc with hc; subst hc; exact snd_eqa hop ha hg' hf (neg := true) (by simpa using e) h
            · cases hc
        · cases hc
    · rename_i n0 e0 ht
      split at hc
      · cases hc
      · rename_i hg
        have hg' : P.eqGuardType P.depth t = false := by simpa using hg
        split at hc
        · rename_i n m hf ha
          split at hc
          · rename_i e; injection hc with hc; subst hc; exact snd_eqa hop ha hg' hf (neg := false) (by simpa using e) h
          · split at hc
            · rename_i e; injection hc with hc; subst hc; exact snd_eqa hop ha hg' hf (neg := true) (by simpa using e) h
            · cases hc
        · cases hc
    · cases hc
  · rename_i op t x hop; injection hc with hc; subst hc; exact snd_un hop h
  · rename_i src dst x hop
    split at hc
    · rename_i k0 k hs hd; injection hc with hc; subst hc; exact snd_cvt hop hs hd h
    · rename_i e hs hd
      split at hc
      · rename_i he; injection hc with hc; subst hc; exact snd_b2s hop hs he hd h
      · cases hc
    · rename_i e hs hd
      split at hc
      · rename_i he; injection hc with hc; subst hc; exact snd_s2b hop hs hd he h
      · cases hc
    · cases hc
  · rename_i t x lo hi mx hop
    split at hc
    · rename_i e ht
      cases hs : szO P e with
      | none => simp [hs] at hc
      | some s => simp [hs] at hc; subst hc; exact snd_slice hop ht hs h
    · rename_i ht
      split at hc
      · rename_i hm
        have : mx = none := by simpa using hm
        subst this
        injection hc with hc; subst hc; exact snd_sstr hop ht h
      · cases hc
    · cases hc
  · rename_i t x f hop
    split at hc
    · rename_i fs ht
      split at hc
      · rename_i fd hf
        split at hc
        · rename_i s hs
          split at hc
          · rename_i h1; injection hc with hc; subst hc; exact snd_fadr hop ht hf hs h1 h
          · cases hc
        · cases hc
      · cases hc
    · cases hc
  · rename_i t x f hop
    split at hc
    · rename_i fs ht
      split at hc
      · rename_i fd hf
        cases hn : aggO P fd.type with
        | none => simp [hn] at hc
        | some n => simp [hn] at hc; subst hc; exact snd_fld hop ht hf hn h
      · cases hc
    · cases hc
  · rename_i t x ix hop
    split at hc
    · rename_i e ht
      cases hs : szO P e with
      | none => simp [hs] at hc
      | some s => simp [hs] at hc; subst hc; exact snd_iadr hop ht hs h
    · rename_i n e ht
      cases hs : szO P e with
      | none => simp [hs] at hc
      | some s => simp [hs] at hc; subst hc; exact snd_aadr hop ht hs h
    · cases hc
  · rename_i t x ix hop
    split at hc
    · rename_i n e ht
      split at hc
      · rename_i s a hs ha; injection hc with hc; subst hc; exact snd_idx hop ht hs ha h
      · cases hc
    · rename_i ht; injection hc with hc; subst hc; exact snd_sidx hop ht h
    · cases hc
  · rename_i x i hop; injection hc with hc; subst hc; exact snd_ext hop h
  · rename_i f a b hop; injection hc with hc; subst hc; exact snd_mkf hop h
  · rename_i t l c hop
    split at hc
    · rename_i e ht
      split at hc
      · rename_i i z hi hz
        split at hc
        · rename_i hcond; injection hc with hc; subst hc; exact snd_mksl hop ht hi hz hcond.1 hcond.2 h
        · cases hc
      · cases hc
    · cases hc
  · rename_i c hop
    split at hc
    · rename_i f hcal; injection hc with hc; subst hc; exact snd_call hop hcal h
    · rename_i hcal
      split at hc
      · rename_i t t' s x hat ha
        split at hc
        · rename_i e ht
          split at hc
          · rename_i i z hi hz
            split at hc
            · rename_i hcond
              obtain ⟨rfl, h1, h2, h3⟩ := hcond
              injection hc with hc; subst hc
              exact snd_app hop hcal ha hat ht hi hz h1 h2 h3 h
            · cases hc
          · cases hc
        · cases hc
      · cases hc
    · rename_i hcal
      split at hc
      · rename_i t x hat ha
        split at hc
        · rename_i e ht; injection hc with hc; subst hc; exact snd_len hop hcal ha hat ht h
        · rename_i ht; injection hc with hc; subst hc; exact snd_lens hop hcal ha hat ht h
        · rename_i n e ht; injection hc with hc; subst hc; exact snd_lenc hop hcal ha hat ht h
        · cases hc
      · cases hc
    · rename_i hcal
      split at hc
      · rename_i x y ha; injection hc with hc; subst hc; exact snd_mx (isMax := true) (_t := 0) hop hcal ha h
      · cases hc
    · rename_i hcal
      split at hc
      · rename_i x y ha; injection hc with hc; subst hc; exact snd_mx (isMax := false) (_t := 0) hop hcal ha h
      · cases hc
    · cases hc
  · cases hc

end
end Go.Proofs.Ytkhnfleejgfhgaa
end
section
namespace Go.Proofs.Ytkhnfleejgfhgaa

/-- May an operation touch the store? -/
def tch : I → Bool
  | .new _ | .box _ | .load _ _ | .store _ _ _ | .call _ _ | .app _ _ _ _ | .mksl _ _ _ _ => true
  | _ => false
theorem effK_pure {P : Program} {i : I} {ρ : Operand → AV} {S : List AObj} {K : KT} (ht : tch i = false) (h : effK P i ρ S K) : effK P i ρ S (fun v rd upd new => (rd = [] ∧ upd = [] ∧ new = []) ∧ K v rd upd new) := by
  cases i <;> simp only [tch, Bool.true_eq_false] at ht <;> clear ht <;> dsimp only [effK] at h ⊢
  case mov => exact ⟨⟨by trivial, by trivial, by trivial⟩, h⟩
  case pick => unfold kPick at h ⊢; split at h <;> simp_all
  case build => unfold kBuild at h ⊢; split at h <;> simp_all
  case bsl => exact ⟨h.1, ⟨by trivial, by trivial, by trivial⟩, h.2⟩
  case nilc => unfold kNil at h ⊢; split at h <;> simp_all
  case bin op x y =>
    unfold kBin at h ⊢
    split at h
    · cases op <;> dsimp only [kInt] at h ⊢ <;> first | exact ⟨h.1, ⟨by trivial, by trivial, by trivial⟩, h.2⟩ | exact ⟨h.1, h.2.1, ⟨by trivial, by trivial, by trivial⟩, h.2.2⟩
    · cases op <;> dsimp only [kStr] at h ⊢ <;> first | exact ⟨⟨by trivial, by trivial, by trivial⟩, h⟩ | exact h.elim
    · exact h.elim
  case eqb => unfold kEqb at h ⊢; split at h <;> simp_all
  case eqa => unfold kEqa at h ⊢; split at h <;> simp_all
  case eqp => unfold kEqp at h ⊢; split at h <;> simp_all
  case un => unfold kUn at h ⊢; split at h <;> simp_all
  case cvt => unfold kCvt at h ⊢; split at h <;> simp_all
  case b2s => unfold kB2s at h ⊢; split at h <;> simp_all
  case s2b => unfold kS2b at h ⊢; split at h <;> simp_all
  case slice => 
    unfold kSlice at h ⊢
    split at h
    · split at h
      · rename_i l hh hl hhh
        simp only []
        obtain ⟨h1, h2, h3, h4, h5⟩ := h
        refine ⟨h1, h2, h3, h4, ?_⟩
        split at h5
        · exact ⟨⟨by trivial, by trivial, by trivial⟩, h5⟩
        · exact ⟨h5.1, ⟨by trivial, by trivial, by trivial⟩, h5.2⟩
      · exact h.elim
    · exact h.elim
  case sstr =>
    unfold kSstr at h ⊢
    split at h
    · split at h
      · rename_i l hh hl hhh
        simp only []
        exact ⟨h.1, h.2.1, h.2.2.1, ⟨by trivial, by trivial, by trivial⟩, h.2.2.2⟩
      · exact h.elim
    · exact h.elim
  case fadr => unfold kFadr at h ⊢; split at h <;> simp_all
  case fld => unfold kFld at h ⊢; (repeat' split at h) <;> simp_all
  case iadr =>
    unfold kIadr at h ⊢
    split at h
    · exact ⟨h.1, h.2.1, h.2.2.1, ⟨by trivial, by trivial, by trivial⟩, h.2.2.2⟩
    · exact h.elim
  case aadr => unfold kAadr at h ⊢; split at h <;> simp_all
  case idx => unfold kIdx kFld at h ⊢; (repeat' split at h) <;> simp_all
  case sidx =>
    unfold kSidx at h ⊢
    split at h
    · exact ⟨h.1, h.2.1, ⟨by trivial, by trivial, by trivial⟩, h.2.2⟩
    · exact h.elim
  case ext => unfold kExt at h ⊢; (repeat' split at h) <;> simp_all
  case mkf => exact ⟨⟨by trivial, by trivial, by trivial⟩, h⟩
  case len => unfold kLen at h ⊢; split at h <;> simp_all
  case lenc => exact ⟨⟨by trivial, by trivial, by trivial⟩, h⟩
  case mx => unfold kMx at h ⊢; split at h <;> simp_all


abbrev RO := Option (Nat × Bool) × I × Option Nat

def setD (tm : List AV) (d : Option Nat) (v : AV) : List AV := match d with
  | some t => tm.set t v
  | none => tm
/-- Is an operation wanted, by its guard's value: yes, no, or it can't be told. -/
def gdK (x : AV) (want : Bool) (run skip : Prop) : Prop :=
  match x with
  | .lit (.bool b) => if b = want then run else skip
  | .lit _ => skip
  | _ => False
def disj (a b : List Nat) : Bool := a.all fun x => !b.contains x
/-- Two operations whose order is open do not touch what the other one reads. -/
def okTr (u : List (Nat × Nat)) (tr : List (List Nat × List Nat)) : Bool :=
  u.all fun p => disj (tr.getD p.1 ([], [])).2 (tr.getD p.2 ([], [])).1 && disj (tr.getD p.2 ([], [])).2 (tr.getD p.1 ([], [])).1

def aReg (P : Program) : List RO → List (Nat × Nat) → List (List Nat × List Nat) → List AV → List AObj → (List AV → List AObj → Prop) → Prop
  | [], u, tr, tm, S, Q => okTr u tr = true ∧ Q tm S
  | (none, i, d) :: rest, u, tr, tm, S, Q => effK P i (ev tm) S fun v rd upd new => aReg P rest u (tr ++ [(rd, upd.map (·.1) ++ (newU S.length new).map (·.1))]) (setD tm d v) (updL S upd ++ new) Q
  | (some (t, want), i, d) :: rest, u, tr, tm, S, Q => gdK (tm.getD t .any) want
      (effK P i (ev tm) S fun v rd upd new => aReg P rest u (tr ++ [(rd, upd.map (·.1) ++ (newU S.length new).map (·.1))]) (setD tm d v) (updL S upd ++ new) Q)
      (aReg P rest u (tr ++ [([], [])]) (setD tm d (.lit undef)) S Q)

structure RecR where
  ran : Bool
  v : AV
  rd : List Nat
  upd : List (Nat × AObj)
  new : List AObj

def sT (dst : Nat → Option Nat) (r : Nat → RecR) (tm : List AV) : Nat → List AV
  | 0 => tm
  | i + 1 => setD (sT dst r tm i) (dst i) (r i).v
def sS (r : Nat → RecR) (S : List AObj) : Nat → List AObj
  | 0 => S
  | i + 1 => updL (sS r S i) (r i).upd ++ (r i).new

/-- Operation o, whose guard reads slot g, in this state: it ran, or it was not wanted. -/
def RecOk (P : Program) (o : Oper) (i : I) (g : Option (Nat × Bool)) (tm : List AV) (S : List AObj) (r : RecR) : Prop :=
  if r.ran then (∀ t w, g = some (t, w) → tm.getD t .any = .lit (.bool w)) ∧ Eff P o (ev tm) S r.v r.rd r.upd r.new ∧ (∀ p ∈ r.upd, p.1 ∈ r.rd) ∧ (∀ i ∈ r.rd, i < S.length) ∧ (tch i = false → r.rd = [] ∧ r.upd = [] ∧ r.new = [])
  else (∃ t w u, g = some (t, w) ∧ tm.getD t .any = .lit u ∧ u ≠ .bool w) ∧ r.v = .lit undef ∧ r.rd = [] ∧ r.upd = [] ∧ r.new = []

def frec (r : RecR) (N : Nat) : List Nat × List Nat := (r.rd, r.upd.map (·.1) ++ (newU N r.new).map (·.1))

theorem sT_shift (dst : Nat → Option Nat) (r : Nat → RecR) (tm : List AV) (i : Nat) : sT (fun j => dst (j + 1)) (fun j => r (j + 1)) (setD tm (dst 0) (r 0).v) i = sT dst r tm (i + 1) := by
  induction i with
  | zero => rfl
  | succ i ih => simp only [sT, ih]
theorem sS_shift (r : Nat → RecR) (S : List AObj) (i : Nat) : sS (fun j => r (j + 1)) (updL S (r 0).upd ++ (r 0).new) i = sS r S (i + 1) := by
  induction i with
  | zero => rfl
  | succ i ih => simp only [sS, ih]

/-- A region's run is a row of records. -/
theorem aReg_recs {P : Program} : ∀ (os : List Oper) (cs : List RO) (u : List (Nat × Nat)) (tr : List (List Nat × List Nat)) (tm : List AV) (S : List AObj) (Q : List AV → List AObj → Prop),
    os.length = cs.length → (∀ (j : Nat) (o : Oper) (c : RO), os[j]? = some o → cs[j]? = some c → compOp P o = some c.2.1 ∧ o.dst = c.2.2) → aReg P cs u tr tm S Q →
    ∃ r : Nat → RecR, (∀ (j : Nat) (o : Oper) (c : RO), os[j]? = some o → cs[j]? = some c → RecOk P o c.2.1 c.1 (sT (fun j => (os[j]?).bind (·.dst)) r tm j) (sS r S j) (r j)) ∧
      okTr u (tr ++ (List.range os.length).map fun j => frec (r j) (sS r S j).length) = true ∧ Q (sT (fun j => (os[j]?).bind (·.dst)) r tm os.length) (sS r S os.length) := by
  intro os
  induction os with
  | nil =>
    intro cs u tr tm S Q hl hc h
    have : cs = [] := List.eq_nil_of_length_eq_zero (by simpa using hl.symm)
    subst this
    simp only [aReg] at h
    exact ⟨fun _ => ⟨false, .any, [], [], []⟩, fun j o c ho => by simp at ho, by simpa using h.1, h.2⟩
  | cons o os ih =>
    intro cs u tr tm S Q hl hc h
    cases cs with
    | nil => simp at hl
    | cons c cs =>
      obtain ⟨g, i, d⟩ := c
      obtain ⟨hco, hd⟩ := hc 0 o (g, i, d) rfl rfl
      simp only at hco hd
      subst hd
      have hcs : ∀ (j : Nat) (o' : Oper) (c : RO), os[j]? = some o' → cs[j]? = some c → compOp P o' = some c.2.1 ∧ o'.dst = c.2.2 := fun j o' c h1 h2 => hc (j + 1) o' c (by simpa using h1) (by simpa using h2)
      have hl' : os.length = cs.length := by simpa using hl
      -- what one step gives
      have fin : ∀ (r0 : RecR), RecOk P o i g tm S r0 → aReg P cs u (tr ++ [frec r0 S.length]) (setD tm o.dst r0.v) (updL S r0.upd ++ r0.new) Q →
          ∃ r : Nat → RecR, (∀ (j : Nat) (o' : Oper) (c : RO), (o :: os)[j]? = some o' → ((g, i, o.dst) :: cs)[j]? = some c → RecOk P o' c.2.1 c.1 (sT (fun j => ((o :: os)[j]?).bind (·.dst)) r tm j) (sS r S j) (r j)) ∧
            okTr u (tr ++ (List.range (o :: os).length).map fun j => frec (r j) (sS r S j).length) = true ∧ Q (sT (fun j => ((o :: os)[j]?).bind (·.dst)) r tm (o :: os).length) (sS r S (o :: os).length) := by
        intro r0 h0 hrest
        obtain ⟨r', h1, h2, h3⟩ := ih cs u _ _ _ Q hl' hcs hrest
        refine ⟨fun j => match j with | 0 => r0 | j + 1 => r' j, fun j o' c ho hc' => ?_, ?_, ?_⟩
        · cases j with
          | zero => simp at ho hc'; subst ho hc'; exact h0
          | succ j =>
            have := h1 j o' c (by simpa using ho) (by simpa using hc')
            rw [← sT_shift, ← sS_shift]
            exact this
        · rw [List.length_cons, List.range_succ_eq_map]
          rw [List.append_assoc] at h2
          simp only [List.map_cons, List.map_map, List.singleton_append] at h2 ⊢
          have e : (fun j => frec (r' j) (sS r' (updL S r0.upd ++ r0.new) j).length) = (fun j => frec ((fun j => match j with | 0 => r0 | j + 1 => r' j : Nat → RecR) j) (sS (fun j => match j with | 0 => r0 | j + 1 => r' j) S j).length) ∘ Nat.succ := by
            funext j
            simp only [Function.comp, Nat.succ_eq_add_one]
            rw [← sS_shift]
          rw [e] at h2
          exact h2
        · rw [List.length_cons, ← sT_shift, ← sS_shift]
          exact h3
      have run : effK P i (ev tm) S (fun v rd upd new => aReg P cs u (tr ++ [(rd, upd.map (·.1) ++ (newU S.length new).map (·.1))]) (setD tm o.dst v) (updL S upd ++ new) Q) → (∀ t w, g = some (t, w) → tm.getD t .any = .lit (.bool w)) →
          ∃ r0, RecOk P o i g tm S r0 ∧ aReg P cs u (tr ++ [frec r0 S.length]) (setD tm o.dst r0.v) (updL S r0.upd ++ r0.new) Q := by
        intro he hg
        by_cases ht : tch i = false
        · obtain ⟨v, rd, upd, new, h1, h2, h2', h2'', h3⟩ := effK_sound hco (effK_pure ht he)
          exact ⟨⟨true, v, rd, upd, new⟩, by simp only [RecOk, if_true]; exact ⟨hg, h1, h2, h2', fun _ => h2''⟩, h3⟩
        · obtain ⟨v, rd, upd, new, h1, h2, h2', h3⟩ := effK_sound hco he
          exact ⟨⟨true, v, rd, upd, new⟩, by simp only [RecOk, if_true]; exact ⟨hg, h1, h2, h2', fun e => (ht e).elim⟩, h3⟩
      cases g with
      | none =>
        simp only [aReg] at h
        obtain ⟨r0, h1, h2⟩ := run h (fun t w e => by cases e)
        exact fin r0 h1 h2
      | some g =>
        obtain ⟨t, want⟩ := g
        simp only [aReg, gdK] at h
        have skip : ∀ u', tm.getD t .any = .lit u' → u' ≠ .bool want → aReg P cs u (tr ++ [([], [])]) (setD tm o.dst (.lit undef)) S Q → ∃ r0, RecOk P o i (some (t, want)) tm S r0 ∧ aReg P cs u (tr ++ [frec r0 S.length]) (setD tm o.dst r0.v) (updL S r0.upd ++ r0.new) Q := by
          intro u' hu' hne hk
          exact ⟨⟨false, .lit undef, [], [], []⟩, by unfold RecOk; rw [if_neg (by simp)]; exact ⟨⟨t, want, u', rfl, hu', hne⟩, rfl, rfl, rfl, rfl⟩, by simpa [frec, newU] using hk⟩
        split at h
        · rename_i b hb
          split at h
          · rename_i hbw
            subst hbw
            obtain ⟨r0, h1, h2⟩ := run h (fun t' w e => by injection e with e; injection e with e1 e2; subst e1 e2; exact hb)
            exact fin r0 h1 h2
          · rename_i hbw
            obtain ⟨r0, h1, h2⟩ := skip _ hb (fun e => by injection e with e; exact hbw e) h
            exact fin r0 h1 h2
        · rename_i x u' hne hu'
          obtain ⟨r0, h1, h2⟩ := skip u' hu' (fun e => hne want (by rw [e])) h
          exact fin r0 h1 h2
        · exact h.elim

/-- What a frame and a world bear, since the function was entered. -/
structure Cz (G0 : Gh) (S0 : List AObj) (w0 : World) (tm : List AV) (S : List AObj) (G : Gh) (a : Act) (w : World) : Prop where
  left : Left G0 S0 w0 G S w
  size : a.tmps.size = tm.length
  rep : ∀ (t : Nat) (x : AV) (v : Value), tm[t]? = some x → a.tmps[t]? = some v → Rep G x v
  defers : a.defers = []
  wd0 : Wd G0 S0 w0
theorem Cz.ev {G0 : Gh} {S0 : List AObj} {w0 : World} {tm : List AV} {S : List AObj} {G : Gh} {a : Act} {w : World} (h : Cz G0 S0 w0 tm S G a w) (x : Operand) : Rep G (ev tm x) (a.eval x) := by
  cases x with
  | tmp t =>
    simp only [Proofs.Ytkhnfleejgfhgaa.ev, Act.eval]
    by_cases ht : t < tm.length
    · have h1 := List.getElem?_eq_getElem ht
      have h2 := Array.getElem?_eq_getElem (show t < a.tmps.size by rw [h.size]; exact ht)
      have := h.rep t _ _ h1 h2
      simpa [ht, h.size] using this
    · simp [ht]; exact .any _
  | const v => exact rep_ofC G v
  | global g => exact .any _
  | func f =>
    exact .fn (by simp) (by simp) (fun j x v h => by simp at h) (fun j x v h => by simp at h)
theorem Cz.put {G0 : Gh} {S0 : List AObj} {w0 : World} {tm : List AV} {S S' : List AObj} {G G' : Gh} {a : Act} {w w' : World} (h : Cz G0 S0 w0 tm S G a w) (hl : Left G S w G' S' w') {x : AV} {v : Value} (hv : Rep G' x v) (d : Option Nat) :
    Cz G0 S0 w0 (setD tm d x) S' G' (a.put d v) w' := by
  refine ⟨h.left.trans hl, ?_, fun t y u hy hu => ?_, ?_, h.wd0⟩
  · cases d <;> simp [Act.put, setD, h.size]
  · cases d with
    | none => exact (h.rep t y u hy hu).mono hl.le
    | some d =>
      simp only [setD, Act.put] at hy hu
      by_cases e : t = d
      · subst e
        rw [List.getElem?_set] at hy
        rw [Array.getElem?_setIfInBounds] at hu
        simp only [if_true] at hy hu
        split at hy
        · injection hy with hy; subst hy
          rw [if_pos (by rw [h.size]; assumption)] at hu
          injection hu with hu; subst hu; exact hv
        · cases hy
      · rw [List.getElem?_set_ne (Ne.symm e)] at hy
        rw [Array.getElem?_setIfInBounds_ne (Ne.symm e)] at hu
        exact (h.rep t y u hy hu).mono hl.le
  · cases d <;> exact h.defers

theorem Left.dead {G : Gh} {S : List AObj} {w : World} (h : Wd G S w) (n : Nat) : Left G S w G (S ++ List.replicate n .dead) w := by
  have hold : ∀ {i : Nat} {o : AObj}, (S ++ List.replicate n .dead)[i]? = some o → o ≠ .dead → S[i]? = some o := fun {i o} e hne => by
    rw [List.getElem?_append] at e
    split at e
    · exact e
    · rw [List.getElem?_replicate] at e
      split at e
      · injection e with e; exact (hne e.symm).elim
      · cases e
  have hblk : ∀ i, blk G (S ++ List.replicate n .dead) i = blk G S i := by
    intro i
    by_cases hi : i < S.length
    · simp [blk, List.getElem?_append_left hi]
    · have h1 : S[i]? = none := List.getElem?_eq_none (by omega)
      cases he : (S ++ List.replicate n AObj.dead)[i]? with
      | none => simp [blk, he, h1]
      | some o =>
        cases o with
        | dead => simp [blk, he, h1]
        | cells xs => have := hold he (by simp); rw [h1] at this; cases this
        | row k m => have := hold he (by simp); rw [h1] at this; cases this
  refine ⟨Gh.Le.refl _, ⟨h.imm, fun i hi => ?_, fun i xs hi => h.obj i xs (hold hi (by simp)), fun j k m hj => h.row j k m (hold hj (by simp)), fun i j b hi hj => h.sep i j b (by rw [← hblk]; exact hi) (by rw [← hblk]; exact hj)⟩, Kept.refl _ _, fun i b hb => .inr ⟨i, by rw [← hblk]; exact hb⟩, fun _ _ _ h => .inl h⟩
  by_cases hlt : i < S.length
  · rw [List.getElem?_append_left hlt] at hi; exact h.dom i hi
  · exact h.dom i (.inl (List.getElem?_eq_none (by omega)))

theorem newU_length (n : Nat) (l : List AObj) : (newU n l).length = l.length := by
  induction l generalizing n with
  | nil => rfl
  | cons o l ih => simp [newU, ih]
theorem newU_mem {n : Nat} {l : List AObj} {p : Nat × AObj} (h : p ∈ newU n l) : n ≤ p.1 ∧ p.1 < n + l.length ∧ l[p.1 - n]? = some p.2 := by
  induction l generalizing n with
  | nil => cases h
  | cons o l ih =>
    simp only [newU, List.mem_cons] at h
    rcases h with rfl | h
    · simp
    · obtain ⟨h1, h2, h3⟩ := ih h
      refine ⟨by omega, by simp; omega, ?_⟩
      rw [show p.1 - n = (p.1 - (n + 1)) + 1 by omega]; simpa using h3
/-- New objects laid at places that were kept free are appended. -/
theorem updL_new (S : List AObj) (new : List AObj) : ∀ (n : Nat), n = S.length → updL (S ++ List.replicate new.length .dead) (newU n new) = S ++ new := by
  induction new generalizing S with
  | nil => intro n hn; simp [newU]
  | cons o new ih =>
    intro n hn
    subst hn
    simp only [List.length_cons, newU, updL_cons, List.replicate_succ]
    have : (S ++ AObj.dead :: List.replicate new.length AObj.dead).set S.length o = (S ++ [o]) ++ List.replicate new.length AObj.dead := by
      rw [List.set_append_right _ _ (Nat.le_refl _)]; simp
    rw [this, ih (S ++ [o]) (S.length + 1) (by simp)]
    simp
theorem updL_append (T : List AObj) (u v : List (Nat × AObj)) : updL T (u ++ v) = updL (updL T u) v := by
  induction u generalizing T with
  | nil => rfl
  | cons p u ih => simp [ih]
theorem updL_left (S R : List AObj) (u : List (Nat × AObj)) (h : ∀ p ∈ u, p.1 < S.length) : updL (S ++ R) u = updL S u ++ R := by
  induction u generalizing S with
  | nil => rfl
  | cons p u ih =>
    rw [updL_cons, updL_cons, List.set_append_left _ _ (h p (by simp)), ih _ (fun q hq => by simpa using h q (by simp [hq]))]

section
variable {P : Program}

/-- One operation in the text's order. -/
theorem step_text {o : Oper} {G0 : Gh} {S0 : List AObj} {w0 : World} {tm : List AV} {S : List AObj} {G : Gh} {a : Act} {w : World} (hz : Cz G0 S0 w0 tm S G a w) {v : AV} {rd : List Nat} {upd : List (Nat × AObj)} {new : List AObj}
    (he : Eff P o (ev tm) S v rd upd new) (hu : ∀ p ∈ upd, p.1 ∈ rd) (hrd : ∀ i ∈ rd, i < S.length) (K : Act → World → Prop) (Q : Exit → Act → World → Prop)
    (hk : ∀ G' a' w', Cz G0 S0 w0 (setD tm o.dst v) (updL S upd ++ new) G' a' w' → K a' w') : o.wp P a w K Q := by
  have hd := Left.dead hz.left.wd new.length
  refine he (S ++ List.replicate new.length .dead) (fun i hi => List.getElem?_append_left (hrd i hi)) (fun p hp => ?_) G a w hd.wd (fun x _ => hz.ev x) K Q fun v' w' G' hv hl => hk G' _ _ ?_
  · obtain ⟨h1, h2, _⟩ := newU_mem hp
    rw [List.getElem?_append_right h1, List.getElem?_replicate, if_pos (by omega)]
  · have e : updL (S ++ List.replicate new.length .dead) (upd ++ newU S.length new) = updL S upd ++ new := by
      rw [updL_append, updL_left _ _ _ (fun p hp => hrd _ (hu p hp))]
      exact updL_new _ _ _ (by simp)
    rw [e] at hl
    exact hz.put (hd.trans hl) hv o.dst

end
end Go.Proofs.Ytkhnfleejgfhgaa
end
section
namespace Go.Proofs.Ytkhnfleejgfhgaa

def compOps (P : Program) (ops : Array Oper) : Option (List RO) :=
  optM (fun o : Oper => match compOp P o with
    | none => none
    | some i => match o.guard with
      | none => some (none, i, o.dst)
      | some (j, want) => match (ops[j]?).bind (·.dst) with
        | some t => some (some (t, want), i, o.dst)
        | none => none) ops.toList

section
variable {P : Program} {ops : Array Oper} {cs : List RO}
theorem compOps_at (h : compOps P ops = some cs) : ops.toList.length = cs.length ∧ ∀ (j : Nat) (o : Oper) (c : RO), ops.toList[j]? = some o → cs[j]? = some c →
    (compOp P o = some c.2.1 ∧ o.dst = c.2.2) ∧ (o.guard = none ∧ c.1 = none ∨ ∃ g want t, o.guard = some (g, want) ∧ (ops[g]?).bind (·.dst) = some t ∧ c.1 = some (t, want)) := by
  obtain ⟨h1, h2⟩ := optM_get h
  refine ⟨h1, fun j o c ho hc => ?_⟩
  have e := h2 j o c ho hc
  split at e
  · cases e
  · rename_i i hi
    split at e
    · rename_i hg; injection e with e; subst e; exact ⟨⟨hi, rfl⟩, .inl ⟨hg, rfl⟩⟩
    · rename_i g want hg
      split at e
      · rename_i t ht; injection e with e; subst e; exact ⟨⟨hi, rfl⟩, .inr ⟨g, want, t, hg, ht, rfl⟩⟩
      · cases e

/-- Whether an operation is wanted, by the record. -/
theorem wanted_of {G0 : Gh} {S0 : List AObj} {w0 : World} {tm : List AV} {S : List AObj} {G : Gh} {a : Act} {w : World} (hz : Cz G0 S0 w0 tm S G a w) {o : Oper} {i : I} {c : Option (Nat × Bool)} {tm' : List AV} {S' : List AObj} {r : RecR}
    (hg : o.guard = none ∧ c = none ∨ ∃ g want t, o.guard = some (g, want) ∧ (ops[g]?).bind (·.dst) = some t ∧ c = some (t, want)) (htm : ∀ t w, c = some (t, w) → tm.getD t .any = tm'.getD t .any) (hr : RecOk P o i c tm' S' r) :
    Region.wanted o (yielded ops a.tmps) = r.ran := by
  have look : ∀ {t : Nat} {u : Value}, tm.getD t .any = .lit u → a.tmps[t]? = some u := fun {t u} e => by
    by_cases ht : t < tm.length
    · have h1 : tm[t]? = some (.lit u) := by rw [← e]; simp [ht]
      have h2 := Array.getElem?_eq_getElem (show t < a.tmps.size by rw [hz.size]; exact ht)
      rw [h2, rep_lit (hz.rep t _ _ h1 h2)]
    · simp [ht] at e
  unfold RecOk at hr
  cases hran : r.ran with
  | true =>
    rw [hran, if_pos rfl] at hr
    rcases hg with ⟨h1, _⟩ | ⟨g, want, t, h1, h2, h3⟩
    · simp [Region.wanted, h1]
    · have e := look ((htm t want h3).trans (hr.1 t want h3))
      simp [Region.wanted, h1, yielded, h2, e]
  | false =>
    rw [hran, if_neg (by simp)] at hr
    obtain ⟨⟨t, want, u, hc, hu, hne⟩, _⟩ := hr
    rcases hg with ⟨_, h1⟩ | ⟨g, want', t', h1, h2, h3⟩
    · rw [h1] at hc; cases hc
    · rw [h3] at hc; injection hc with hc; injection hc with e1 e2; subst e1 e2
      have e := look ((htm t' want' h3).trans hu)
      simp only [Region.wanted, h1, yielded, h2, Option.bind_some, e]
      cases u <;> simp
      rintro rfl; exact hne rfl

/-- A region in the text's order. -/
theorem reg_text {id : Nat} {G0 : Gh} {S0 : List AObj} {w0 : World} {tm : List AV} {S : List AObj} {G : Gh} {a : Act} {w : World} (hc : compOps P ops = some cs) (hz : Cz G0 S0 w0 tm S G a w) {QA : List AV → List AObj → Prop} (h : aReg P cs [] [] tm S QA)
    (Q : Exit → Act → World → Prop) (hQ : ∀ tm' S' G' a' w', Cz G0 S0 w0 tm' S' G' a' w' → QA tm' S' → Q .normal a' w') : (Code.region id ops false).wp P Q a w := by
  obtain ⟨hl, hat⟩ := compOps_at hc
  obtain ⟨r, hrec, _, hfin⟩ := aReg_recs ops.toList cs [] [] tm S QA hl (fun j o c h1 h2 => (hat j o c h1 h2).1) h
  refine wp_region ?_
  have key : ∀ (k i : Nat) (G : Gh) (a : Act) (w : World), i + k = ops.size → Cz G0 S0 w0 (sT (fun j => (ops.toList[j]?).bind (·.dst)) r tm i) (sS r S i) G a w → wpOps P ops Q (List.range' i k) a w := by
    intro k
    induction k with
    | zero =>
      intro i G a w hi hz
      have e : i = ops.toList.length := by simp; omega
      subst e
      exact hQ _ _ _ _ _ hz hfin
    | succ k ih =>
      intro i G a w hi hz
      have hlt : i < ops.size := by omega
      have ho : ops[i]? = some ops[i] := Array.getElem?_eq_getElem hlt
      have hol : ops.toList[i]? = some ops[i] := by simp
      have hcl : cs[i]? = some (cs[i]'(by rw [← hl]; simpa using hlt)) := List.getElem?_eq_getElem _
      obtain ⟨_, hg⟩ := hat i _ _ hol hcl
      have hr := hrec i _ _ hol hcl
      have hw := wanted_of (ops := ops) hz hg (fun t w e => rfl) hr
      simp only [List.range'_succ, wpOps, ho, hw]
      unfold RecOk at hr
      have hnext : ∀ {x : AV} , setD (sT (fun j => (ops.toList[j]?).bind (·.dst)) r tm i) (ops[i]).dst (r i).v = sT (fun j => (ops.toList[j]?).bind (·.dst)) r tm (i + 1) := fun {x} => by
        simp only [sT, hol, Option.bind_some]
      cases hran : (r i).ran with
      | true =>
        rw [hran, if_pos rfl] at hr
        obtain ⟨_, he, hu, hrd, _⟩ := hr
        simp only [if_true]
        left
        refine step_text hz he hu hrd _ _ fun G' a' w' hz' => ih (i + 1) G' a' w' (by omega) ?_
        rw [hnext (x := .any)] at hz'
        exact hz'
      | false =>
        rw [hran, if_neg (by simp)] at hr
        obtain ⟨_, hv, hrd, hu, hn⟩ := hr
        simp only [Bool.false_eq_true, if_false]
        refine ih (i + 1) G _ w (by omega) ?_
        have := hz.put (Left.refl hz.left.wd) (x := .lit undef) (v := undef) (.lit _) (ops[i]).dst
        rw [← hv, hnext (x := .any)] at this
        simpa [sS, hu, hn] using this
  have := key ops.size 0 G a w (by omega) hz
  rwa [List.range_eq_range']
end
end Go.Proofs.Ytkhnfleejgfhgaa
end
section
namespace Go.Proofs.Ytkhnfleejgfhgaa

def dirs (o : Oper) : List Nat := (o.after.toList.filter fun e => Region.binds .any e).map (·.on)
/-- What stands ahead of each operation, through others too: a row of bits. -/
def befL : List Oper → List Nat → List Nat
  | [], acc => acc
  | o :: os, acc => befL os (acc ++ [(dirs o).foldl (fun s e => s ||| 2 ^ e ||| acc.getD e 0) 0])
def tmpsOf (xs : List Operand) : List Nat := xs.filterMap fun | .tmp t => some t | _ => none
def namesOf (o : Oper) (c : RO) : List Nat := tmpsOf o.op.operands.toList ++ o.dst.toList ++ (match c.1 with | some (t, _) => [t] | none => [])
def apartB (o : Oper) (c : RO) (o' : Oper) (c' : RO) : Bool :=
  (match o.dst with | some d => !(namesOf o' c').contains d | none => true) && (match o'.dst with | some d => !(namesOf o c).contains d | none => true)
/-- All pairs of places. -/
def pairs (n : Nat) : List (Nat × Nat) := (List.range n).flatMap fun k => (List.range k).map fun i => (i, k)
def unord (n : Nat) (bef : List Nat) : List (Nat × Nat) := (pairs n).filter fun p => !(bef.getD p.2 0).testBit p.1
def touchB (cs : List RO) (i : Nat) : Bool := match cs[i]? with | some c => tch c.2.1 | none => false
def slotsOk (ops : List Oper) (cs : List RO) (u : List (Nat × Nat)) : Bool :=
  u.all fun p => match ops[p.1]?, cs[p.1]?, ops[p.2]?, cs[p.2]? with
    | some o, some c, some o', some c' => apartB o c o' c'
    | _, _, _, _ => true
def compReg (P : Program) (ops : Array Oper) (draw : Bool) : Option (List RO × List (Nat × Nat)) :=
  match compOps P ops with
  | none => none
  | some cs => if draw then
      let u := unord ops.size (befL ops.toList [])
      if P.follows .mixedOrders && (ops.toList.zipIdx.all fun p => (dirs p.1).all (· < p.2)) && slotsOk ops.toList cs u then some (cs, u.filter fun p => touchB cs p.1 && touchB cs p.2) else none
    else some (cs, [])

theorem mem_pairs {n i k : Nat} (h : i < k) (hk : k < n) : (i, k) ∈ pairs n := by
  simp only [pairs, List.mem_flatMap, List.mem_range, List.mem_map]
  exact ⟨k, hk, i, h, rfl⟩

/-- What is set is set, and all that stands ahead. -/
theorem befL_closed (D : Nat → Prop) : ∀ (os : List Oper) (acc : List Nat), (∀ (k : Nat) (o : Oper), os[k]? = some o → D (acc.length + k) → ∀ e ∈ dirs o, D e) → (∀ k, k < acc.length → D k → ∀ i, (acc.getD k 0).testBit i = true → D i) →
    ∀ k, k < acc.length + os.length → D k → ∀ i, ((befL os acc).getD k 0).testBit i = true → D i := by
  intro os
  induction os with
  | nil => intro acc _ h k hk; exact h k (by simpa using hk)
  | cons o os ih =>
    intro acc hd h k hk hDk i hi
    simp only [befL] at hi
    refine ih (acc ++ [(dirs o).foldl (fun s e => s ||| 2 ^ e ||| acc.getD e 0) 0]) (fun k o' ho hD => hd (k + 1) o' (by simpa using ho) (by rw [← Nat.add_assoc, Nat.add_right_comm]; simpa using hD)) (fun k' hk' hD' j hj => ?_) k (by simp at hk ⊢; omega) hDk i hi
    by_cases e : k' < acc.length
    · refine h k' e hD' j ?_
      simpa [List.getElem?_append_left e] using hj
    · have hk0 : k' = acc.length := by simp at hk'; omega
      subst hk0
      have hj' : ((dirs o).foldl (fun s e => s ||| 2 ^ e ||| acc.getD e 0) 0).testBit j = true := by simpa using hj
      have hdir := hd 0 o rfl (by simpa using hD')
      have key : ∀ (l : List Nat) (s : Nat), (∀ e ∈ l, D e) → (l.foldl (fun s e => s ||| 2 ^ e ||| acc.getD e 0) s).testBit j = true → s.testBit j = true ∨ D j := by
        intro l
        induction l with
        | nil => intro s _ h; exact .inl h
        | cons e l ihl =>
          intro s hl hs
          rcases ihl _ (fun x hx => hl x (by simp [hx])) hs with h1 | h1
          · rw [Nat.testBit_or, Nat.testBit_or] at h1
            simp only [Bool.or_eq_true] at h1
            rcases h1 with (h1 | h1) | h1
            · exact .inl h1
            · rw [Nat.testBit_two_pow] at h1
              have : e = j := by simpa using h1
              subst this; exact .inr (hl e (by simp))
            · right
              by_cases hea : e < acc.length
              · exact h e hea (hl e (by simp)) j h1
              · simp [List.getElem?_eq_none (Nat.le_of_not_lt hea)] at h1
          · exact .inr h1
      rcases key (dirs o) 0 hdir hj' with h1 | h1
      · simp at h1
      · exact h1

/-- The last one that is done and has a value. -/
def lastW {α : Type} (D : Nat → Bool) (f : Nat → Option α) : Nat → Option α
  | 0 => none
  | n + 1 => if D n then (match f n with | some v => some v | none => lastW D f n) else lastW D f n
theorem lastW_congr {α : Type} {D D' : Nat → Bool} {f : Nat → Option α} : ∀ {n : Nat}, (∀ i, i < n → f i ≠ none → D i = D' i) → lastW D f n = lastW D' f n := by
  intro n
  induction n with
  | zero => intro _; rfl
  | succ n ih =>
    intro h
    have e := ih fun i hi => h i (by omega)
    simp only [lastW]
    cases hf : f n with
    | none => simp [e]
    | some v => rw [h n (by omega) (by simp [hf]), e]
theorem lastW_cut {α : Type} {D : Nat → Bool} {f : Nat → Option α} {j : Nat} : ∀ {n : Nat}, j ≤ n → (∀ i, j ≤ i → i < n → f i ≠ none → D i = false) → lastW D f n = lastW D f j := by
  intro n
  induction n with
  | zero => intro h _; have : j = 0 := by omega
            subst this; rfl
  | succ n ih =>
    intro hj h
    by_cases e : j = n + 1
    · subst e; rfl
    · simp only [lastW]
      rw [← ih (by omega) fun i h1 h2 => h i h1 (by omega)]
      cases hf : f n with
      | none => simp
      | some v => simp [h n (by omega) (by omega) (by simp [hf])]
theorem lastW_none {α : Type} {D : Nat → Bool} {f : Nat → Option α} : ∀ {n : Nat}, (∀ i, i < n → D i = true → f i = none) → lastW D f n = none := by
  intro n
  induction n with
  | zero => intro _; rfl
  | succ n ih =>
    intro h
    simp only [lastW, ih fun i hi => h i (by omega)]
    cases hD : D n with
    | true => simp [h n (by omega) hD]
    | false => simp
theorem lastW_top {α : Type} {D : Nat → Bool} {f : Nat → Option α} {j : Nat} {v : α} {n : Nat} (hj : j < n) (hD : D j = true) (hf : f j = some v) (h : ∀ i, j < i → i < n → f i ≠ none → D i = false) : lastW D f n = some v := by
  rw [lastW_cut (j := j + 1) (by omega) fun i h1 h2 h3 => h i (by omega) h2 h3]
  simp [lastW, hD, hf]

def orW {α : Type} : Option α → Option α → Option α
  | some x, _ => some x
  | none, y => y

section
variable {dst : Nat → Option Nat} {r : Nat → RecR} {tm : List AV} {S : List AObj}
def fT (dst : Nat → Option Nat) (r : Nat → RecR) (t i : Nat) : Option AV := if dst i = some t then some (r i).v else none
def wids (r : Nat → RecR) (S : List AObj) (i : Nat) : List (Nat × AObj) := (r i).upd ++ newU (sS r S i).length (r i).new
def fS (r : Nat → RecR) (S : List AObj) (q i : Nat) : Option AObj := if q ∈ (wids r S i).map (·.1) then (sS r S (i + 1))[q]? else none

theorem sT_length (i : Nat) : (sT dst r tm i).length = tm.length := by
  induction i with
  | zero => rfl
  | succ i ih => simp only [sT, setD]; split <;> simp [ih]
theorem sT_at (t i : Nat) : (sT dst r tm i)[t]? = if t < tm.length then orW (lastW (fun _ => true) (fT dst r t) i) tm[t]? else none := by
  induction i with
  | zero =>
    simp only [sT, lastW, orW]
    split
    · rfl
    · exact List.getElem?_eq_none (by omega)
  | succ i ih =>
    simp only [sT, lastW, fT, if_true]
    cases hd : dst i with
    | none => simpa [setD] using ih
    | some d =>
      simp only [setD]
      by_cases e : d = t
      · subst e
        by_cases hlt : d < tm.length
        · simp [hlt, orW, sT_length]
        · rw [if_neg hlt]; exact List.getElem?_eq_none (by simp [sT_length]; omega)
      · rw [List.getElem?_set_ne e, ih]
        simp [e]
theorem sS_mono (i j : Nat) (h : i ≤ j) : (sS r S i).length ≤ (sS r S j).length := by
  induction j with
  | zero => have : i = 0 := by omega
            subst this; exact Nat.le_refl _
  | succ j ih =>
    by_cases e : i = j + 1
    · subst e; exact Nat.le_refl _
    · have := ih (by omega)
      simp only [sS, List.length_append, updL_length]; omega
/-- The places that an operation turns or fills lie below what it leaves. -/
theorem wids_lt {i : Nat} (hu : ∀ p ∈ (r i).upd, p.1 < (sS r S i).length) {q : Nat} (hq : q ∈ (wids r S i).map (·.1)) : q < (sS r S (i + 1)).length := by
  simp only [wids, List.map_append, List.mem_append, List.mem_map] at hq
  simp only [sS, List.length_append, updL_length]
  rcases hq with ⟨p, hp, rfl⟩ | ⟨p, hp, rfl⟩
  · have := hu p hp; omega
  · have := (newU_mem hp).2.1; omega
theorem updL_same (T T' : List AObj) (u : List (Nat × AObj)) {q : Nat} (hq : q ∈ u.map (·.1)) (h : q < T.length) (h' : q < T'.length) : (updL T u)[q]? = (updL T' u)[q]? := by
  induction u generalizing T T' with
  | nil => simp at hq
  | cons p u ih =>
    simp only [updL_cons]
    by_cases e : q ∈ u.map (·.1)
    · exact ih _ _ e (by simpa using h) (by simpa using h')
    · simp only [List.map_cons, List.mem_cons] at hq
      rcases hq with rfl | hq
      · rw [updL_other _ _ _ e, updL_other _ _ _ e]; simp [h, h']
      · exact (e hq).elim
theorem sS_step (i : Nat) (hu : ∀ p ∈ (r i).upd, p.1 < (sS r S i).length) : updL (sS r S i ++ List.replicate (r i).new.length .dead) (wids r S i) = sS r S (i + 1) := by
  simp only [wids, sS]
  rw [updL_append, updL_left _ _ _ hu, updL_new _ _ _ (by simp)]
theorem sS_at (n : Nat) (hu : ∀ i, i < n → ∀ p ∈ (r i).upd, p.1 < (sS r S i).length) (q : Nat) : (sS r S n)[q]? = orW (lastW (fun _ => true) (fS r S q) n) S[q]? := by
  induction n with
  | zero => rfl
  | succ i ih =>
    have hi := hu i (by omega)
    simp only [lastW, if_true]
    by_cases hq : q ∈ (wids r S i).map (·.1)
    · have hlt := wids_lt hi hq
      have e : fS r S q i = some ((sS r S (i + 1))[q]'hlt) := by simp [fS, hq]
      rw [e]; simp [orW]
    · have e : fS r S q i = none := by simp [fS, hq]
      rw [e]
      show _ = orW (lastW (fun _ => true) (fS r S q) i) S[q]?
      rw [← ih fun j hj => hu j (by omega)]
      have hstep := sS_step (r := r) (S := S) i hi
      rw [← hstep, updL_other _ _ _ hq]
      by_cases hlt : q < (sS r S i).length
      · rw [List.getElem?_append_left hlt]
      · rw [List.getElem?_append_right (by omega), List.getElem?_eq_none (show (sS r S i).length ≤ q by omega), List.getElem?_replicate]
        rw [if_neg]
        intro hcon
        apply hq
        have hmem : ∀ (l : List AObj) (n q : Nat), n ≤ q → q < n + l.length → q ∈ (newU n l).map (·.1) := by
          intro l
          induction l with
          | nil => intro n q h1 h2; simp at h2; omega
          | cons o l ihl =>
            intro n q h1 h2
            simp only [newU, List.map_cons, List.mem_cons]
            by_cases e : q = n
            · exact .inl e
            · exact .inr (ihl (n + 1) q (by omega) (by simp at h2; omega))
        simp only [wids, List.map_append, List.mem_append]
        exact .inr (hmem _ _ q (by omega) (by omega))
end

end Go.Proofs.Ytkhnfleejgfhgaa
end
section
namespace Go.Proofs.Ytkhnfleejgfhgaa

theorem list_set_bool {l : List Bool} {i : Nat} (h : l[i]? = some false) : (l.set i true).countP (fun b => !b) + 1 = l.countP (fun b => !b) := by
  induction l generalizing i with
  | nil => simp at h
  | cons b l ih =>
    cases i with
    | zero => simp at h; subst h; simp
    | succ i =>
      simp at h
      have := ih h
      simp only [List.set_cons_succ, List.countP_cons]
      omega

section
variable {P : Program} {ops : Array Oper} {cs : List RO}

theorem reg_draw {id : Nat} {G0 : Gh} {S0 : List AObj} {w0 : World} {tm : List AV} {S : List AObj} {G : Gh} {a : Act} {w : World} {u : List (Nat × Nat)} (hc : compReg P ops true = some (cs, u)) (hz : Cz G0 S0 w0 tm S G a w) {QA : List AV → List AObj → Prop}
    (h : aReg P cs u [] tm S QA) (Q : Exit → Act → World → Prop) (hQ : ∀ tm' S' G' a' w', Cz G0 S0 w0 tm' S' G' a' w' → QA tm' S' → Q .normal a' w') : (Code.region id ops true).wp P Q a w := by
  unfold compReg at hc
  split at hc
  · cases hc
  rename_i cs' hcs
  simp only [if_true] at hc
  split at hc
  case isFalse => cases hc
  rename_i hcond
  injection hc with hc
  injection hc with e1 e2
  subst e1
  simp only [Bool.and_eq_true] at hcond
  obtain ⟨⟨hmix, hdir⟩, hslots⟩ := hcond
  obtain ⟨hl, hat⟩ := compOps_at hcs
  obtain ⟨r, hrec, hok, hfin⟩ := aReg_recs ops.toList cs' u [] tm S QA hl (fun j o c h1 h2 => (hat j o c h1 h2).1) h
  let n := ops.toList.length
  have hn : n = ops.size := by simp [n]
  let dst : Nat → Option Nat := fun j => (ops.toList[j]?).bind (·.dst)
  let bef := befL ops.toList []
  have hol : ∀ j, j < n → ∃ o c, ops.toList[j]? = some o ∧ ops[j]? = some o ∧ cs'[j]? = some c := fun j hj => by
    have h1 := List.getElem?_eq_getElem (show j < ops.toList.length from hj)
    exact ⟨_, _, h1, by simp, List.getElem?_eq_getElem (show j < cs'.length by rw [← hl]; exact hj)⟩
  -- what the records say
  have hup : ∀ i, i < n → (∀ p ∈ (r i).upd, p.1 ∈ (r i).rd) ∧ ∀ q ∈ (r i).rd, q < (sS r S i).length := fun i hi => by
    obtain ⟨o, c, h1, _, h3⟩ := hol i hi
    have hr := hrec i o c h1 h3
    unfold RecOk at hr
    split at hr
    · exact ⟨hr.2.2.1, hr.2.2.2.1⟩
    · obtain ⟨_, _, h4, h5, _⟩ := hr
      rw [h4, h5]; exact ⟨(fun p hp => by cases hp), (fun q hq => by cases hq)⟩
  have hupd : ∀ i, i < n → ∀ p ∈ (r i).upd, p.1 < (sS r S i).length := fun i hi p hp => (hup i hi).2 _ ((hup i hi).1 p hp)
  -- two operations whose order is open
  have hopen : ∀ i k, i < k → k < n → (bef.getD k 0).testBit i = false → (∀ q ∈ (wids r S i).map (·.1), q ∉ (r k).rd) ∧ (∀ q ∈ (wids r S k).map (·.1), q ∉ (r i).rd) := by
    intro i k hik hk hb
    have pure0 : ∀ j, j < n → touchB cs' j = false → (r j).rd = [] ∧ (wids r S j) = [] := fun j hj ht => by
      obtain ⟨o, c, h1, _, h3⟩ := hol j hj
      have hr := hrec j o c h1 h3
      simp only [touchB, h3] at ht
      unfold RecOk at hr
      split at hr
      · obtain ⟨e1, e2, e3⟩ := hr.2.2.2.2 ht
        exact ⟨e1, by simp [wids, e2, e3, newU]⟩
      · obtain ⟨_, _, e1, e2, e3⟩ := hr
        exact ⟨e1, by simp [wids, e2, e3, newU]⟩
    by_cases hti : touchB cs' i = true
    · by_cases htk : touchB cs' k = true
      · have hmem : (i, k) ∈ u := by
          rw [← e2]
          simp only [List.mem_filter, unord]
          exact ⟨⟨mem_pairs hik (by omega), by simpa [bef] using hb⟩, by simp [hti, htk]⟩
        have hd := List.all_eq_true.1 hok (i, k) hmem
        have hget : ∀ j, j < n → (([] : List (List Nat × List Nat)) ++ (List.range ops.toList.length).map fun j => frec (r j) (sS r S j).length).getD j ([], []) = ((r j).rd, (wids r S j).map (·.1)) := fun j hj => by
          have : (List.range ops.toList.length)[j]? = some j := List.getElem?_range hj
          rw [List.nil_append, List.getD_eq_getElem?_getD, List.getElem?_map, this]
          simp [frec, wids]
        rw [hget i (by omega), hget k hk] at hd
        simp only [Bool.and_eq_true, disj, List.all_eq_true, Bool.not_eq_true', List.contains_eq_mem, decide_eq_false_iff_not] at hd
        exact hd
      · obtain ⟨e1, e3⟩ := pure0 k hk (by simpa using htk)
        rw [e1, e3]
        exact ⟨(fun q _ hq => by cases hq), (fun q hq => by simp at hq)⟩
    · obtain ⟨e1, e3⟩ := pure0 i (by omega) (by simpa using hti)
      rw [e1, e3]
      exact ⟨(fun q hq => by simp at hq), (fun q _ hq => by cases hq)⟩
  -- two operations whose order is open share no temporary that one of them writes
  have hslot : ∀ i k, i < k → k < n → (bef.getD k 0).testBit i = false → ∀ o c o' c', ops.toList[i]? = some o → cs'[i]? = some c → ops.toList[k]? = some o' → cs'[k]? = some c' →
      (∀ d, o.dst = some d → d ∉ namesOf o' c') ∧ (∀ d, o'.dst = some d → d ∉ namesOf o c) := by
    intro i k hik hk hb o c o' c' h1 h2 h3 h4
    have hmem : (i, k) ∈ unord ops.size bef := by
      simp only [List.mem_filter, unord]
      exact ⟨mem_pairs hik (by omega), by simpa using hb⟩
    have hd := List.all_eq_true.1 hslots (i, k) hmem
    simp only [h1, h2, h3, h4, apartB, Bool.and_eq_true] at hd
    refine ⟨fun d hd' => ?_, fun d hd' => ?_⟩
    · have := hd.1; rw [hd'] at this; simpa using this
    · have := hd.2; rw [hd'] at this; simpa using this
  -- the state behind the operations that are done
  let N := (sS r S n).length
  have inv : ∀ (fuel : Nat) (listed : Array Bool) (tmD : List AV) (SD : List AObj) (G : Gh) (a : Act) (w : World), listed.size = n → listed.toList.countP (fun b => !b) ≤ fuel →
      (∀ i, i < n → listed.getD i false = true → ∀ e ∈ (ops.toList[i]?).elim [] dirs, listed.getD e false = true) →
      tmD.length = tm.length → (∀ t, t < tm.length → tmD[t]? = orW (lastW (fun i => listed.getD i false) (fT dst r t) n) tm[t]?) →
      SD.length = N → (∀ q, q < N → SD[q]? = some ((orW (lastW (fun i => listed.getD i false) (fS r S q) n) S[q]?).getD .dead)) →
      Cz G0 S0 w0 tmD SD G a w → wpAny P .any ops Q fuel listed a w := by
    -- all are done
    have fin : ∀ (listed : Array Bool) (tmD : List AV) (SD : List AObj) (G : Gh) (a : Act) (w : World), (∀ i, i < n → listed.getD i false = true) → tmD.length = tm.length →
        (∀ t, t < tm.length → tmD[t]? = orW (lastW (fun i => listed.getD i false) (fT dst r t) n) tm[t]?) → SD.length = N → (∀ q, q < N → SD[q]? = some ((orW (lastW (fun i => listed.getD i false) (fS r S q) n) S[q]?).getD .dead)) →
        Cz G0 S0 w0 tmD SD G a w → Q .normal a w := by
      intro listed tmD SD G a w hall htl ht hsl hs hz
      have e1 : tmD = sT dst r tm n := by
        apply List.ext_getElem?
        intro t
        by_cases hlt : t < tm.length
        · rw [ht t hlt, sT_at, if_pos hlt, lastW_congr (D' := fun _ => true) fun i hi _ => hall i hi]
        · rw [List.getElem?_eq_none (by omega), List.getElem?_eq_none (by rw [sT_length]; omega)]
      have e2 : SD = sS r S n := by
        apply List.ext_getElem?
        intro q
        by_cases hlt : q < N
        · have h1 := sS_at (r := r) (S := S) n hupd q
          have h2 := List.getElem?_eq_getElem (show q < (sS r S n).length from hlt)
          rw [hs q hlt, lastW_congr (D' := fun _ => true) fun i hi _ => hall i hi, ← h1, h2]; rfl
        · rw [List.getElem?_eq_none (by omega), List.getElem?_eq_none (by show N ≤ q; omega)]
      subst e1 e2
      exact hQ _ _ _ _ _ hz hfin
    -- none may come up: all are done
    have allDone : ∀ (listed : Array Bool), listed.size = n → Region.ready .any ops listed = [] → ∀ i, i < n → listed.getD i false = true := by
      intro listed hsz hr i
      induction i using Nat.strongRecOn with
      | _ i ihi =>
        intro hi
        obtain ⟨o, c, h1, h2, h3⟩ := hol i hi
        cases hb : listed.getD i false with
        | true => rfl
        | false =>
          exfalso
          have hmem : i ∈ Region.ready .any ops listed := by
            simp only [Region.ready, List.mem_filter, List.mem_range]
            refine ⟨by omega, ?_⟩
            have hb' : listed.getD i true = false := by
              simp only [Array.getD_eq_getD_getElem?] at hb ⊢
              rw [Array.getElem?_eq_getElem (show i < listed.size by omega)] at hb ⊢
              exact hb
            rw [hb', h2]
            simp only [Bool.not_false, Bool.true_and, Option.map_some, Option.getD_some]
            rw [Array.all_eq_true]
            intro k hk
            by_cases hbind : Region.binds .any o.after[k] = true
            · have hd : o.after[k].on ∈ dirs o := by
                simp only [dirs, List.mem_map, List.mem_filter]
                exact ⟨o.after[k], ⟨by simp, hbind⟩, rfl⟩
              have hz0 := List.all_eq_true.1 hdir (o, i) (by
                rw [List.mem_zipIdx_iff_getElem?]; exact h1)
              have hlt := List.all_eq_true.1 hz0 _ hd
              have hlt' : o.after[k].on < i := by simpa using hlt
              rw [ihi _ hlt' (by omega)]; simp
            · simp [hbind]
          rw [hr] at hmem; cases hmem
    have readyOf : ∀ (listed : Array Bool) (j : Nat), listed.size = n → j ∈ Region.ready .any ops listed → j < n ∧ listed[j]? = some false ∧ ∀ e ∈ (ops.toList[j]?).elim [] dirs, listed.getD e false = true := by
      intro listed j hsz hj
      simp only [Region.ready, List.mem_filter, List.mem_range, Bool.and_eq_true] at hj
      obtain ⟨hj1, hj2, hj3⟩ := hj
      obtain ⟨o, c, h1, h2, h3⟩ := hol j (by omega)
      refine ⟨by omega, ?_, ?_⟩
      · have := Array.getElem?_eq_getElem (show j < listed.size by omega)
        rw [this]
        simp only [Array.getD_eq_getD_getElem?, this, Option.getD_some] at hj2
        simpa using hj2
      · rw [h2] at hj3
        simp only [Option.map_some, Option.getD_some, Array.all_eq_true] at hj3
        rw [h1]
        intro e he
        simp only [Option.elim, dirs, List.mem_map, List.mem_filter] at he
        obtain ⟨ed, ⟨hm, hb⟩, rfl⟩ := he
        obtain ⟨k, hk, rfl⟩ := List.getElem_of_mem hm
        have := hj3 k (by simpa using hk)
        simp only [Array.getElem_toList] at hb ⊢
        rw [hb] at this
        simpa using this
    intro fuel
    induction fuel with
    | zero =>
      intro listed tmD SD G a w hsz hcnt _ htl ht hsl hs hz
      have hall : ∀ i, i < n → listed.getD i false = true := by
        intro i hi
        have h0 : listed.toList.countP (fun b => !b) = 0 := by omega
        rw [List.countP_eq_zero] at h0
        have hg := Array.getElem?_eq_getElem (show i < listed.size by omega)
        have := h0 listed[i] (by simp)
        simp only [Array.getD_eq_getD_getElem?, hg, Option.getD_some]
        simpa using this
      refine ⟨?_, fin listed tmD SD G a w hall htl ht hsl hs hz⟩
      cases hr : Region.ready .any ops listed with
      | nil => rfl
      | cons j rest =>
        obtain ⟨h1, h2, _⟩ := readyOf listed j hsz (by rw [hr]; simp)
        have := hall j h1
        simp [h2] at this
    | succ fuel ih =>
      intro listed tmD SD G a w hsz hcnt hcl htl ht hsl hs hz
      refine ⟨fun hr => fin listed tmD SD G a w (allDone listed hsz hr) htl ht hsl hs hz, fun j hj => ?_⟩
      obtain ⟨hjn, hjf, hjd⟩ := readyOf listed j hsz hj
      obtain ⟨o, c, h1, h2, h3⟩ := hol j hjn
      rw [h1] at hjd
      simp only [Option.elim] at hjd
      let D : Nat → Bool := fun i => listed.getD i false
      have hDj : D j = false := by simp [D, hjf]
      -- order
      have before_ : ∀ i, i < j → (bef.getD j 0).testBit i = true → D i = true := by
        intro i hij hb
        have := befL_closed (fun i => D i = true ∨ i = j) ops.toList [] (fun k o' ho hD e he => by
          left
          simp only [List.length_nil, Nat.zero_add] at hD
          rcases hD with hD | rfl
          · have hk : k < n := (List.getElem?_eq_some_iff.1 ho).1
            have := hcl k hk hD e; rw [ho] at this; exact this he
          · rw [h1] at ho; injection ho with ho; subst ho; exact hjd e he) (fun k hk => by simp at hk) j (by simp; omega) (.inr rfl) i hb
        rcases this with h | h
        · exact h
        · omega
      have after_ : ∀ i, j < i → i < n → (bef.getD i 0).testBit j = true → D i = false := by
        intro i hji hi hb
        cases hD : D i with
        | false => rfl
        | true =>
          have := befL_closed (fun i => D i = true) ops.toList [] (fun k o' ho hD e he => by
            simp only [List.length_nil, Nat.zero_add] at hD
            have hk : k < n := (List.getElem?_eq_some_iff.1 ho).1
            have := hcl k hk hD e; rw [ho] at this; exact this he) (fun k hk => by simp at hk) i (by simp; omega) hD j hb
          rw [hDj] at this; cases this
      -- the temporaries that the operation names
      have htmp : ∀ t, t ∈ namesOf o c → (∀ i, i < j → fT dst r t i ≠ none → D i = true) ∧ ∀ i, j < i → i < n → fT dst r t i ≠ none → D i = false := by
        intro t htn
        have hdst : ∀ i, fT dst r t i ≠ none → dst i = some t := fun i hi => by
          unfold fT at hi
          by_cases e : dst i = some t
          · exact e
          · simp [e] at hi
        refine ⟨fun i hij hi => ?_, fun i hji hi hne => ?_⟩
        · have hd := hdst i hi
          obtain ⟨o', c', g1, g1', g3⟩ := hol i (by omega)
          have hd' : o'.dst = some t := by simpa [dst, g1'] using hd
          cases hb : (bef.getD j 0).testBit i with
          | true => exact before_ i hij hb
          | false => exact ((hslot i j hij hjn hb o' c' o c g1 g3 h1 h3).1 t hd' htn).elim
        · have hd := hdst i hne
          obtain ⟨o', c', g1, g1', g3⟩ := hol i hi
          have hd' : o'.dst = some t := by simpa [dst, g1'] using hd
          cases hb : (bef.getD i 0).testBit j with
          | true => exact after_ i hji hi hb
          | false => exact ((hslot j i hji hi hb o c o' c' h1 h3 g1 g3).2 t hd' htn).elim
      have hsame : ∀ t, t ∈ namesOf o c → tmD[t]? = (sT dst r tm j)[t]? := by
        intro t htn
        obtain ⟨q1, q2⟩ := htmp t htn
        rw [sT_at]
        by_cases hlt : t < tm.length
        · rw [if_pos hlt, ht t hlt, lastW_cut (j := j) (by omega) (fun i hi1 hi2 hne => by
            by_cases e : i = j
            · subst e; exact hDj
            · exact q2 i (by omega) hi2 hne), lastW_congr (D' := fun _ => true) fun i hi hne => q1 i hi hne]
        · rw [if_neg hlt, List.getElem?_eq_none (by omega)]
      have hev : ∀ x ∈ o.op.operands, ev tmD x = ev (sT dst r tm j) x := by
        intro x hx
        cases x with
        | tmp t =>
          have : t ∈ namesOf o c := by
            simp only [namesOf, tmpsOf, List.mem_append, List.mem_filterMap]
            left; left
            exact ⟨.tmp t, by simpa using hx, rfl⟩
          simp only [ev, List.getD_eq_getElem?_getD, hsame t this]
        | _ => rfl
      -- the store's places that the operation touches
      have hplace : ∀ q, (q ∈ (r j).rd ∨ q ∈ (wids r S j).map (·.1)) → (∀ i, j < i → i < n → fS r S q i ≠ none → D i = false) := by
        intro q hq i hji hi hne
        have hqi : q ∈ (wids r S i).map (·.1) := by
          unfold fS at hne
          by_cases e : q ∈ (wids r S i).map (·.1)
          · exact e
          · simp [e] at hne
        cases hb : (bef.getD i 0).testBit j with
        | true => exact after_ i hji hi hb
        | false =>
          exfalso
          obtain ⟨g1, g2⟩ := hopen j i hji hi hb
          rcases hq with hq | hq
          · exact g2 q hqi hq
          · -- both turn or fill q
            simp only [wids, List.map_append, List.mem_append, List.mem_map] at hqi
            rcases hqi with ⟨p, hp, rfl⟩ | ⟨p, hp, rfl⟩
            · exact g1 _ hq ((hup i hi).1 p hp)
            · have h5 := (newU_mem hp).1
              have h6 := wids_lt (hupd j hjn) hq
              have h7 := sS_mono (r := r) (S := S) (j + 1) i (by omega)
              omega
      have hrdlt : ∀ q ∈ (r j).rd, q < (sS r S j).length := (hup j hjn).2
      have hNle : ∀ i, i ≤ n → (sS r S i).length ≤ N := fun i hi => sS_mono i n hi
      have hread : ∀ q ∈ (r j).rd, SD[q]? = (sS r S j)[q]? := by
        intro q hq
        have hlt := hrdlt q hq
        have hltN : q < N := Nat.lt_of_lt_of_le hlt (hNle j (by omega))
        have hpl := hplace q (.inl hq)
        have e1 : lastW D (fS r S q) n = lastW (fun _ => true) (fS r S q) j := by
          rw [lastW_cut (j := j) (by omega) (fun i hi1 hi2 hne => by
            by_cases e : i = j
            · subst e; exact hDj
            · exact hpl i (by omega) hi2 hne)]
          refine lastW_congr fun i hi hne => ?_
          have hqi : q ∈ (wids r S i).map (·.1) := by
            unfold fS at hne
            by_cases e : q ∈ (wids r S i).map (·.1)
            · exact e
            · simp [e] at hne
          cases hb : (bef.getD j 0).testBit i with
          | true => exact before_ i hi hb
          | false => exact ((hopen i j hi hjn hb).1 q hqi hq).elim
        have e2 := sS_at (r := r) (S := S) j (fun i hi => hupd i (by omega)) q
        rw [hs q hltN]
        show some ((orW (lastW D (fS r S q) n) S[q]?).getD .dead) = _
        rw [e1, ← e2, List.getElem?_eq_getElem hlt]; rfl
      have hfree : ∀ p ∈ newU (sS r S j).length (r j).new, SD[p.1]? = some .dead := by
        intro p hp
        obtain ⟨g1, g2, _⟩ := newU_mem hp
        have hw : p.1 ∈ (wids r S j).map (·.1) := by simp only [wids, List.map_append, List.mem_append, List.mem_map]; exact .inr ⟨p, hp, rfl⟩
        have hltN : p.1 < N := Nat.lt_of_lt_of_le (wids_lt (hupd j hjn) hw) (hNle (j + 1) (by omega))
        have hpl := hplace p.1 (.inr hw)
        have e1 : lastW D (fS r S p.1) n = none := lastW_none fun i hi hD => by
          cases hne : fS r S p.1 i with
          | none => rfl
          | some x =>
            exfalso
            have hqi : p.1 ∈ (wids r S i).map (·.1) := by
              unfold fS at hne
              by_cases e : p.1 ∈ (wids r S i).map (·.1)
              · exact e
              · simp [e] at hne
            rcases Nat.lt_trichotomy i j with h | h | h
            · have h6 := wids_lt (hupd i hi) hqi
              have h7 := sS_mono (r := r) (S := S) (i + 1) j (by omega)
              omega
            · subst h; rw [hDj] at hD; cases hD
            · have := hpl i h hi (by rw [hne]; simp)
              rw [this] at hD; cases hD
        rw [hs p.1 hltN]
        show some ((orW (lastW D (fS r S p.1) n) S[p.1]?).getD .dead) = _
        have h0 := sS_mono (r := r) (S := S) 0 j (by omega)
        simp only [sS] at h0
        rw [e1, List.getElem?_eq_none (by omega)]; rfl
      -- what is left is done likewise
      have next : ∀ (G' : Gh) (a' : Act) (w' : World), Cz G0 S0 w0 (setD tmD o.dst (r j).v) (updL SD (wids r S j)) G' a' w' → wpAny P .any ops Q fuel (listed.setIfInBounds j true) a' w' := by
        intro G' a' w' hz'
        have hDn : ∀ i, (listed.setIfInBounds j true).getD i false = if i = j then true else D i := by
          intro i
          by_cases e : i = j
          · subst e; simp [show i < listed.size by omega]
          · simp only [e, if_false, D, Array.getD_eq_getD_getElem?, Array.getElem?_setIfInBounds_ne (Ne.symm e)]
        refine ih _ _ _ G' a' w' (by simp [hsz]) ?_ (fun i hi hD e he => ?_) ?_ (fun t htl' => ?_) (by simp [hsl]) (fun q hq => ?_) hz'
        · have := list_set_bool (l := listed.toList) (i := j) (by simpa using hjf)
          simp only [Array.toList_setIfInBounds]; omega
        · rw [hDn] at hD ⊢
          split
          · rfl
          · by_cases e' : i = j
            · subst e'; rw [h1] at he; exact hjd e he
            · rw [if_neg e'] at hD; exact hcl i hi hD e he
        · cases ho : o.dst <;> simp [setD, htl]
        · have hcongr : ∀ f : Nat → Option AV, f j = none → lastW (fun i => (listed.setIfInBounds j true).getD i false) f n = lastW D f n := fun f hf => lastW_congr fun i hi hne => by
            rw [hDn]; split
            · rename_i e; subst e; exact (hne hf).elim
            · rfl
          have hdj : dst j = o.dst := by simp [dst, h2]
          by_cases hd : o.dst = some t
          · have hf : fT dst r t j = some (r j).v := by simp [fT, hdj, hd]
            have htn : t ∈ namesOf o c := by simp [namesOf, hd]
            rw [lastW_top (j := j) (v := (r j).v) hjn (by simp [hDn]) hf (fun i h5 h6 h7 => by rw [hDn, if_neg (by omega)]; exact (htmp t htn).2 i h5 h6 h7)]
            simp [setD, hd, orW, htl, htl']
          · have hf : fT dst r t j = none := by simp [fT, hdj, hd]
            rw [hcongr _ hf]
            show _ = orW (lastW (fun i => listed.getD i false) (fT dst r t) n) tm[t]?
            rw [← ht t htl']
            cases ho : o.dst with
            | none => rfl
            | some d => simp only [setD]; rw [List.getElem?_set_ne]; rintro rfl; exact hd ho
        · by_cases hqw : q ∈ (wids r S j).map (·.1)
          · have hlt := wids_lt (hupd j hjn) hqw
            have hf : fS r S q j = some ((sS r S (j + 1))[q]'hlt) := by simp [fS, hqw]
            rw [lastW_top (j := j) hjn (by simp [hDn]) hf (fun i h5 h6 h7 => by rw [hDn, if_neg (by omega)]; exact hplace q (.inr hqw) i h5 h6 h7)]
            have hst := sS_step (r := r) (S := S) j (hupd j hjn)
            have e3 := updL_same SD (sS r S j ++ List.replicate (r j).new.length .dead) (wids r S j) hqw (by omega) (by simp only [List.length_append, List.length_replicate]; simp only [sS, List.length_append, updL_length] at hlt; exact hlt)
            rw [e3, hst, List.getElem?_eq_getElem hlt]; rfl
          · have hf : fS r S q j = none := by simp [fS, hqw]
            rw [updL_other _ _ _ hqw, hs q hq]
            congr 3
            refine lastW_congr fun i hi hne => ?_
            rw [hDn]; split
            · rename_i e; subst e; exact (hne hf).elim
            · rfl
      obtain ⟨_, hg⟩ := hat j o c h1 h3
      have hr := hrec j o c h1 h3
      have hwant := wanted_of (ops := ops) hz hg (fun t wn e => by
        have : t ∈ namesOf o c := by simp [namesOf, e]
        simp only [List.getD_eq_getElem?_getD, hsame t this]; rfl) hr
      unfold wpOp
      rw [h2]
      simp only [hwant]
      unfold RecOk at hr
      cases hran : (r j).ran with
      | true =>
        rw [hran, if_pos rfl] at hr
        obtain ⟨_, he, hu, hrd, _⟩ := hr
        simp only [if_true]
        left
        refine he SD hread hfree G a w hz.left.wd (fun x hx => by rw [← hev x hx]; exact hz.ev x) _ _ fun v' w' G' hv hl => next G' _ w' ?_
        exact hz.put hl hv o.dst
      | false =>
        rw [hran, if_neg (by simp)] at hr
        obtain ⟨_, hv, hrd, hu, hnw⟩ := hr
        simp only [Bool.false_eq_true, if_false]
        refine next G _ w ?_
        have := hz.put (Left.refl hz.left.wd) (x := .lit undef) (v := undef) (.lit _) o.dst
        rw [← hv] at this
        have e0 : wids r S j = [] := by simp [wids, hu, hnw, newU]
        rw [e0, updL_nil]; exact this
  have hSN : S.length ≤ N := sS_mono (r := r) (S := S) 0 n (by omega)
  have hLD : ∀ {α : Type} (f : Nat → Option α), lastW (fun i => (Array.replicate ops.size false).getD i false) f n = none := by
    intro α f
    refine lastW_none fun i hi hD => ?_
    have hlt : i < ops.size := by omega
    simp [hlt] at hD
  have hD0 := Left.dead hz.left.wd (N - S.length)
  have hzD : Cz G0 S0 w0 tm (S ++ List.replicate (N - S.length) .dead) G a { w with drawn := w.drawn + 1 } := by
    have hl := hz.left.trans hD0
    refine ⟨⟨hl.le, hl.wd.drawn rfl, ⟨hl.kept.os, hl.kept.tape, hl.kept.output, hl.kept.size, hl.kept.block⟩, hl.own, hl.still⟩, hz.size, hz.rep, hz.defers, hz.wd0⟩
  refine wp_region_any hmix (inv ops.size (Array.replicate ops.size false) tm (S ++ List.replicate (N - S.length) .dead) G a _ (by simp [hn]) (Nat.le_trans List.countP_le_length (by simp)) (fun i hi h => by
    have : i < ops.size := by omega
    simp [this] at h) rfl (fun t ht => ?_) ?_ (fun q hq => ?_) hzD)
  · rw [hLD]; rfl
  · simp; omega
  · rw [hLD]
    simp only [orW]
    by_cases hlt : q < S.length
    · rw [List.getElem?_append_left hlt, List.getElem?_eq_getElem hlt]; rfl
    · rw [List.getElem?_append_right (by omega), List.getElem?_replicate, if_pos (by omega), List.getElem?_eq_none (show S.length ≤ q by omega)]; rfl
end
end Go.Proofs.Ytkhnfleejgfhgaa
end
section
namespace Go.Proofs.Ytkhnfleejgfhgaa

inductive C where
  | skip
  | reg (ops : List RO) (u : List (Nat × Nat))
  | seq (a b : C)
  | cond (c : Operand) (a b : C)
  | block (id : Nat) (c : C)
  | loop (c : C)
  | exit (id : Nat)
  | scope (c : C)
  | label (l : Nat)
  | goto (l : Nat)
  | ret
def compC (P : Program) : Code → Option C
  | .skip => some .skip
  | .region _ ops draw => (compReg P ops draw).map fun p => .reg p.1 p.2
  | .seq a b => match compC P a, compC P b with
    | some x, some y => some (.seq x y)
    | _, _ => none
  | .cond c a b => match compC P a, compC P b with
    | some x, some y => some (.cond c x y)
    | _, _ => none
  | .block id c => (compC P c).map (.block id)
  | .loop c => (compC P c).map .loop
  | .exit id => some (.exit id)
  | .scope c => (compC P c).map .scope
  | .label l => some (.label l)
  | .goto l => some (.goto l)
  | .ret => some .ret
  | _ => none

abbrev QT := Exit → List AV → List AObj → Prop

/-- What is borne so is borne so, too (m: how many objects there were at the beginning). -/
def Wk (m : Nat) (tm : List AV) (S : List AObj) (tm' : List AV) (S' : List AObj) : Prop :=
  ∀ G0 S0 w0 G a w, S0.length = m → Cz G0 S0 w0 tm S G a w → ∃ G', Cz G0 S0 w0 tm' S' G' a w
theorem Wk.refl (m : Nat) (tm : List AV) (S : List AObj) : Wk m tm S tm S := fun _ _ _ G _ _ _ h => ⟨G, h⟩
theorem Wk.trans {m : Nat} {tm tm' tm'' : List AV} {S S' S'' : List AObj} (h : Wk m tm S tm' S') (k : Wk m tm' S' tm'' S'') : Wk m tm S tm'' S'' := fun G0 S0 w0 G a w e hz => by
  obtain ⟨G', h'⟩ := h G0 S0 w0 G a w e hz
  exact k G0 S0 w0 G' a w e h'

/-- Code that bears its meaning. -/
def AC (P : Program) (m : Nat) (code : Code) (tm : List AV) (S : List AObj) (Q : QT) : Prop :=
  ∀ G0 S0 w0 G a w, S0.length = m → Cz G0 S0 w0 tm S G a w → code.wp P (fun e a' w' => ∃ tm' S' G', Cz G0 S0 w0 tm' S' G' a' w' ∧ Q e tm' S') a w

def qThen (k : List AV → List AObj → Prop) (Q : QT) : QT
  | .normal, tm, S => k tm S
  | e, tm, S => Q e tm S
def qBlock (id : Nat) (Q : QT) : QT
  | .exit id', tm, S => if id' = id then Q .normal tm S else Q (.exit id') tm S
  | e, tm, S => Q e tm S

/-- What a piece of code does, seen over abstract values. -/
def aw (P : Program) (m : Nat) : C → List AV → List AObj → QT → Prop
  | .skip, tm, S, Q => Q .normal tm S
  | .reg ops u, tm, S, Q => aReg P ops u [] tm S (Q .normal)
  | .seq a b, tm, S, Q => aw P m a tm S (qThen (fun tm S => aw P m b tm S Q) Q)
  | .cond c a b, tm, S, Q => match ev tm c with
    | .lit (.bool t) => (t = true → aw P m a tm S Q) ∧ (t = false → aw P m b tm S Q)
    | _ => False
  | .block id c, tm, S, Q => aw P m c tm S (qBlock id Q)
  | .loop c, tm, S, Q => ∃ I : Nat → List AV → List AObj → Prop, (∃ n tm' S', Wk m tm S tm' S' ∧ I n tm' S') ∧ ∀ n tm S, I n tm S → aw P m c tm S (qThen (fun tm' S' => ∃ n' tm'' S'', Wk m tm' S' tm'' S'' ∧ I n' tm'' S'' ∧ n' < n) Q)
  | .exit id, tm, S, Q => Q (.exit id) tm S
  | .scope c, tm, S, Q => ∀ code, compC P code = some c → AC P m (.scope code) tm S Q
  | .label _, tm, S, Q => ∃ tm' S', Wk m tm S tm' S' ∧ Q .normal tm' S'
  | .goto l, tm, S, Q => Q (.goto l) tm S
  | .ret, tm, S, Q => Q .ret tm S

theorem aw_sound {P : Program} {m : Nat} : ∀ (code : Code) (c : C), compC P code = some c → ∀ (tm : List AV) (S : List AObj) (Q : QT), aw P m c tm S Q → AC P m code tm S Q := by
  intro code
  induction code with
  | skip =>
    intro c hc tm S Q h G0 S0 w0 G a w hm hz
    simp only [compC] at hc; injection hc with hc; subst hc
    exact wp_skip ⟨_, _, G, hz, h⟩
  | region id ops draw =>
    intro c hc tm S Q h G0 S0 w0 G a w hm hz
    simp only [compC] at hc
    cases hr : compReg P ops draw with
    | none => simp [hr] at hc
    | some p =>
      obtain ⟨cs, u⟩ := p
      simp [hr] at hc; subst hc
      cases draw with
      | true => exact reg_draw hr hz h _ fun tm' S' G' a' w' hz' hq => ⟨_, _, G', hz', hq⟩
      | false =>
        simp only [compReg] at hr
        cases hcs : compOps P ops with
        | none => simp [hcs] at hr
        | some cs' =>
          simp [hcs] at hr
          obtain ⟨rfl, rfl⟩ := hr
          exact reg_text hcs hz h _ fun tm' S' G' a' w' hz' hq => ⟨_, _, G', hz', hq⟩
  | seq a b iha ihb =>
    intro c hc tm S Q h G0 S0 w0 G act w hm hz
    simp only [compC] at hc
    split at hc
    · rename_i x y hx hy
      injection hc with hc; subst hc
      refine wp_seq (wp_mono (iha x hx tm S _ h G0 S0 w0 G act w hm hz) fun e a' w' hq => ?_)
      obtain ⟨tm', S', G', hz', hq⟩ := hq
      cases e with
      | normal => exact ihb y hy tm' S' Q hq G0 S0 w0 G' a' w' hm hz'
      | _ => exact ⟨tm', S', G', hz', hq⟩
    · cases hc
  | cond x a b iha ihb =>
    intro c hc tm S Q h G0 S0 w0 G act w hm hz
    simp only [compC] at hc
    split at hc
    · rename_i x' y hx hy
      injection hc with hc; subst hc
      simp only [aw] at h
      split at h
      · rename_i t ht
        have r := hz.ev x
        rw [ht] at r
        refine wp_cond (rep_bool r) ?_
        cases t with
        | true => exact iha x' hx tm S Q (h.1 rfl) G0 S0 w0 G act w hm hz
        | false => exact ihb y hy tm S Q (h.2 rfl) G0 S0 w0 G act w hm hz
      · exact h.elim
    · cases hc
  | block id b ih =>
    intro c hc tm S Q h G0 S0 w0 G a w hm hz
    simp only [compC] at hc
    cases hb : compC P b with
    | none => simp [hb] at hc
    | some x =>
      simp [hb] at hc; subst hc
      refine wp_block (wp_mono (ih x hb tm S _ h G0 S0 w0 G a w hm hz) fun e a' w' hq => ?_)
      obtain ⟨tm', S', G', hz', hq⟩ := hq
      cases e with
      | exit id' =>
        simp only [qBlock] at hq
        simp only [Exit.inBlock]
        split
        · rename_i e; rw [if_pos e] at hq; exact ⟨tm', S', G', hz', hq⟩
        · rename_i e; rw [if_neg e] at hq; exact ⟨tm', S', G', hz', hq⟩
      | _ => exact ⟨tm', S', G', hz', hq⟩
  | loop b ih =>
    intro c hc tm S Q h G0 S0 w0 G a w hm hz
    simp only [compC] at hc
    cases hb : compC P b with
    | none => simp [hb] at hc
    | some x =>
      simp [hb] at hc; subst hc
      obtain ⟨I, ⟨n0, tm0, S1, hw0, h0⟩, hround⟩ := h
      obtain ⟨G1, hz1⟩ := hw0 G0 S0 w0 G a w hm hz
      -- the measure of a frame is the least of what it bears
      have key : ∀ (n : Nat) (tm : List AV) (S : List AObj) (G : Gh) (a : Act) (w : World), I n tm S → Cz G0 S0 w0 tm S G a w →
          ∀ (b' : Frame) (k : List Item) (cs : List Frame), ∃ e a' w', (∃ tm' S' G', Cz G0 S0 w0 tm' S' G' a' w' ∧ Q e tm' S') ∧ Arrives P (lone (b'.at a (.code b :: .inLoop b :: k)) cs w) b' k cs e a' w' := by
        intro n
        induction n using Nat.strongRecOn with
        | _ n ihn =>
          intro tm S G a w hI hz b' k cs
          obtain ⟨e, a₁, w₁, ⟨tm', S', G', hz', hq⟩, harr⟩ := ih x hb tm S _ (hround n tm S hI) G0 S0 w0 G a w hm hz b' (.inLoop b :: k) cs
          cases e with
          | normal =>
            obtain ⟨n', tm'', S'', hwk, hI', hlt⟩ := hq
            obtain ⟨G'', hz''⟩ := hwk G0 S0 w0 G' a₁ w₁ hm hz'
            obtain ⟨e₂, a₂, w₂, hq₂, harr₂⟩ := ihn n' hlt tm'' S'' G'' a₁ w₁ hI' hz'' b' k cs
            exact ⟨e₂, a₂, w₂, hq₂, .of_steps (Steps.trans harr (.one step_inLoop)) harr₂⟩
          | exit id => exact ⟨_, a₁, w₁, ⟨tm', S', G', hz', hq⟩, .pass (x := .inLoop b) rfl (fun _ _ => .inl (by simp)) harr⟩
          | goto l => exact ⟨_, a₁, w₁, ⟨tm', S', G', hz', hq⟩, .pass (x := .inLoop b) rfl (fun _ _ => .inl (by simp)) harr⟩
          | ret => exact ⟨_, a₁, w₁, ⟨tm', S', G', hz', hq⟩, .pass (x := .inLoop b) rfl (fun _ _ => .inl (by simp)) harr⟩
          | panic ch => exact ⟨_, a₁, w₁, ⟨tm', S', G', hz', hq⟩, .pass (x := .inLoop b) rfl (fun _ _ => .inl (by simp)) harr⟩
          | outgrown => exact ⟨_, a₁, w₁, ⟨tm', S', G', hz', hq⟩, .pass (x := .inLoop b) rfl (fun _ _ => .inl (by simp)) harr⟩
      intro b' k cs
      obtain ⟨e, a', w', hq, harr⟩ := key n0 tm0 S1 G1 a w h0 hz1 b' k cs
      exact ⟨e, a', w', hq, .of_steps (.one step_loop) harr⟩
  | exit id =>
    intro c hc tm S Q h G0 S0 w0 G a w hm hz
    simp only [compC] at hc; injection hc with hc; subst hc
    exact wp_exit ⟨_, _, G, hz, h⟩
  | scope b ih =>
    intro c hc tm S Q h
    simp only [compC] at hc
    cases hb : compC P b with
    | none => simp [hb] at hc
    | some x => simp [hb] at hc; subst hc; exact h b hb
  | label l =>
    intro c hc tm S Q h G0 S0 w0 G a w hm hz
    simp only [compC] at hc; injection hc with hc; subst hc
    obtain ⟨tm', S', hwk, hq⟩ := h
    obtain ⟨G', hz'⟩ := hwk G0 S0 w0 G a w hm hz
    exact wp_label ⟨_, _, G', hz', hq⟩
  | goto l =>
    intro c hc tm S Q h G0 S0 w0 G a w hm hz
    simp only [compC] at hc; injection hc with hc; subst hc
    exact wp_goto ⟨_, _, G, hz, h⟩
  | ret =>
    intro c hc tm S Q h G0 S0 w0 G a w hm hz
    simp only [compC] at hc; injection hc with hc; subst hc
    exact wp_ret ⟨_, _, G, hz, h⟩
  | rangeFunc f ps x y _ _ => intro c hc; simp [compC] at hc
  | refuse s => intro c hc; simp [compC] at hc

/-- What stands behind a label. -/
def findC : C → Nat → Option C
  | .seq a b, l => match findC a l with
    | some r => some (.seq r b)
    | none => findC b l
  | .label l', l => if l' == l then some .skip else none
  | _, _ => none
theorem findC_comp {P : Program} : ∀ (code : Code) (c : C) (l : Nat), compC P code = some c → (∀ r, findC c l = some r → ∃ rest, findLabel code l = some rest ∧ compC P rest = some r) ∧ (findC c l = none → findLabel code l = none) := by
  intro code
  induction code with
  | seq a b iha ihb =>
    intro c l hc
    simp only [compC] at hc
    split at hc
    · rename_i x y hx hy
      injection hc with hc; subst hc
      obtain ⟨a1, a2⟩ := iha x l hx
      obtain ⟨b1, b2⟩ := ihb y l hy
      simp only [findC, findLabel]
      cases hfa : findC x l with
      | some r =>
        obtain ⟨rest, h1, h2⟩ := a1 r hfa
        refine ⟨fun r' h => ?_, fun h => by cases h⟩
        injection h with h; subst h
        exact ⟨.seq rest b, by rw [h1], by simp [compC, h2, hy]⟩
      | none =>
        rw [a2 hfa]
        exact ⟨fun r' h => b1 r' h, fun h => b2 h⟩
    · cases hc
  | label l' =>
    intro c l hc
    simp only [compC] at hc; injection hc with hc; subst hc
    simp only [findC, findLabel]
    split
    · exact ⟨fun r h => ⟨.skip, rfl, by injection h with h; subst h; rfl⟩, fun h => by cases h⟩
    · exact ⟨fun r h => (by cases h), fun _ => rfl⟩
  | skip => intro c l hc; simp only [compC] at hc; injection hc with hc; subst hc; exact ⟨fun r h => (by cases h), fun _ => rfl⟩
  | region id ops d =>
    intro c l hc
    simp only [compC] at hc
    cases hr : compReg P ops d with
    | none => simp [hr] at hc
    | some p => simp [hr] at hc; subst hc; exact ⟨fun r h => (by cases h), fun _ => rfl⟩
  | cond x a b _ _ =>
    intro c l hc
    simp only [compC] at hc
    split at hc
    · injection hc with hc; subst hc; exact ⟨fun r h => (by cases h), fun _ => rfl⟩
    · cases hc
  | block id b _ =>
    intro c l hc
    simp only [compC] at hc
    cases hb : compC P b with
    | none => simp [hb] at hc
    | some p => simp [hb] at hc; subst hc; exact ⟨fun r h => (by cases h), fun _ => rfl⟩
  | loop b _ =>
    intro c l hc
    simp only [compC] at hc
    cases hb : compC P b with
    | none => simp [hb] at hc
    | some p => simp [hb] at hc; subst hc; exact ⟨fun r h => (by cases h), fun _ => rfl⟩
  | scope b _ =>
    intro c l hc
    simp only [compC] at hc
    cases hb : compC P b with
    | none => simp [hb] at hc
    | some p => simp [hb] at hc; subst hc; exact ⟨fun r h => (by cases h), fun _ => rfl⟩
  | exit id => intro c l hc; simp only [compC] at hc; injection hc with hc; subst hc; exact ⟨fun r h => (by cases h), fun _ => rfl⟩
  | goto id => intro c l hc; simp only [compC] at hc; injection hc with hc; subst hc; exact ⟨fun r h => (by cases h), fun _ => rfl⟩
  | ret => intro c l hc; simp only [compC] at hc; injection hc with hc; subst hc; exact ⟨fun r h => (by cases h), fun _ => rfl⟩
  | rangeFunc f ps x y _ _ => intro c l hc; simp [compC] at hc
  | refuse s => intro c l hc; simp [compC] at hc

def qGoto (m : Nat) (J : Nat → List AV → List AObj → Prop) (Q : QT) : QT
  | .goto l, tm, S => ∃ tm' S', Wk m tm S tm' S' ∧ J l tm' S'
  | e, tm, S => Q e tm S
/-- A scope in which the run jumps. -/
theorem scope_rule {P : Program} {m : Nat} {c : C} {tm : List AV} {S : List AObj} {Q : QT} (J : Nat → Nat → List AV → List AObj → Prop) (first : aw P m c tm S (qGoto m (fun l tm S => ∃ n, J n l tm S) Q))
    (pass : ∀ n l tm S, J n l tm S → ∃ r, findC c l = some r ∧ aw P m r tm S (qGoto m (fun l' tm' S' => ∃ n', J n' l' tm' S' ∧ n' < n) Q)) : aw P m (.scope c) tm S Q := by
  intro code hc G0 S0 w0 G a w hm hz
  have key : ∀ (n : Nat) (l : Nat) (tm : List AV) (S : List AObj) (G : Gh) (a : Act) (w : World), J n l tm S → Cz G0 S0 w0 tm S G a w → ∃ rest, findLabel code l = some rest ∧
      ∀ (b : Frame) (k : List Item) (cs : List Frame), ∃ e a' w', (∃ tm' S' G', Cz G0 S0 w0 tm' S' G' a' w' ∧ Q e tm' S') ∧ Arrives P (lone (b.at a (.code rest :: .inScope code :: k)) cs w) b k cs e a' w' := by
    intro n
    induction n using Nat.strongRecOn with
    | _ n ih =>
      intro l tm S G a w hJ hz
      obtain ⟨r, hr, hpass⟩ := pass n l tm S hJ
      obtain ⟨rest, hrest, hcr⟩ := (findC_comp code c l hc).1 r hr
      refine ⟨rest, hrest, fun b k cs => ?_⟩
      obtain ⟨e, a₁, w₁, ⟨tm', S', G', hz', hq⟩, harr⟩ := aw_sound rest r hcr tm S _ hpass G0 S0 w0 G a w hm hz b (.inScope code :: k) cs
      cases e with
      | normal => exact ⟨.normal, a₁, w₁, ⟨tm', S', G', hz', hq⟩, Steps.trans harr (.one step_inScope)⟩
      | exit id => exact ⟨.exit id, a₁, w₁, ⟨tm', S', G', hz', hq⟩, fun k' hk => harr k' (by simp [exitTo, hk])⟩
      | goto l' =>
        obtain ⟨tm'', S'', hwk, n', hJ', hlt⟩ := hq
        obtain ⟨G'', hz''⟩ := hwk G0 S0 w0 G' a₁ w₁ hm hz'
        obtain ⟨rest', hrest', hgo⟩ := ih n' hlt l' tm'' S'' G'' a₁ w₁ hJ' hz''
        obtain ⟨e₂, a₂, w₂, hq₂, harr₂⟩ := hgo b k cs
        exact ⟨e₂, a₂, w₂, hq₂, .of_steps (harr _ (by simp [gotoIn, hrest'])) harr₂⟩
      | ret => exact ⟨_, a₁, w₁, ⟨tm', S', G', hz', hq⟩, harr⟩
      | panic ch => exact ⟨_, a₁, w₁, ⟨tm', S', G', hz', hq⟩, harr⟩
      | outgrown => exact ⟨_, a₁, w₁, ⟨tm', S', G', hz', hq⟩, harr⟩
  intro b k cs
  obtain ⟨e, a₁, w₁, ⟨tm', S', G', hz', hq⟩, harr⟩ := aw_sound code c hc tm S _ first G0 S0 w0 G a w hm hz b (.inScope code :: k) cs
  cases e with
  | normal => exact ⟨.normal, a₁, w₁, ⟨tm', S', G', hz', hq⟩, .head step_scope (Steps.trans harr (.one step_inScope))⟩
  | exit id => exact ⟨.exit id, a₁, w₁, ⟨tm', S', G', hz', hq⟩, fun k' hk => .head step_scope (harr k' (by simp [exitTo, hk]))⟩
  | goto l' =>
    obtain ⟨tm'', S'', hwk, n', hJ'⟩ := hq
    obtain ⟨G'', hz''⟩ := hwk G0 S0 w0 G' a₁ w₁ hm hz'
    obtain ⟨rest', hrest', hgo⟩ := key n' l' tm'' S'' G'' a₁ w₁ hJ' hz''
    obtain ⟨e₂, a₂, w₂, hq₂, harr₂⟩ := hgo b k cs
    exact ⟨e₂, a₂, w₂, hq₂, .of_steps (.head step_scope (harr _ (by simp [gotoIn, hrest']))) harr₂⟩
  | ret => exact ⟨_, a₁, w₁, ⟨tm', S', G', hz', hq⟩, .of_steps (.one step_scope) harr⟩
  | panic ch => exact ⟨_, a₁, w₁, ⟨tm', S', G', hz', hq⟩, .of_steps (.one step_scope) harr⟩
  | outgrown => exact ⟨_, a₁, w₁, ⟨tm', S', G', hz', hq⟩, .of_steps (.one step_scope) harr⟩

/-- Where a function's results stand. -/
inductive RV where
  | tmp (t : Nat)
  | cell (t : Nat) (n : Option Nat)
def compR (P : Program) (fn : Func) : Option (List RV) :=
  optM (fun r : ResultVar => match r with
    | .tmp t => some (.tmp t)
    | .cell a t => (aggO P t).map fun n => .cell a n) fn.results.toList
def loadA (n : Option Nat) (x : AV) (S : List AObj) : Option AV :=
  match x with
  | .iptr cs => match n with
    | none => cs.head?
    | some n => if n ≤ cs.length then some (.agg (cs.take n)) else none
  | .ref i o => match S[i]? with
    | some (.cells xs) => match n with
      | none => xs[o]?
      | some n => if o + n ≤ xs.length then some (.agg ((xs.drop o).take n)) else none
    | _ => none
  | _ => none
def resA1 (tm : List AV) (S : List AObj) : RV → Option AV
  | .tmp t => some (tm.getD t .any)
  | .cell t n => loadA n (tm.getD t .any) S
def resAL (tm : List AV) (S : List AObj) : List RV → Option (List AV)
  | [] => some []
  | r :: rs => match resA1 tm S r, resAL tm S rs with
    | some x, some xs => some (x :: xs)
    | _, _ => none
def oneOr (xs : List AV) : AV := match xs with
  | [x] => x
  | xs => .tup xs

def FinK (P : Program) (m : Nat) (fn : Func) (tm : List AV) (S : List AObj) (r : AV) (S' : List AObj) : Prop :=
  ∀ G0 S0 w0 G a w, S0.length = m → Cz G0 S0 w0 tm S G a w → ∃ v G', (results fn a.tmps).run P w = .ok v w ∧ Rep G' r v ∧ Left G0 S0 w0 G' S' w

theorem FinK.wk {P : Program} {m : Nat} {fn : Func} {tm tm' : List AV} {S S' S'' : List AObj} {r : AV} (h : Wk m tm S tm' S') (k : FinK P m fn tm' S' r S'') : FinK P m fn tm S r S'' := fun G0 S0 w0 G a w e hz => by
  obtain ⟨G', h'⟩ := h G0 S0 w0 G a w e hz
  exact k G0 S0 w0 G' a w e h'

theorem run_loadA {P : Program} {t : TypeId} {n : Option Nat} (hn : aggO P t = some n) {G : Gh} {S : List AObj} {w : World} (hw : Wd G S w) {x y : AV} {v : Value} (h : loadA n x S = some y) (r : Rep G x v) :
    ∃ ad u, v = .pointer (some ad) ∧ (loadVar t ad).run P w = .ok u w ∧ Rep G y u := by
  unfold loadA at h
  split at h
  · rename_i cs
    cases r with
    | @iptr _ b off vs h1 h2 h3 =>
      refine ⟨⟨b, off, none⟩, ?_⟩
      cases n with
      | none =>
        cases cs with
        | nil => simp at h
        | cons c cs =>
          simp at h; subst h
          have h0 := hw.imm _ _ _ (h1 0 (by simp))
          exact ⟨_, rfl, run_loadVar_one hn (by simpa using h0), h3 0 _ (by simp)⟩
      | some n =>
        simp only at h
        split at h
        · rename_i hle
          injection h with h; subst h
          refine ⟨_, rfl, run_loadVar_agg hn vs fun j hj => by rw [add_none]; exact hw.imm _ _ _ (h1 j (by omega)), rep_agg_range vs (by simp; omega) (fun j hj => h2 j (by omega)) fun j y hy => h3 j y ?_⟩
          rw [List.getElem?_take] at hy; split at hy <;> simp_all
        · cases h
  · rename_i i off
    cases r with
    | @ref _ _ b hb =>
      refine ⟨⟨b, off, none⟩, ?_⟩
      split at h
      · rename_i xs hS
        obtain ⟨b', cs, t', g1, g2, g3, g4, _⟩ := hw.obj i xs hS
        rw [hb] at g1; injection g1 with g1; subst g1
        cases n with
        | none =>
          have hlt : off < cs.size := by rw [g3]; exact (List.getElem?_eq_some_iff.1 h).1
          have hc : cs[off]? = some cs[off] := Array.getElem?_eq_getElem hlt
          exact ⟨_, rfl, run_loadVar_one hn ((cell_at g2 off).trans hc), (g4 off y _ h hc).2⟩
        | some n =>
          simp only at h
          split at h
          · rename_i hle
            injection h with h; subst h
            have hc : ∀ j, j < n → cs[off + j]? = some (cs.getD (off + j) undef) := fun j hj => by
              rw [Array.getElem?_eq_getElem (show off + j < cs.size by omega)]; simp [show off + j < cs.size by omega]
            refine ⟨_, rfl, run_loadVar_agg hn (fun j => cs.getD (off + j) undef) fun j hj => by rw [add_none]; exact (cell_at g2 _).trans (hc j hj), rep_agg_range _ (by simp; omega) (fun j hj => ?_) fun j y hy => ?_⟩
            · exact (g4 (off + j) _ _ (List.getElem?_eq_getElem (show off + j < xs.length by omega)) (hc j hj)).1
            · have hjn : j < n := by
                rcases Nat.lt_or_ge j n with h | h
                · exact h
                · rw [List.getElem?_take, if_neg (by omega)] at hy; cases hy
              refine (g4 (off + j) y _ ?_ (hc j hjn)).2
              rw [List.getElem?_take, if_pos hjn, List.getElem?_drop] at hy; exact hy
          · cases h
      · cases h
  · cases h

theorem run_results {P : Program} {fn : Func} {rv : List RV} (hr : compR P fn = some rv) {tm : List AV} {S : List AObj} {xs : List AV} (h : resAL tm S rv = some xs) {G0 : Gh} {S0 : List AObj} {w0 : World} {G : Gh} {a : Act} {w : World} (hz : Cz G0 S0 w0 tm S G a w) :
    ∃ v, (results fn a.tmps).run P w = .ok v w ∧ Rep G (oneOr xs) v := by
  obtain ⟨F, hF⟩ : ∃ F : ResultVar → Sem Value, F = (fun r => match r with
      | .tmp t => pure (a.tmps.getD t undef)
      | .cell q t => do loadVar t (← asAddr (a.tmps.getD q undef))) := ⟨_, rfl⟩
  have hFt : ∀ t, F (.tmp t) = pure (a.tmps.getD t undef) := fun t => by rw [hF]
  have hFc : ∀ q t, F (.cell q t) = (do loadVar t (← asAddr (a.tmps.getD q undef)) : Sem Value) := fun q t => by rw [hF]
  have key : ∀ (rs : List ResultVar) (rv : List RV) (xs : List AV), optM (fun r : ResultVar => match r with
    | .tmp t => some (.tmp t)
    | .cell a t => (aggO P t).map fun n => .cell a n) rs = some rv → resAL tm S rv = some xs → ∃ vs : List Value, (rs.mapM F).run P w = .ok vs w ∧ RepL G xs vs := by
    intro rs
    induction rs with
    | nil => intro rv xs h1 h2; simp [optM] at h1; subst h1; simp [resAL] at h2; subst h2; exact ⟨[], by simp, RepL.nil _⟩
    | cons r rs ih =>
      intro rv xs h1 h2
      simp only [optM] at h1
      split at h1
      · rename_i y ys hy hys
        injection h1 with h1; subst h1
        simp only [resAL] at h2
        split at h2
        · rename_i x xs' hx hxs
          injection h2 with h2; subst h2
          obtain ⟨vs, hv, hrep⟩ := ih ys xs' hys hxs
          cases r with
          | tmp t =>
            injection hy with hy; subst hy
            simp only [resA1] at hx
            injection hx with hx; subst hx
            have := hz.ev (.tmp t)
            simp only [ev, Act.eval] at this
            exact ⟨_, by rw [List.mapM_cons]; simp only [Sem.run_bind, hFt, Sem.run_pure, Result.andThen_ok, hv], RepL.cons this hrep⟩
          | cell q t =>
            simp only at hy
            cases hn : aggO P t with
            | none => simp [hn] at hy
            | some n =>
              simp [hn] at hy; subst hy
              simp only [resA1] at hx
              have := hz.ev (.tmp q)
              simp only [ev, Act.eval] at this
              obtain ⟨ad, u, e1, e2, e3⟩ := run_loadA (P := P) hn hz.left.wd hx this
              refine ⟨u :: vs, ?_, RepL.cons e3 hrep⟩
              rw [List.mapM_cons]
              simp only [Sem.run_bind, hFc, e1, asAddr, Sem.run_pure, Result.andThen_ok, e2, hv]
        · cases h2
      · cases h1
  obtain ⟨vs, hv, hrep⟩ := key fn.results.toList rv xs hr h
  have hm : (fn.results.mapM F).run P w = .ok vs.toArray w := by
    rw [Array.mapM_eq_mapM_toList]
    simp only [Sem.run_map, hv, Result.andThen_ok]
  have e : results fn a.tmps = (do let vs ← fn.results.mapM F; pure (if h : vs.size = 1 then vs[0] else .tuple vs)) := by rw [hF]; rfl
  rw [e]
  simp only [Sem.run_bind, hm, Result.andThen_ok, Sem.run_pure]
  refine ⟨_, rfl, ?_⟩
  match xs, vs, hrep with
  | [x], [v], hrep => exact hrep.2 0 x v rfl rfl
  | [], [], _ => exact .tup rfl (fun j x v h => by simp at h)
  | x :: y :: xs, v :: u :: vs, hrep =>
    have : ¬ (v :: u :: vs).toArray.size = 1 := by simp
    rw [dif_neg this]
    exact .tup (by simpa using hrep.1) (fun j x v hx hv => hrep.2 j x v hx (by simpa using hv))
  | [], _ :: _, hrep => simpa using hrep.1
  | _ :: _, [], hrep => simpa using hrep.1
  | [_], _ :: _ :: _, hrep => simpa using hrep.1
  | _ :: _ :: _, [_], hrep => simpa using hrep.1

/-- The results, the store as it is. -/
theorem FinK.res {P : Program} {m : Nat} {fn : Func} {rv : List RV} (hr : compR P fn = some rv) {tm : List AV} {S : List AObj} {xs : List AV} (h : resAL tm S rv = some xs) : FinK P m fn tm S (oneOr xs) S := fun G0 S0 w0 G a w _ hz => by
  obtain ⟨v, h1, h2⟩ := run_results hr h hz
  exact ⟨v, G, h1, h2, hz.left⟩

/-- The store told in a smaller one. -/
theorem FinK.sel {P : Program} {m : Nat} {fn : Func} {tm : List AV} {S S' : List AObj} {r r' : AV} (h : FinK P m fn tm S r' S) (ids : List Nat) (hn : ids.Nodup) (hl : ids.length = S'.length) (hm : m ≤ S'.length)
    (hp : ∀ (k i : Nat), k < m → ids[k]? = some i → i = k) (hT : ∀ (k : Nat) (o : AObj), S'[k]? = some o → ∃ i, ids[k]? = some i ∧ S[i]? = some (o.ren (ixs ids S.length))) (hr : r.ren (ixs ids S.length) = r') : FinK P m fn tm S r S' := fun G0 S0 w0 G a w e hz => by
  obtain ⟨v, G', hv, hrep, hs⟩ := h G0 S0 w0 G a w e hz
  have hD : ∀ (k i : Nat), S'.length ≤ k → ids[k]? = some i → S[i]? = some .dead := fun k i hk hi => by
    rw [List.getElem?_eq_none (by omega)] at hi; cases hi
  obtain ⟨hwd, hblk⟩ := Wd.pull hs.wd ids hn (by omega) hT hD
  have hid : ∀ k, k < m → ixs ids S.length k = k := fun k hk => by
    have e : ids[k]? = some (ids[k]'(by omega)) := by simp
    rw [ixs_get e]; exact hp k _ hk e
  have hw0 : ∀ i, m ≤ i → G0.loc i = none ∧ ∀ n, G0.hist i n = none := fun i hi => hz.wd0.dom i (.inl (List.getElem?_eq_none (by omega)))
  refine ⟨v, _, hv, hrep.pull r hr, ⟨⟨hs.le.imm, fun i b hb => ?_, fun i n u hb => ?_⟩, hwd, hs.kept, fun i b hb => ?_, hs.still⟩⟩
  · have hi : i < m := by
      rcases Nat.lt_or_ge i m with h | h
      · exact h
      · rw [(hw0 i h).1] at hb; cases hb
    show G'.loc (ixs ids S.length i) = _
    rw [hid i hi]; exact hs.le.loc i b hb
  · have hi : i < m := by
      rcases Nat.lt_or_ge i m with h | h
      · exact h
      · rw [(hw0 i h).2] at hb; cases hb
    show G'.hist (ixs ids S.length i) n = _
    rw [hid i hi]; exact hs.le.hist i n u hb
  · rcases hblk i with h | h
    · rw [h] at hb; cases hb
    · rw [h] at hb; exact hs.own _ b hb

theorem Does.body {P : Program} {f : FuncId} {fn : Func} {code : Code} {c : C} {args : List AV} {S : List AObj} {r : AV} {S' : List AObj} (hf : P.funcs[f]? = some fn) (hb : fn.body = some code) (hname : (fn.name == "runtime.NumGoroutine") = false) (hc : compC P code = some c)
    (h : aw P S.length c (args ++ List.replicate (fn.ntmps - args.length) .any) S fun e tm S1 => (e = .ret ∨ e = .normal) ∧ FinK P S.length fn tm S1 r S') : Does P f args S r S' := by
  refine ⟨⟨fn, hf, by simp [hb], hname⟩, fun G w vs hw hr => ?_⟩
  refine calls_of_wp hf hb ?_
  have hsz : vs.size = args.length := by simpa using hr.1.symm
  have hz : Cz G S w (args ++ List.replicate (fn.ntmps - args.length) .any) S G { tmps := vs ++ Array.replicate (fn.ntmps - vs.size) undef, defers := [] } w := by
    refine ⟨Left.refl hw, by simp [hsz], fun t x v hx hv => ?_, rfl, hw⟩
    rw [List.getElem?_append] at hx
    split at hx
    · rename_i ht
      simp only [Array.getElem?_append] at hv
      rw [if_pos (by omega)] at hv
      exact hr.2 t x v hx (by simpa using hv)
    · rw [List.getElem?_replicate] at hx
      split at hx
      · injection hx with hx; subst hx; exact .any v
      · cases hx
  refine wp_mono (aw_sound code c hc _ S _ h G S w G _ w rfl hz) fun e a' w' hq => ?_
  obtain ⟨tm', S1, G', hz', he, hfin⟩ := hq
  obtain ⟨v, G'', hv, hrep, hleft⟩ := hfin G S w G' a' w' rfl hz'
  rcases he with rfl | rfl
  · exact ⟨hz'.defers, v, hv, v, G'', rfl, hrep, hleft⟩
  · exact ⟨hz'.defers, v, hv, v, G'', rfl, hrep, hleft⟩

end Go.Proofs.Ytkhnfleejgfhgaa
end
