/-
  The operations do what is told of them: structs and arrays of integers that are compared; all of them together. Over any program.
-/
import Derived.Test.YtgphhganepjaiaaAb9
import Derived.Laws.StructEq
namespace Go.Proofs.Ytgphhganepjaiaa

section
variable {P : Program}

def eqV : List Value → List Value → Bool
  | .int _ a :: xs, .int _ b :: ys => (a == b) && eqV xs ys
  | _, _ => true
/-- Integers of the same kinds, one by one. -/
def okV (xs ys : List Value) : Prop := xs.length = ys.length ∧ ∀ (j : Nat) (u v : Value), xs[j]? = some u → ys[j]? = some v → ∃ k a b, u = .int k a ∧ v = .int k b
theorem okV.tail {u v : Value} {xs ys : List Value} (h : okV (u :: xs) (v :: ys)) : okV xs ys := ⟨by simpa using h.1, fun j a b ha hb => h.2 (j + 1) a b (by simpa using ha) (by simpa using hb)⟩
theorem okV.take {xs ys : List Value} (h : okV xs ys) (n : Nat) : okV (xs.take n) (ys.take n) := ⟨by simp [h.1], fun j a b ha hb => by
  rw [List.getElem?_take] at ha hb
  split at ha
  · rename_i hj; rw [if_pos hj] at hb; exact h.2 j a b ha hb
  · cases ha⟩
theorem okV.drop {xs ys : List Value} (h : okV xs ys) (n : Nat) : okV (xs.drop n) (ys.drop n) := ⟨by simp [h.1], fun j a b ha hb => by
  rw [List.getElem?_drop] at ha hb; exact h.2 _ a b ha hb⟩
theorem eqV_split {xs ys : List Value} (h : okV xs ys) (n : Nat) : eqV xs ys = (eqV (xs.take n) (ys.take n) && eqV (xs.drop n) (ys.drop n)) := by
  induction n generalizing xs ys with
  | zero => simp [eqV]
  | succ n ih =>
    match xs, ys, h with
    | [], [], _ => simp [eqV]
    | u :: xs, v :: ys, h =>
      obtain ⟨k, a, b, rfl, rfl⟩ := h.2 0 u v rfl rfl
      simp only [List.take_succ_cons, List.drop_succ_cons, eqV]
      rw [ih h.tail, Bool.and_assoc]
    | [], _ :: _, h => exact absurd h.1 (by simp)
    | _ :: _, [], h => exact absurd h.1 (by simp)

/-- A value of a type made of integers, of its cells. -/
def aggV (a : Option Nat) (vs : Array Value) : Value := match a with
  | none => vs.getD 0 undef
  | some _ => .agg vs

theorem run_part_flat {t : TypeId} {a : Option Nat} {s : Nat} (ha : aggO P t = some a) (hs : szO P t = some s) (h1 : a = none → s = 1) (vs : Array Value) (off : Nat) (hle : off + s ≤ vs.size) (w : World) :
    (part t vs off).run P w = .ok (aggV a (vs.extract off (off + s))) w := by
  cases a with
  | none =>
    have := h1 rfl
    subst this
    have hv : vs[off]? = some vs[off] := Array.getElem?_eq_getElem (by omega)
    simp [part, run_isAgg_no ha, hv, aggV, show 0 < min (off + 1) vs.size - off by omega]
  | some n =>
    simp [part, run_isAgg_yes ha, run_sizeO hs, aggV]

theorem run_equal_flat : ∀ (d : Nat) (t : TypeId) (n : Nat) (a : Option Nat), flatI P d t = some n → aggO P t = some a → (a = none → n = 1) → ∀ (D : Nat) (xs ys : Array Value), d ≤ D → xs.size = n → ys.size = n → okV xs.toList ys.toList → ∀ w : World,
    (Op.equalIn D t (aggV a xs) (aggV a ys)).run P w = .ok (eqV xs.toList ys.toList) w := by
  intro d
  induction d with
  | zero => intro t n a h; simp [flatI] at h
  | succ d ih =>
    intro t n a h ha h1 D xs ys hD hx hy hok w
    obtain ⟨D, rfl⟩ : ∃ D', D = D' + 1 := ⟨D - 1, by omega⟩
    simp only [flatI] at h
    cases hu : P.underlying t with
    | none => simp [hu] at h
    | some ds =>
      rw [hu] at h
      cases ds with
      | int k =>
        have han : a = none := by simpa [aggO, hu] using ha.symm
        subst han
        have hn := h1 rfl
        subst hn
        obtain ⟨xl⟩ := xs
        obtain ⟨yl⟩ := ys
        match xl, yl, hx, hy with
        | [u], [v], _, _ =>
          obtain ⟨k', p, q, rfl, rfl⟩ := hok.2 0 u v rfl rfl
          have := run_equalIn_int (P := P) w D t k' k p q hu
          simpa [aggV, eqV] using this
      | struct fs =>
        simp only at h
        split at h
        · cases h
        · rename_i hst
          have hagg : ∃ m, a = some m := by
            cases a with
            | none => obtain ⟨d', hd', hq, _⟩ := aggO_none ha; rw [hu] at hd'; injection hd' with e; exact (hq _ e.symm).elim
            | some m => exact ⟨m, rfl⟩
          obtain ⟨m, rfl⟩ := hagg
          simp only [aggV]
          have hfo : P.fieldsOf t = fs := by simp [Program.fieldsOf, hu]
          rw [run_equalIn_struct (P := P) w D t xs ys (by rw [hfo]; exact hu) (by simpa using hst), hfo]
          have key : ∀ (l : List Field) (off : Nat), off ≤ n → l.foldl (fun acc f => acc.bind fun off => match flatI P d f.type, aggO P f.type with
              | some s, some a => if f.name ≠ "_" ∧ f.offset = off ∧ szO P f.type = some s ∧ (a = none → s = 1) then some (off + s) else none
              | _, _ => none) (some off) = some n → (Op.eqFields D xs ys l).run P w = .ok (eqV (xs.toList.drop off) (ys.toList.drop off)) w := by
            intro l
            induction l with
            | nil =>
              intro off hoff hl
              simp at hl; subst hl
              rw [List.drop_eq_nil_of_le (by simp; omega), List.drop_eq_nil_of_le (by simp; omega)]
              simp [Op.eqFields, eqV]
            | cons f l ihl =>
              intro off hoff hl
              have hnone : ∀ l : List Field, l.foldl (fun acc f => acc.bind fun off => match flatI P d f.type, aggO P f.type with
                | some s, some a => if f.name ≠ "_" ∧ f.offset = off ∧ szO P f.type = some s ∧ (a = none → s = 1) then some (off + s) else none
                | _, _ => none) none = (none : Option Nat) := by
                intro l; induction l with
                | nil => rfl
                | cons g l ih => simpa using ih
              have hmono : ∀ (l : List Field) (o : Nat), l.foldl (fun acc f => acc.bind fun off => match flatI P d f.type, aggO P f.type with
                | some s, some a => if f.name ≠ "_" ∧ f.offset = off ∧ szO P f.type = some s ∧ (a = none → s = 1) then some (off + s) else none
                | _, _ => none) (some o) = some n → o ≤ n := by
                intro l; induction l with
                | nil => intro o ho; simp at ho; omega
                | cons g l ih =>
                  intro o ho
                  simp only [List.foldl_cons, Option.bind_some] at ho
                  split at ho
                  · split at ho
                    · have := ih _ ho; omega
                    · rw [hnone] at ho; cases ho
                  · rw [hnone] at ho; cases ho
              simp only [List.foldl_cons, Option.bind_some] at hl
              split at hl
              · rename_i s a' hs' ha'
                split at hl
                · rename_i hc
                  obtain ⟨hname, hfoff, hsz, h1'⟩ := hc
                  have hle := hmono _ _ hl
                  subst hfoff
                  have e1 := run_part_flat ha' hsz h1' xs f.offset (by omega) w
                  have e2 := run_part_flat ha' hsz h1' ys f.offset (by omega) w
                  have hokp : okV (xs.extract f.offset (f.offset + s)).toList (ys.extract f.offset (f.offset + s)).toList := by
                    simp only [Array.toList_extract, List.extract_eq_take_drop]
                    exact (hok.drop _).take _
                  have e3 := ih f.type s a' hs' ha' h1' D _ _ (by omega) (by simp; omega) (by simp; omega) hokp w
                  have e4 := ihl _ hle hl
                  simp only [Op.eqFields]
                  rw [if_pos hname]
                  simp only [Sem.run_bind, e1, e2, e3, Result.andThen_ok]
                  have hsp := eqV_split (hok.drop f.offset) s
                  simp only [Array.toList_extract, List.extract_eq_take_drop, Nat.add_sub_cancel_left] at *
                  rw [hsp, List.drop_drop, List.drop_drop]
                  cases hb : eqV (List.take s (List.drop f.offset xs.toList)) (List.take s (List.drop f.offset ys.toList))
                  · simp
                  · simp [e4]
                · rw [hnone] at hl; cases hl
              · rw [hnone] at hl; cases hl
          have := key fs.toList 0 (Nat.zero_le _) h
          simpa using this
      | array len e =>
        simp only at h
        split at h
        · rename_i s a' hs' ha'
          split at h
          · rename_i hc
            obtain ⟨hsz, h1'⟩ := hc
            injection h with h
            have hagg : ∃ m, a = some m := by
              cases a with
              | none => obtain ⟨d', hd', _, hq⟩ := aggO_none ha; rw [hu] at hd'; injection hd' with e; exact (hq _ _ e.symm).elim
              | some m => exact ⟨m, rfl⟩
            obtain ⟨m, rfl⟩ := hagg
            simp only [aggV, Op.equalIn, Sem.run_bind, run_underlying hu, Result.andThen_ok, run_sizeO hsz]
            have step : ∀ i, i < len → (do
                let p ← part e xs (i * s)
                let q ← part e ys (i * s)
                Op.equalIn D e p q).run P w = .ok (eqV ((xs.toList.drop (i * s)).take s) ((ys.toList.drop (i * s)).take s)) w := by
              intro i hi
              have hle : i * s + s ≤ n := by
                rw [← h]; have : (i + 1) * s ≤ len * s := Nat.mul_le_mul_right _ (by omega)
                rw [Nat.add_mul] at this; omega
              have e1 := run_part_flat ha' hsz h1' xs (i * s) (by omega) w
              have e2 := run_part_flat ha' hsz h1' ys (i * s) (by omega) w
              have hokp : okV (xs.extract (i * s) (i * s + s)).toList (ys.extract (i * s) (i * s + s)).toList := by
                simp only [Array.toList_extract, List.extract_eq_take_drop]
                exact (hok.drop _).take _
              have e3 := ih e s a' hs' ha' h1' D _ _ (by omega) (by simp; omega) (by simp; omega) hokp w
              simp only [Sem.run_bind, e1, e2, e3, Result.andThen_ok]
              simp only [Array.toList_extract, List.extract_eq_take_drop, Nat.add_sub_cancel_left]
            have key : ∀ (r i : Nat), i + r = len → (forIn (List.range' i r) ((none, ()) : Option Bool × Unit) fun i _ => do
                let p ← part e xs (i * s)
                let q ← part e ys (i * s)
                let b ← Op.equalIn D e p q
                if (!b) = true then pure (ForInStep.done ((some false, ()) : Option Bool × Unit)) else pure (ForInStep.yield (none, ()))).run P w = .ok (if eqV (xs.toList.drop (i * s)) (ys.toList.drop (i * s)) then none else some false, ()) w := by
              intro r
              induction r with
              | zero =>
                intro i hi
                rw [List.drop_eq_nil_of_le (by simp; rw [hx, ← h, show i = len by omega]; exact Nat.le_refl _), List.drop_eq_nil_of_le (by simp; rw [hy, ← h, show i = len by omega]; exact Nat.le_refl _)]
                simp [eqV]
              | succ r ihr =>
                intro i hi
                have e1 := step i (by omega)
                have e2 := ihr (i + 1) (by omega)
                rw [List.range'_succ, List.forIn_cons]
                have hsp := eqV_split (hok.drop (i * s)) s
                rw [List.drop_drop, List.drop_drop, show i * s + s = (i + 1) * s by rw [Nat.add_mul]; omega] at hsp
                rw [hsp]
                simp only [Sem.run_bind] at e1 ⊢
                generalize (part e xs (i * s)).run P w = r1 at e1 ⊢
                cases r1 with
                | halt x w1 => simp [Result.andThen] at e1
                | ok p w1 =>
                  simp only [Result.andThen_ok] at e1 ⊢
                  generalize (part e ys (i * s)).run P w1 = r2 at e1 ⊢
                  cases r2 with
                  | halt x w2 => simp [Result.andThen] at e1
                  | ok q w2 =>
                    simp only [Result.andThen_ok] at e1 ⊢
                    rw [e1]
                    cases eqV ((xs.toList.drop (i * s)).take s) ((ys.toList.drop (i * s)).take s)
                    · simp
                    · simpa using e2
            have e0 := key len 0 (by omega)
            simp only [Nat.zero_mul, List.drop_zero] at e0
            rw [Std.Legacy.Range.forIn_eq_forIn_range']
            simp only [Std.Legacy.Range.size, Nat.sub_zero, Nat.add_sub_cancel, Nat.div_one]
            rw [e0]
            cases eqV xs.toList ys.toList <;> simp
          · cases h
        · cases h
      | _ => simp at h


theorem eq_lits {G : Gh} : ∀ {xs ys : List AV} {vs us : List Value}, eqOk xs ys = true → RepL G xs vs → RepL G ys us → okV vs us ∧ eqV vs us = cellsEq xs ys := by
  intro xs
  induction xs with
  | nil =>
    intro ys vs us h r1 r2
    cases ys with
    | nil =>
      have hv : vs = [] := List.eq_nil_of_length_eq_zero (by simpa using r1.1.symm)
      have hu : us = [] := List.eq_nil_of_length_eq_zero (by simpa using r2.1.symm)
      subst hv hu
      exact ⟨⟨rfl, fun j u v h => by simp at h⟩, rfl⟩
    | cons => simp [eqOk] at h
  | cons x xs ih =>
    intro ys vs us h r1 r2
    cases ys with
    | nil => cases x with
      | lit v => cases v <;> simp [eqOk] at h
      | _ => simp [eqOk] at h
    | cons y ys =>
      cases x with
      | lit v =>
        cases v with
        | int k a =>
          cases y with
          | lit v' =>
            cases v' with
            | int k' b =>
              simp only [eqOk, Bool.and_eq_true, beq_iff_eq] at h
              obtain ⟨rfl, h⟩ := h
              cases vs with
              | nil => simpa using r1.1
              | cons v vs =>
                cases us with
                | nil => simpa using r2.1
                | cons u us =>
                  have e1 := rep_lit (r1.2 0 _ v rfl rfl)
                  have e2 := rep_lit (r2.2 0 _ u rfl rfl)
                  subst e1 e2
                  obtain ⟨h1, h2⟩ := ih (ys := ys) (vs := vs) (us := us) h ⟨by simpa using r1.1, fun j x v hx hv => r1.2 (j + 1) x v (by simpa using hx) (by simpa using hv)⟩ ⟨by simpa using r2.1, fun j x v hx hv => r2.2 (j + 1) x v (by simpa using hx) (by simpa using hv)⟩
                  refine ⟨⟨by simp [h1.1], fun j p q hp hq => ?_⟩, by simp [eqV, cellsEq, h2]⟩
                  cases j with
                  | zero => simp at hp hq; exact ⟨k, a, b, hp.symm, hq.symm⟩
                  | succ j => exact h1.2 j p q (by simpa using hp) (by simpa using hq)
            | _ => simp [eqOk] at h
          | _ => simp [eqOk] at h
        | _ => simp [eqOk] at h
      | _ => simp [eqOk] at h

theorem snd_eqa {o : Oper} {ρ : Operand → AV} {S : List AObj} {K : KT} {op : BinOp} {t t' : TypeId} {x y : Operand} {neg : Bool} {n m : Nat} (hop : o.op = .binOp op t x y t') (ha : aggO P t = some (some m)) (hg : P.eqGuardType P.depth t = false) (hf : flatI P 9 t = some n)
    (hn : op = if neg then .neq else .eql) (h : kEqa neg n (ρ x) (ρ y) K) : SND P o ρ S K := by
  unfold kEqa at h
  split at h
  · rename_i xs ys hx hy
    obtain ⟨hl, hok, hK⟩ := h
    refine snd_pure (fun G a w T _ hr => ⟨_, ?_, .lit _⟩) hK
    have rx := hr x (by simp [hop, Op.operands])
    have ry := hr y (by simp [hop, Op.operands])
    rw [hx] at rx
    rw [hy] at ry
    generalize e1 : a.eval x = vx at rx
    generalize e2 : a.eval y = vy at ry
    cases rx with
    | @agg _ vs h0 h2 h3 =>
      cases ry with
      | @agg _ us g0 g2 g3 =>
        obtain ⟨hv, he⟩ := eq_lits (G := G) (vs := vs.toList) (us := us.toList) hok ⟨by simpa using h0, fun j x v hx hv => h3 j x v hx (by simpa using hv)⟩ ⟨by simpa using g0, fun j x v hx hv => g3 j x v hx (by simpa using hv)⟩
        have hvs : vs.size = n := by rw [← h0]; exact hl
        have hus : us.size = n := by have := hv.1; simp at this; omega
        have heq := run_equal_flat (P := P) 9 t n (some m) hf ha (fun h => by cases h) 10000 vs us (by decide) hvs hus hv w
        simp only [aggV] at heq
        have hgd := run_eqGuard_agg (P := P) w op t x y vs us hg
        cases neg <;> simp at hn <;> subst hn <;> simp [execOp, hop, e1, e2, hgd, run_eql_struct, run_neq_struct, heq, he]
  · exact h.elim

theorem effK_sound {o : Oper} {i : I} {ρ : Operand → AV} {S : List AObj} {K : KT} (hc : compOp P o = some i) (h : effK P i ρ S K) : SND P o ρ S K := by
  unfold compOp at hc
  split at hc
  · rename_i x hop; injection hc with hc; subst hc; exact snd_mov (.inl hop) h
  · rename_i x hop; injection hc with hc; subst hc; exact snd_mov (.inr hop) h
  · rename_i c a b hop; injection hc with hc; subst hc; exact snd_pick hop h
  · rename_i e hop
    cases hz : zeroO P e with
    | none => simp [hz] at hc
    | some zs => simp [hz] at hc; subst hc; exact snd_new hop hz h
  · rename_i e x hop; injection hc with hc; subst hc; exact snd_box hop h
  · rename_i t ps hop
    split at hc
    · rename_i fs z ht hz
      split at hc
      · rename_i hfs
        cases hq : optM (fun p : Nat × Operand => (fs[p.1]?).bind fun f => (szO P f.type).map fun s => (f.offset, s, p.2)) ps.toList with
        | none => simp [hq] at hc
        | some qs => simp [hq] at hc; subst hc; exact snd_build_struct hop ht hz hfs hq h
      · cases hc
    · rename_i n e z ht hz
      cases hs : szO P e with
      | none => simp [hs] at hc
      | some s => simp [hs] at hc; subst hc; exact snd_build_array hop ht hz hs h
    · cases hc
  · rename_i t n ps hop
    split at hc
    · rename_i e ht
      split at hc
      · rename_i s z hs hz
        split at hc
        · rename_i hcond
          injection hc with hc; subst hc
          exact snd_bsl hop ht hs hz hcond.1 hcond.2.1 hcond.2.2.1 hcond.2.2.2 h
        · cases hc
      · cases hc
    · cases hc
  · rename_i t a hop
    cases hn : aggO P t with
    | none => simp [hn] at hc
    | some n => simp [hn] at hc; subst hc; exact snd_load hop hn h
  · rename_i t a x hop
    cases hn : szO P t with
    | none => simp [hn] at hc
    | some n => simp [hn] at hc; subst hc; exact snd_store hop hn h
  · rename_i x hop; injection hc with hc; subst hc; exact snd_nil hop h
  · rename_i op t x y t' hop
    split at hc
    · injection hc with hc; subst hc; exact snd_bin hop h
    · injection hc with hc; subst hc; exact snd_bin hop h
    · rename_i ht
      split at hc
      · rename_i e; injection hc with hc; subst hc; exact snd_eqb hop ht (neg := false) (by simpa using e) h
      · split at hc
        · rename_i e; injection hc with hc; subst hc; exact snd_eqb hop ht (neg := true) (by simpa using e) h
        · cases hc
    · rename_i e ht
      split at hc
      · split at hc
        · rename_i e; injection hc with hc; subst hc; exact snd_eqp hop ht (neg := false) (by simpa using e) h
        · split at hc
          · rename_i e; injection hc with hc; subst hc; exact snd_eqp hop ht (neg := true) (by simpa using e) h
          · cases hc
      · cases hc
    · rename_i fs ht
      split at hc
      · cases hc
      · rename_i hg
        have hg' : P.eqGuardType P.depth t = false := by simpa using hg
        split at hc
        · rename_i n m hf ha
          split at hc
          · rename_i e; injection hc with hc; subst hc; exact snd_eqa hop ha hg' hf (neg := false) (by simpa using e) h
          · split at hc
            · rename_i e; injection hc with hc; subst hc; exact snd_eqa hop ha hg' hf (neg := true) (by simpa using e) h
            · cases hc
        · cases hc
    · rename_i n0 e0 ht
      split at hc
      · cases hc
      · rename_i hg
        have hg' : P.eqGuardType P.depth t = false := by simpa using hg
        split at hc
        · rename_i n m hf ha
          split at hc
          · rename_i e; injection hc with hc; subst hc; exact snd_eqa hop ha hg' hf (neg := false) (by simpa using e) h
          · split at hc
            · rename_i e; injection hc with hc; subst hc; exact snd_eqa hop ha hg' hf (neg := true) (by simpa using e) h
            · cases hc
        · cases hc
    · cases hc
  · rename_i op t x hop; injection hc with hc; subst hc; exact snd_un hop h
  · rename_i src dst x hop
    split at hc
    · rename_i k0 k hs hd; injection hc with hc; subst hc; exact snd_cvt hop hs hd h
    · rename_i e hs hd
      split at hc
      · rename_i he; injection hc with hc; subst hc; exact snd_b2s hop hs he hd h
      · cases hc
    · rename_i e hs hd
      split at hc
      · rename_i he; injection hc with hc; subst hc; exact snd_s2b hop hs hd he h
      · cases hc
    · cases hc
  · rename_i t x lo hi mx hop
    split at hc
    · rename_i e ht
      cases hs : szO P e with
      | none => simp [hs] at hc
      | some s => simp [hs] at hc; subst hc; exact snd_slice hop ht hs h
    · rename_i ht
      split at hc
      · rename_i hm
        have : mx = none := by simpa using hm
        subst this
        injection hc with hc; subst hc; exact snd_sstr hop ht h
      · cases hc
    · cases hc
  · rename_i t x f hop
    split at hc
    · rename_i fs ht
      split at hc
      · rename_i fd hf
        split at hc
        · rename_i s hs
          split at hc
          · rename_i h1; injection hc with hc; subst hc; exact snd_fadr hop ht hf hs h1 h
          · cases hc
        · cases hc
      · cases hc
    · cases hc
  · rename_i t x f hop
    split at hc
    · rename_i fs ht
      split at hc
      · rename_i fd hf
        cases hn : aggO P fd.type with
        | none => simp [hn] at hc
        | some n => simp [hn] at hc; subst hc; exact snd_fld hop ht hf hn h
      · cases hc
    · cases hc
  · rename_i t x ix hop
    split at hc
    · rename_i e ht
      cases hs : szO P e with
      | none => simp [hs] at hc
      | some s => simp [hs] at hc; subst hc; exact snd_iadr hop ht hs h
    · rename_i n e ht
      cases hs : szO P e with
      | none => simp [hs] at hc
      | some s => simp [hs] at hc; subst hc; exact snd_aadr hop ht hs h
    · cases hc
  · rename_i t x ix hop
    split at hc
    · rename_i n e ht
      split at hc
      · rename_i s a hs ha; injection hc with hc; subst hc; exact snd_idx hop ht hs ha h
      · cases hc
    · rename_i ht; injection hc with hc; subst hc; exact snd_sidx hop ht h
    · cases hc
  · rename_i x i hop; injection hc with hc; subst hc; exact snd_ext hop h
  · rename_i f a b hop; injection hc with hc; subst hc; exact snd_mkf hop h
  · rename_i t l c hop
    split at hc
    · rename_i e ht
      split at hc
      · rename_i i z hi hz
        split at hc
        · rename_i hcond; injection hc with hc; subst hc; exact snd_mksl hop ht hi hz hcond.1 hcond.2 h
        · cases hc
      · cases hc
    · cases hc
  · rename_i c hop
    split at hc
    · rename_i f hcal; injection hc with hc; subst hc; exact snd_call hop hcal h
    · rename_i hcal
      split at hc
      · rename_i t t' s x hat ha
        split at hc
        · rename_i e ht
          split at hc
          · rename_i i z hi hz
            split at hc
            · rename_i hcond
              obtain ⟨rfl, h1, h2, h3⟩ := hcond
              injection hc with hc; subst hc
              exact snd_app hop hcal ha hat ht hi hz h1 h2 h3 h
            · cases hc
          · cases hc
        · cases hc
      · cases hc
    · rename_i hcal
      split at hc
      · rename_i t x hat ha
        split at hc
        · rename_i e ht; injection hc with hc; subst hc; exact snd_len hop hcal ha hat ht h
        · rename_i ht; injection hc with hc; subst hc; exact snd_lens hop hcal ha hat ht h
        · rename_i n e ht; injection hc with hc; subst hc; exact snd_lenc hop hcal ha hat ht h
        · cases hc
      · cases hc
    · rename_i hcal
      split at hc
      · rename_i x y ha; injection hc with hc; subst hc; exact snd_mx (isMax := true) (_t := 0) hop hcal ha h
      · cases hc
    · rename_i hcal
      split at hc
      · rename_i x y ha; injection hc with hc; subst hc; exact snd_mx (isMax := false) (_t := 0) hop hcal ha h
      · cases hc
    · cases hc
  · cases hc

end
end Go.Proofs.Ytgphhganepjaiaa
