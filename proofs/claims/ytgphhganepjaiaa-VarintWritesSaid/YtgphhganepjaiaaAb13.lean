/-
  Regions over abstract values, in whatever order is drawn. Over any program.
-/
import Derived.Test.YtgphhganepjaiaaAb12
namespace Go.Proofs.Ytgphhganepjaiaa

def dirs (o : Oper) : List Nat := (o.after.toList.filter fun e => Region.binds .any e).map (·.on)
/-- What stands ahead of each operation, through others too: a row of bits. -/
def befL : List Oper → List Nat → List Nat
  | [], acc => acc
  | o :: os, acc => befL os (acc ++ [(dirs o).foldl (fun s e => s ||| 2 ^ e ||| acc.getD e 0) 0])
def tmpsOf (xs : List Operand) : List Nat := xs.filterMap fun | .tmp t => some t | _ => none
def namesOf (o : Oper) (c : RO) : List Nat := tmpsOf o.op.operands.toList ++ o.dst.toList ++ (match c.1 with | some (t, _) => [t] | none => [])
def apartB (o : Oper) (c : RO) (o' : Oper) (c' : RO) : Bool :=
  (match o.dst with | some d => !(namesOf o' c').contains d | none => true) && (match o'.dst with | some d => !(namesOf o c).contains d | none => true)
/-- All pairs of places. -/
def pairs (n : Nat) : List (Nat × Nat) := (List.range n).flatMap fun k => (List.range k).map fun i => (i, k)
def unord (n : Nat) (bef : List Nat) : List (Nat × Nat) := (pairs n).filter fun p => !(bef.getD p.2 0).testBit p.1
def touchB (cs : List RO) (i : Nat) : Bool := match cs[i]? with | some c => tch c.2.1 | none => false
def slotsOk (ops : List Oper) (cs : List RO) (u : List (Nat × Nat)) : Bool :=
  u.all fun p => match ops[p.1]?, cs[p.1]?, ops[p.2]?, cs[p.2]? with
    | some o, some c, some o', some c' => apartB o c o' c'
    | _, _, _, _ => true
def compReg (P : Program) (ops : Array Oper) (draw : Bool) : Option (List RO × List (Nat × Nat)) :=
  match compOps P ops with
  | none => none
  | some cs => if draw then
      let u := unord ops.size (befL ops.toList [])
      if P.follows .mixedOrders && (ops.toList.zipIdx.all fun p => (dirs p.1).all (· < p.2)) && slotsOk ops.toList cs u then some (cs, u.filter fun p => touchB cs p.1 && touchB cs p.2) else none
    else some (cs, [])

theorem mem_pairs {n i k : Nat} (h : i < k) (hk : k < n) : (i, k) ∈ pairs n := by
  simp only [pairs, List.mem_flatMap, List.mem_range, List.mem_map]
  exact ⟨k, hk, i, h, rfl⟩

/-- What is set is set, and all that stands ahead. -/
theorem befL_closed (D : Nat → Prop) : ∀ (os : List Oper) (acc : List Nat), (∀ (k : Nat) (o : Oper), os[k]? = some o → D (acc.length + k) → ∀ e ∈ dirs o, D e) → (∀ k, k < acc.length → D k → ∀ i, (acc.getD k 0).testBit i = true → D i) →
    ∀ k, k < acc.length + os.length → D k → ∀ i, ((befL os acc).getD k 0).testBit i = true → D i := by
  intro os
  induction os with
  | nil => intro acc _ h k hk; exact h k (by simpa using hk)
  | cons o os ih =>
    intro acc hd h k hk hDk i hi
    simp only [befL] at hi
    refine ih (acc ++ [(dirs o).foldl (fun s e => s ||| 2 ^ e ||| acc.getD e 0) 0]) (fun k o' ho hD => hd (k + 1) o' (by simpa using ho) (by rw [← Nat.add_assoc, Nat.add_right_comm]; simpa using hD)) (fun k' hk' hD' j hj => ?_) k (by simp at hk ⊢; omega) hDk i hi
    by_cases e : k' < acc.length
    · refine h k' e hD' j ?_
      simpa [List.getElem?_append_left e] using hj
    · have hk0 : k' = acc.length := by simp at hk'; omega
      subst hk0
      have hj' : ((dirs o).foldl (fun s e => s ||| 2 ^ e ||| acc.getD e 0) 0).testBit j = true := by simpa using hj
      have hdir := hd 0 o rfl (by simpa using hD')
      have key : ∀ (l : List Nat) (s : Nat), (∀ e ∈ l, D e) → (l.foldl (fun s e => s ||| 2 ^ e ||| acc.getD e 0) s).testBit j = true → s.testBit j = true ∨ D j := by
        intro l
        induction l with
        | nil => intro s _ h; exact .inl h
        | cons e l ihl =>
          intro s hl hs
          rcases ihl _ (fun x hx => hl x (by simp [hx])) hs with h1 | h1
          · rw [Nat.testBit_or, Nat.testBit_or] at h1
            simp only [Bool.or_eq_true] at h1
            rcases h1 with (h1 | h1) | h1
            · exact .inl h1
            · rw [Nat.testBit_two_pow] at h1
              have : e = j := by simpa using h1
              subst this; exact .inr (hl e (by simp))
            · right
              by_cases hea : e < acc.length
              · exact h e hea (hl e (by simp)) j h1
              · simp [List.getElem?_eq_none (Nat.le_of_not_lt hea)] at h1
          · exact .inr h1
      rcases key (dirs o) 0 hdir hj' with h1 | h1
      · simp at h1
      · exact h1

/-- The last one that is done and has a value. -/
def lastW {α : Type} (D : Nat → Bool) (f : Nat → Option α) : Nat → Option α
  | 0 => none
  | n + 1 => if D n then (match f n with | some v => some v | none => lastW D f n) else lastW D f n
theorem lastW_congr {α : Type} {D D' : Nat → Bool} {f : Nat → Option α} : ∀ {n : Nat}, (∀ i, i < n → f i ≠ none → D i = D' i) → lastW D f n = lastW D' f n := by
  intro n
  induction n with
  | zero => intro _; rfl
  | succ n ih =>
    intro h
    have e := ih fun i hi => h i (by omega)
    simp only [lastW]
    cases hf : f n with
    | none => simp [e]
    | some v => rw [h n (by omega) (by simp [hf]), e]
theorem lastW_cut {α : Type} {D : Nat → Bool} {f : Nat → Option α} {j : Nat} : ∀ {n : Nat}, j ≤ n → (∀ i, j ≤ i → i < n → f i ≠ none → D i = false) → lastW D f n = lastW D f j := by
  intro n
  induction n with
  | zero => intro h _; have : j = 0 := by omega
            subst this; rfl
  | succ n ih =>
    intro hj h
    by_cases e : j = n + 1
    · subst e; rfl
    · simp only [lastW]
      rw [← ih (by omega) fun i h1 h2 => h i h1 (by omega)]
      cases hf : f n with
      | none => simp
      | some v => simp [h n (by omega) (by omega) (by simp [hf])]
theorem lastW_none {α : Type} {D : Nat → Bool} {f : Nat → Option α} : ∀ {n : Nat}, (∀ i, i < n → D i = true → f i = none) → lastW D f n = none := by
  intro n
  induction n with
  | zero => intro _; rfl
  | succ n ih =>
    intro h
    simp only [lastW, ih fun i hi => h i (by omega)]
    cases hD : D n with
    | true => simp [h n (by omega) hD]
    | false => simp
theorem lastW_top {α : Type} {D : Nat → Bool} {f : Nat → Option α} {j : Nat} {v : α} {n : Nat} (hj : j < n) (hD : D j = true) (hf : f j = some v) (h : ∀ i, j < i → i < n → f i ≠ none → D i = false) : lastW D f n = some v := by
  rw [lastW_cut (j := j + 1) (by omega) fun i h1 h2 h3 => h i (by omega) h2 h3]
  simp [lastW, hD, hf]

def orW {α : Type} : Option α → Option α → Option α
  | some x, _ => some x
  | none, y => y

section
variable {dst : Nat → Option Nat} {r : Nat → RecR} {tm : List AV} {S : List AObj}
def fT (dst : Nat → Option Nat) (r : Nat → RecR) (t i : Nat) : Option AV := if dst i = some t then some (r i).v else none
def wids (r : Nat → RecR) (S : List AObj) (i : Nat) : List (Nat × AObj) := (r i).upd ++ newU (sS r S i).length (r i).new
def fS (r : Nat → RecR) (S : List AObj) (q i : Nat) : Option AObj := if q ∈ (wids r S i).map (·.1) then (sS r S (i + 1))[q]? else none

theorem sT_length (i : Nat) : (sT dst r tm i).length = tm.length := by
  induction i with
  | zero => rfl
  | succ i ih => simp only [sT, setD]; split <;> simp [ih]
theorem sT_at (t i : Nat) : (sT dst r tm i)[t]? = if t < tm.length then orW (lastW (fun _ => true) (fT dst r t) i) tm[t]? else none := by
  induction i with
  | zero =>
    simp only [sT, lastW, orW]
    split
    · rfl
    · exact List.getElem?_eq_none (by omega)
  | succ i ih =>
    simp only [sT, lastW, fT, if_true]
    cases hd : dst i with
    | none => simpa [setD] using ih
    | some d =>
      simp only [setD]
      by_cases e : d = t
      · subst e
        by_cases hlt : d < tm.length
        · simp [hlt, orW, sT_length]
        · rw [if_neg hlt]; exact List.getElem?_eq_none (by simp [sT_length]; omega)
      · rw [List.getElem?_set_ne e, ih]
        simp [e]
theorem sS_mono (i j : Nat) (h : i ≤ j) : (sS r S i).length ≤ (sS r S j).length := by
  induction j with
  | zero => have : i = 0 := by omega
            subst this; exact Nat.le_refl _
  | succ j ih =>
    by_cases e : i = j + 1
    · subst e; exact Nat.le_refl _
    · have := ih (by omega)
      simp only [sS, List.length_append, updL_length]; omega
/-- The places that an operation turns or fills lie below what it leaves. -/
theorem wids_lt {i : Nat} (hu : ∀ p ∈ (r i).upd, p.1 < (sS r S i).length) {q : Nat} (hq : q ∈ (wids r S i).map (·.1)) : q < (sS r S (i + 1)).length := by
  simp only [wids, List.map_append, List.mem_append, List.mem_map] at hq
  simp only [sS, List.length_append, updL_length]
  rcases hq with ⟨p, hp, rfl⟩ | ⟨p, hp, rfl⟩
  · have := hu p hp; omega
  · have := (newU_mem hp).2.1; omega
theorem updL_same (T T' : List AObj) (u : List (Nat × AObj)) {q : Nat} (hq : q ∈ u.map (·.1)) (h : q < T.length) (h' : q < T'.length) : (updL T u)[q]? = (updL T' u)[q]? := by
  induction u generalizing T T' with
  | nil => simp at hq
  | cons p u ih =>
    simp only [updL_cons]
    by_cases e : q ∈ u.map (·.1)
    · exact ih _ _ e (by simpa using h) (by simpa using h')
    · simp only [List.map_cons, List.mem_cons] at hq
      rcases hq with rfl | hq
      · rw [updL_other _ _ _ e, updL_other _ _ _ e]; simp [h, h']
      · exact (e hq).elim
theorem sS_step (i : Nat) (hu : ∀ p ∈ (r i).upd, p.1 < (sS r S i).length) : updL (sS r S i ++ List.replicate (r i).new.length .dead) (wids r S i) = sS r S (i + 1) := by
  simp only [wids, sS]
  rw [updL_append, updL_left _ _ _ hu, updL_new _ _ _ (by simp)]
theorem sS_at (n : Nat) (hu : ∀ i, i < n → ∀ p ∈ (r i).upd, p.1 < (sS r S i).length) (q : Nat) : (sS r S n)[q]? = orW (lastW (fun _ => true) (fS r S q) n) S[q]? := by
  induction n with
  | zero => rfl
  | succ i ih =>
    have hi := hu i (by omega)
    simp only [lastW, if_true]
    by_cases hq : q ∈ (wids r S i).map (·.1)
    · have hlt := wids_lt hi hq
      have e : fS r S q i = some ((sS r S (i + 1))[q]'hlt) := by simp [fS, hq]
      rw [e]; simp [orW]
    · have e : fS r S q i = none := by simp [fS, hq]
      rw [e]
      show _ = orW (lastW (fun _ => true) (fS r S q) i) S[q]?
      rw [← ih fun j hj => hu j (by omega)]
      have hstep := sS_step (r := r) (S := S) i hi
      rw [← hstep, updL_other _ _ _ hq]
      by_cases hlt : q < (sS r S i).length
      · rw [List.getElem?_append_left hlt]
      · rw [List.getElem?_append_right (by omega), List.getElem?_eq_none (show (sS r S i).length ≤ q by omega), List.getElem?_replicate]
        rw [if_neg]
        intro hcon
        apply hq
        have hmem : ∀ (l : List AObj) (n q : Nat), n ≤ q → q < n + l.length → q ∈ (newU n l).map (·.1) := by
          intro l
          induction l with
          | nil => intro n q h1 h2; simp at h2; omega
          | cons o l ihl =>
            intro n q h1 h2
            simp only [newU, List.map_cons, List.mem_cons]
            by_cases e : q = n
            · exact .inl e
            · exact .inr (ihl (n + 1) q (by omega) (by simp at h2; omega))
        simp only [wids, List.map_append, List.mem_append]
        exact .inr (hmem _ _ q (by omega) (by omega))
end

end Go.Proofs.Ytgphhganepjaiaa
