/-
  The code of a function over abstract values; contracts out of it. Over any program.
-/
import Derived.Test.YtgphhganepjaiaaAb14
namespace Go.Proofs.Ytgphhganepjaiaa

inductive C where
  | skip
  | reg (ops : List RO) (u : List (Nat × Nat))
  | seq (a b : C)
  | cond (c : Operand) (a b : C)
  | block (id : Nat) (c : C)
  | loop (c : C)
  | exit (id : Nat)
  | scope (c : C)
  | label (l : Nat)
  | goto (l : Nat)
  | ret
def compC (P : Program) : Code → Option C
  | .skip => some .skip
  | .region _ ops draw => (compReg P ops draw).map fun p => .reg p.1 p.2
  | .seq a b => match compC P a, compC P b with
    | some x, some y => some (.seq x y)
    | _, _ => none
  | .cond c a b => match compC P a, compC P b with
    | some x, some y => some (.cond c x y)
    | _, _ => none
  | .block id c => (compC P c).map (.block id)
  | .loop c => (compC P c).map .loop
  | .exit id => some (.exit id)
  | .scope c => (compC P c).map .scope
  | .label l => some (.label l)
  | .goto l => some (.goto l)
  | .ret => some .ret
  | _ => none

abbrev QT := Exit → List AV → List AObj → Prop

/-- What is borne so is borne so, too (m: how many objects there were at the beginning). -/
def Wk (m : Nat) (tm : List AV) (S : List AObj) (tm' : List AV) (S' : List AObj) : Prop :=
  ∀ G0 S0 w0 G a w, S0.length = m → Cz G0 S0 w0 tm S G a w → ∃ G', Cz G0 S0 w0 tm' S' G' a w
theorem Wk.refl (m : Nat) (tm : List AV) (S : List AObj) : Wk m tm S tm S := fun _ _ _ G _ _ _ h => ⟨G, h⟩
theorem Wk.trans {m : Nat} {tm tm' tm'' : List AV} {S S' S'' : List AObj} (h : Wk m tm S tm' S') (k : Wk m tm' S' tm'' S'') : Wk m tm S tm'' S'' := fun G0 S0 w0 G a w e hz => by
  obtain ⟨G', h'⟩ := h G0 S0 w0 G a w e hz
  exact k G0 S0 w0 G' a w e h'

/-- Code that bears its meaning. -/
def AC (P : Program) (m : Nat) (code : Code) (tm : List AV) (S : List AObj) (Q : QT) : Prop :=
  ∀ G0 S0 w0 G a w, S0.length = m → Cz G0 S0 w0 tm S G a w → code.wp P (fun e a' w' => ∃ tm' S' G', Cz G0 S0 w0 tm' S' G' a' w' ∧ Q e tm' S') a w

def qThen (k : List AV → List AObj → Prop) (Q : QT) : QT
  | .normal, tm, S => k tm S
  | e, tm, S => Q e tm S
def qBlock (id : Nat) (Q : QT) : QT
  | .exit id', tm, S => if id' = id then Q .normal tm S else Q (.exit id') tm S
  | e, tm, S => Q e tm S

/-- What a piece of code does, seen over abstract values. -/
def aw (P : Program) (m : Nat) : C → List AV → List AObj → QT → Prop
  | .skip, tm, S, Q => Q .normal tm S
  | .reg ops u, tm, S, Q => aReg P ops u [] tm S (Q .normal)
  | .seq a b, tm, S, Q => aw P m a tm S (qThen (fun tm S => aw P m b tm S Q) Q)
  | .cond c a b, tm, S, Q => match ev tm c with
    | .lit (.bool t) => (t = true → aw P m a tm S Q) ∧ (t = false → aw P m b tm S Q)
    | _ => False
  | .block id c, tm, S, Q => aw P m c tm S (qBlock id Q)
  | .loop c, tm, S, Q => ∃ I : Nat → List AV → List AObj → Prop, (∃ n tm' S', Wk m tm S tm' S' ∧ I n tm' S') ∧ ∀ n tm S, I n tm S → aw P m c tm S (qThen (fun tm' S' => ∃ n' tm'' S'', Wk m tm' S' tm'' S'' ∧ I n' tm'' S'' ∧ n' < n) Q)
  | .exit id, tm, S, Q => Q (.exit id) tm S
  | .scope c, tm, S, Q => ∀ code, compC P code = some c → AC P m (.scope code) tm S Q
  | .label _, tm, S, Q => ∃ tm' S', Wk m tm S tm' S' ∧ Q .normal tm' S'
  | .goto l, tm, S, Q => Q (.goto l) tm S
  | .ret, tm, S, Q => Q .ret tm S

theorem aw_sound {P : Program} {m : Nat} : ∀ (code : Code) (c : C), compC P code = some c → ∀ (tm : List AV) (S : List AObj) (Q : QT), aw P m c tm S Q → AC P m code tm S Q := by
  intro code
  induction code with
  | skip =>
    intro c hc tm S Q h G0 S0 w0 G a w hm hz
    simp only [compC] at hc; injection hc with hc; subst hc
    exact wp_skip ⟨_, _, G, hz, h⟩
  | region id ops draw =>
    intro c hc tm S Q h G0 S0 w0 G a w hm hz
    simp only [compC] at hc
    cases hr : compReg P ops draw with
    | none => simp [hr] at hc
    | some p =>
      obtain ⟨cs, u⟩ := p
      simp [hr] at hc; subst hc
      cases draw with
      | true => exact reg_draw hr hz h _ fun tm' S' G' a' w' hz' hq => ⟨_, _, G', hz', hq⟩
      | false =>
        simp only [compReg] at hr
        cases hcs : compOps P ops with
        | none => simp [hcs] at hr
        | some cs' =>
          simp [hcs] at hr
          obtain ⟨rfl, rfl⟩ := hr
          exact reg_text hcs hz h _ fun tm' S' G' a' w' hz' hq => ⟨_, _, G', hz', hq⟩
  | seq a b iha ihb =>
    intro c hc tm S Q h G0 S0 w0 G act w hm hz
    simp only [compC] at hc
    split at hc
    · rename_i x y hx hy
      injection hc with hc; subst hc
      refine wp_seq (wp_mono (iha x hx tm S _ h G0 S0 w0 G act w hm hz) fun e a' w' hq => ?_)
      obtain ⟨tm', S', G', hz', hq⟩ := hq
      cases e with
      | normal => exact ihb y hy tm' S' Q hq G0 S0 w0 G' a' w' hm hz'
      | _ => exact ⟨tm', S', G', hz', hq⟩
    · cases hc
  | cond x a b iha ihb =>
    intro c hc tm S Q h G0 S0 w0 G act w hm hz
    simp only [compC] at hc
    split at hc
    · rename_i x' y hx hy
      injection hc with hc; subst hc
      simp only [aw] at h
      split at h
      · rename_i t ht
        have r := hz.ev x
        rw [ht] at r
        refine wp_cond (rep_bool r) ?_
        cases t with
        | true => exact iha x' hx tm S Q (h.1 rfl) G0 S0 w0 G act w hm hz
        | false => exact ihb y hy tm S Q (h.2 rfl) G0 S0 w0 G act w hm hz
      · exact h.elim
    · cases hc
  | block id b ih =>
    intro c hc tm S Q h G0 S0 w0 G a w hm hz
    simp only [compC] at hc
    cases hb : compC P b with
    | none => simp [hb] at hc
    | some x =>
      simp [hb] at hc; subst hc
      refine wp_block (wp_mono (ih x hb tm S _ h G0 S0 w0 G a w hm hz) fun e a' w' hq => ?_)
      obtain ⟨tm', S', G', hz', hq⟩ := hq
      cases e with
      | exit id' =>
        simp only [qBlock] at hq
        simp only [Exit.inBlock]
        split
        · rename_i e; rw [if_pos e] at hq; exact ⟨tm', S', G', hz', hq⟩
        · rename_i e; rw [if_neg e] at hq; exact ⟨tm', S', G', hz', hq⟩
      | _ => exact ⟨tm', S', G', hz', hq⟩
  | loop b ih =>
    intro c hc tm S Q h G0 S0 w0 G a w hm hz
    simp only [compC] at hc
    cases hb : compC P b with
    | none => simp [hb] at hc
    | some x =>
      simp [hb] at hc; subst hc
      obtain ⟨I, ⟨n0, tm0, S1, hw0, h0⟩, hround⟩ := h
      obtain ⟨G1, hz1⟩ := hw0 G0 S0 w0 G a w hm hz
      -- the measure of a frame is the least of what it bears
      have key : ∀ (n : Nat) (tm : List AV) (S : List AObj) (G : Gh) (a : Act) (w : World), I n tm S → Cz G0 S0 w0 tm S G a w →
          ∀ (b' : Frame) (k : List Item) (cs : List Frame), ∃ e a' w', (∃ tm' S' G', Cz G0 S0 w0 tm' S' G' a' w' ∧ Q e tm' S') ∧ Arrives P (lone (b'.at a (.code b :: .inLoop b :: k)) cs w) b' k cs e a' w' := by
        intro n
        induction n using Nat.strongRecOn with
        | _ n ihn =>
          intro tm S G a w hI hz b' k cs
          obtain ⟨e, a₁, w₁, ⟨tm', S', G', hz', hq⟩, harr⟩ := ih x hb tm S _ (hround n tm S hI) G0 S0 w0 G a w hm hz b' (.inLoop b :: k) cs
          cases e with
          | normal =>
            obtain ⟨n', tm'', S'', hwk, hI', hlt⟩ := hq
            obtain ⟨G'', hz''⟩ := hwk G0 S0 w0 G' a₁ w₁ hm hz'
            obtain ⟨e₂, a₂, w₂, hq₂, harr₂⟩ := ihn n' hlt tm'' S'' G'' a₁ w₁ hI' hz'' b' k cs
            exact ⟨e₂, a₂, w₂, hq₂, .of_steps (Steps.trans harr (.one step_inLoop)) harr₂⟩
          | exit id => exact ⟨_, a₁, w₁, ⟨tm', S', G', hz', hq⟩, .pass (x := .inLoop b) rfl (fun _ _ => .inl (by simp)) harr⟩
          | goto l => exact ⟨_, a₁, w₁, ⟨tm', S', G', hz', hq⟩, .pass (x := .inLoop b) rfl (fun _ _ => .inl (by simp)) harr⟩
          | ret => exact ⟨_, a₁, w₁, ⟨tm', S', G', hz', hq⟩, .pass (x := .inLoop b) rfl (fun _ _ => .inl (by simp)) harr⟩
          | panic ch => exact ⟨_, a₁, w₁, ⟨tm', S', G', hz', hq⟩, .pass (x := .inLoop b) rfl (fun _ _ => .inl (by simp)) harr⟩
          | outgrown => exact ⟨_, a₁, w₁, ⟨tm', S', G', hz', hq⟩, .pass (x := .inLoop b) rfl (fun _ _ => .inl (by simp)) harr⟩
      intro b' k cs
      obtain ⟨e, a', w', hq, harr⟩ := key n0 tm0 S1 G1 a w h0 hz1 b' k cs
      exact ⟨e, a', w', hq, .of_steps (.one step_loop) harr⟩
  | exit id =>
    intro c hc tm S Q h G0 S0 w0 G a w hm hz
    simp only [compC] at hc; injection hc with hc; subst hc
    exact wp_exit ⟨_, _, G, hz, h⟩
  | scope b ih =>
    intro c hc tm S Q h
    simp only [compC] at hc
    cases hb : compC P b with
    | none => simp [hb] at hc
    | some x => simp [hb] at hc; subst hc; exact h b hb
  | label l =>
    intro c hc tm S Q h G0 S0 w0 G a w hm hz
    simp only [compC] at hc; injection hc with hc; subst hc
    obtain ⟨tm', S', hwk, hq⟩ := h
    obtain ⟨G', hz'⟩ := hwk G0 S0 w0 G a w hm hz
    exact wp_label ⟨_, _, G', hz', hq⟩
  | goto l =>
    intro c hc tm S Q h G0 S0 w0 G a w hm hz
    simp only [compC] at hc; injection hc with hc; subst hc
    exact wp_goto ⟨_, _, G, hz, h⟩
  | ret =>
    intro c hc tm S Q h G0 S0 w0 G a w hm hz
    simp only [compC] at hc; injection hc with hc; subst hc
    exact wp_ret ⟨_, _, G, hz, h⟩
  | rangeFunc f ps x y _ _ => intro c hc; simp [compC] at hc
  | refuse s => intro c hc; simp [compC] at hc

/-- What stands behind a label. -/
def findC : C → Nat → Option C
  | .seq a b, l => match findC a l with
    | some r => some (.seq r b)
    | none => findC b l
  | .label l', l => if l' == l then some .skip else none
  | _, _ => none
theorem findC_comp {P : Program} : ∀ (code : Code) (c : C) (l : Nat), compC P code = some c → (∀ r, findC c l = some r → ∃ rest, findLabel code l = some rest ∧ compC P rest = some r) ∧ (findC c l = none → findLabel code l = none) := by
  intro code
  induction code with
  | seq a b iha ihb =>
    intro c l hc
    simp only [compC] at hc
    split at hc
    · rename_i x y hx hy
      injection hc with hc; subst hc
      obtain ⟨a1, a2⟩ := iha x l hx
      obtain ⟨b1, b2⟩ := ihb y l hy
      simp only [findC, findLabel]
      cases hfa : findC x l with
      | some r =>
        obtain ⟨rest, h1, h2⟩ := a1 r hfa
        refine ⟨fun r' h => ?_, fun h => by cases h⟩
        injection h with h; subst h
        exact ⟨.seq rest b, by rw [h1], by simp [compC, h2, hy]⟩
      | none =>
        rw [a2 hfa]
        exact ⟨fun r' h => b1 r' h, fun h => b2 h⟩
    · cases hc
  | label l' =>
    intro c l hc
    simp only [compC] at hc; injection hc with hc; subst hc
    simp only [findC, findLabel]
    split
    · exact ⟨fun r h => ⟨.skip, rfl, by injection h with h; subst h; rfl⟩, fun h => by cases h⟩
    · exact ⟨fun r h => (by cases h), fun _ => rfl⟩
  | skip => intro c l hc; simp only [compC] at hc; injection hc with hc; subst hc; exact ⟨fun r h => (by cases h), fun _ => rfl⟩
  | region id ops d =>
    intro c l hc
    simp only [compC] at hc
    cases hr : compReg P ops d with
    | none => simp [hr] at hc
    | some p => simp [hr] at hc; subst hc; exact ⟨fun r h => (by cases h), fun _ => rfl⟩
  | cond x a b _ _ =>
    intro c l hc
    simp only [compC] at hc
    split at hc
    · injection hc with hc; subst hc; exact ⟨fun r h => (by cases h), fun _ => rfl⟩
    · cases hc
  | block id b _ =>
    intro c l hc
    simp only [compC] at hc
    cases hb : compC P b with
    | none => simp [hb] at hc
    | some p => simp [hb] at hc; subst hc; exact ⟨fun r h => (by cases h), fun _ => rfl⟩
  | loop b _ =>
    intro c l hc
    simp only [compC] at hc
    cases hb : compC P b with
    | none => simp [hb] at hc
    | some p => simp [hb] at hc; subst hc; exact ⟨fun r h => (by cases h), fun _ => rfl⟩
  | scope b _ =>
    intro c l hc
    simp only [compC] at hc
    cases hb : compC P b with
    | none => simp [hb] at hc
    | some p => simp [hb] at hc; subst hc; exact ⟨fun r h => (by cases h), fun _ => rfl⟩
  | exit id => intro c l hc; simp only [compC] at hc; injection hc with hc; subst hc; exact ⟨fun r h => (by cases h), fun _ => rfl⟩
  | goto id => intro c l hc; simp only [compC] at hc; injection hc with hc; subst hc; exact ⟨fun r h => (by cases h), fun _ => rfl⟩
  | ret => intro c l hc; simp only [compC] at hc; injection hc with hc; subst hc; exact ⟨fun r h => (by cases h), fun _ => rfl⟩
  | rangeFunc f ps x y _ _ => intro c l hc; simp [compC] at hc
  | refuse s => intro c l hc; simp [compC] at hc

def qGoto (m : Nat) (J : Nat → List AV → List AObj → Prop) (Q : QT) : QT
  | .goto l, tm, S => ∃ tm' S', Wk m tm S tm' S' ∧ J l tm' S'
  | e, tm, S => Q e tm S
/-- A scope in which the run jumps. -/
theorem scope_rule {P : Program} {m : Nat} {c : C} {tm : List AV} {S : List AObj} {Q : QT} (J : Nat → Nat → List AV → List AObj → Prop) (first : aw P m c tm S (qGoto m (fun l tm S => ∃ n, J n l tm S) Q))
    (pass : ∀ n l tm S, J n l tm S → ∃ r, findC c l = some r ∧ aw P m r tm S (qGoto m (fun l' tm' S' => ∃ n', J n' l' tm' S' ∧ n' < n) Q)) : aw P m (.scope c) tm S Q := by
  intro code hc G0 S0 w0 G a w hm hz
  have key : ∀ (n : Nat) (l : Nat) (tm : List AV) (S : List AObj) (G : Gh) (a : Act) (w : World), J n l tm S → Cz G0 S0 w0 tm S G a w → ∃ rest, findLabel code l = some rest ∧
      ∀ (b : Frame) (k : List Item) (cs : List Frame), ∃ e a' w', (∃ tm' S' G', Cz G0 S0 w0 tm' S' G' a' w' ∧ Q e tm' S') ∧ Arrives P (lone (b.at a (.code rest :: .inScope code :: k)) cs w) b k cs e a' w' := by
    intro n
    induction n using Nat.strongRecOn with
    | _ n ih =>
      intro l tm S G a w hJ hz
      obtain ⟨r, hr, hpass⟩ := pass n l tm S hJ
      obtain ⟨rest, hrest, hcr⟩ := (findC_comp code c l hc).1 r hr
      refine ⟨rest, hrest, fun b k cs => ?_⟩
      obtain ⟨e, a₁, w₁, ⟨tm', S', G', hz', hq⟩, harr⟩ := aw_sound rest r hcr tm S _ hpass G0 S0 w0 G a w hm hz b (.inScope code :: k) cs
      cases e with
      | normal => exact ⟨.normal, a₁, w₁, ⟨tm', S', G', hz', hq⟩, Steps.trans harr (.one step_inScope)⟩
      | exit id => exact ⟨.exit id, a₁, w₁, ⟨tm', S', G', hz', hq⟩, fun k' hk => harr k' (by simp [exitTo, hk])⟩
      | goto l' =>
        obtain ⟨tm'', S'', hwk, n', hJ', hlt⟩ := hq
        obtain ⟨G'', hz''⟩ := hwk G0 S0 w0 G' a₁ w₁ hm hz'
        obtain ⟨rest', hrest', hgo⟩ := ih n' hlt l' tm'' S'' G'' a₁ w₁ hJ' hz''
        obtain ⟨e₂, a₂, w₂, hq₂, harr₂⟩ := hgo b k cs
        exact ⟨e₂, a₂, w₂, hq₂, .of_steps (harr _ (by simp [gotoIn, hrest'])) harr₂⟩
      | ret => exact ⟨_, a₁, w₁, ⟨tm', S', G', hz', hq⟩, harr⟩
      | panic ch => exact ⟨_, a₁, w₁, ⟨tm', S', G', hz', hq⟩, harr⟩
      | outgrown => exact ⟨_, a₁, w₁, ⟨tm', S', G', hz', hq⟩, harr⟩
  intro b k cs
  obtain ⟨e, a₁, w₁, ⟨tm', S', G', hz', hq⟩, harr⟩ := aw_sound code c hc tm S _ first G0 S0 w0 G a w hm hz b (.inScope code :: k) cs
  cases e with
  | normal => exact ⟨.normal, a₁, w₁, ⟨tm', S', G', hz', hq⟩, .head step_scope (Steps.trans harr (.one step_inScope))⟩
  | exit id => exact ⟨.exit id, a₁, w₁, ⟨tm', S', G', hz', hq⟩, fun k' hk => .head step_scope (harr k' (by simp [exitTo, hk]))⟩
  | goto l' =>
    obtain ⟨tm'', S'', hwk, n', hJ'⟩ := hq
    obtain ⟨G'', hz''⟩ := hwk G0 S0 w0 G' a₁ w₁ hm hz'
    obtain ⟨rest', hrest', hgo⟩ := key n' l' tm'' S'' G'' a₁ w₁ hJ' hz''
    obtain ⟨e₂, a₂, w₂, hq₂, harr₂⟩ := hgo b k cs
    exact ⟨e₂, a₂, w₂, hq₂, .of_steps (.head step_scope (harr _ (by simp [gotoIn, hrest']))) harr₂⟩
  | ret => exact ⟨_, a₁, w₁, ⟨tm', S', G', hz', hq⟩, .of_steps (.one step_scope) harr⟩
  | panic ch => exact ⟨_, a₁, w₁, ⟨tm', S', G', hz', hq⟩, .of_steps (.one step_scope) harr⟩
  | outgrown => exact ⟨_, a₁, w₁, ⟨tm', S', G', hz', hq⟩, .of_steps (.one step_scope) harr⟩

/-- Where a function's results stand. -/
inductive RV where
  | tmp (t : Nat)
  | cell (t : Nat) (n : Option Nat)
def compR (P : Program) (fn : Func) : Option (List RV) :=
  optM (fun r : ResultVar => match r with
    | .tmp t => some (.tmp t)
    | .cell a t => (aggO P t).map fun n => .cell a n) fn.results.toList
def loadA (n : Option Nat) (x : AV) (S : List AObj) : Option AV :=
  match x with
  | .iptr cs => match n with
    | none => cs.head?
    | some n => if n ≤ cs.length then some (.agg (cs.take n)) else none
  | .ref i o => match S[i]? with
    | some (.cells xs) => match n with
      | none => xs[o]?
      | some n => if o + n ≤ xs.length then some (.agg ((xs.drop o).take n)) else none
    | _ => none
  | _ => none
def resA1 (tm : List AV) (S : List AObj) : RV → Option AV
  | .tmp t => some (tm.getD t .any)
  | .cell t n => loadA n (tm.getD t .any) S
def resAL (tm : List AV) (S : List AObj) : List RV → Option (List AV)
  | [] => some []
  | r :: rs => match resA1 tm S r, resAL tm S rs with
    | some x, some xs => some (x :: xs)
    | _, _ => none
def oneOr (xs : List AV) : AV := match xs with
  | [x] => x
  | xs => .tup xs

def FinK (P : Program) (m : Nat) (fn : Func) (tm : List AV) (S : List AObj) (r : AV) (S' : List AObj) : Prop :=
  ∀ G0 S0 w0 G a w, S0.length = m → Cz G0 S0 w0 tm S G a w → ∃ v G', (results fn a.tmps).run P w = .ok v w ∧ Rep G' r v ∧ Left G0 S0 w0 G' S' w

theorem FinK.wk {P : Program} {m : Nat} {fn : Func} {tm tm' : List AV} {S S' S'' : List AObj} {r : AV} (h : Wk m tm S tm' S') (k : FinK P m fn tm' S' r S'') : FinK P m fn tm S r S'' := fun G0 S0 w0 G a w e hz => by
  obtain ⟨G', h'⟩ := h G0 S0 w0 G a w e hz
  exact k G0 S0 w0 G' a w e h'

theorem run_loadA {P : Program} {t : TypeId} {n : Option Nat} (hn : aggO P t = some n) {G : Gh} {S : List AObj} {w : World} (hw : Wd G S w) {x y : AV} {v : Value} (h : loadA n x S = some y) (r : Rep G x v) :
    ∃ ad u, v = .pointer (some ad) ∧ (loadVar t ad).run P w = .ok u w ∧ Rep G y u := by
  unfold loadA at h
  split at h
  · rename_i cs
    cases r with
    | @iptr _ b off vs h1 h2 h3 =>
      refine ⟨⟨b, off, none⟩, ?_⟩
      cases n with
      | none =>
        cases cs with
        | nil => simp at h
        | cons c cs =>
          simp at h; subst h
          have h0 := hw.imm _ _ _ (h1 0 (by simp))
          exact ⟨_, rfl, run_loadVar_one hn (by simpa using h0), h3 0 _ (by simp)⟩
      | some n =>
        simp only at h
        split at h
        · rename_i hle
          injection h with h; subst h
          refine ⟨_, rfl, run_loadVar_agg hn vs fun j hj => by rw [add_none]; exact hw.imm _ _ _ (h1 j (by omega)), rep_agg_range vs (by simp; omega) (fun j hj => h2 j (by omega)) fun j y hy => h3 j y ?_⟩
          rw [List.getElem?_take] at hy; split at hy <;> simp_all
        · cases h
  · rename_i i off
    cases r with
    | @ref _ _ b hb =>
      refine ⟨⟨b, off, none⟩, ?_⟩
      split at h
      · rename_i xs hS
        obtain ⟨b', cs, t', g1, g2, g3, g4, _⟩ := hw.obj i xs hS
        rw [hb] at g1; injection g1 with g1; subst g1
        cases n with
        | none =>
          have hlt : off < cs.size := by rw [g3]; exact (List.getElem?_eq_some_iff.1 h).1
          have hc : cs[off]? = some cs[off] := Array.getElem?_eq_getElem hlt
          exact ⟨_, rfl, run_loadVar_one hn ((cell_at g2 off).trans hc), (g4 off y _ h hc).2⟩
        | some n =>
          simp only at h
          split at h
          · rename_i hle
            injection h with h; subst h
            have hc : ∀ j, j < n → cs[off + j]? = some (cs.getD (off + j) undef) := fun j hj => by
              rw [Array.getElem?_eq_getElem (show off + j < cs.size by omega)]; simp [show off + j < cs.size by omega]
            refine ⟨_, rfl, run_loadVar_agg hn (fun j => cs.getD (off + j) undef) fun j hj => by rw [add_none]; exact (cell_at g2 _).trans (hc j hj), rep_agg_range _ (by simp; omega) (fun j hj => ?_) fun j y hy => ?_⟩
            · exact (g4 (off + j) _ _ (List.getElem?_eq_getElem (show off + j < xs.length by omega)) (hc j hj)).1
            · have hjn : j < n := by
                rcases Nat.lt_or_ge j n with h | h
                · exact h
                · rw [List.getElem?_take, if_neg (by omega)] at hy; cases hy
              refine (g4 (off + j) y _ ?_ (hc j hjn)).2
              rw [List.getElem?_take, if_pos hjn, List.getElem?_drop] at hy; exact hy
          · cases h
      · cases h
  · cases h

theorem run_results {P : Program} {fn : Func} {rv : List RV} (hr : compR P fn = some rv) {tm : List AV} {S : List AObj} {xs : List AV} (h : resAL tm S rv = some xs) {G0 : Gh} {S0 : List AObj} {w0 : World} {G : Gh} {a : Act} {w : World} (hz : Cz G0 S0 w0 tm S G a w) :
    ∃ v, (results fn a.tmps).run P w = .ok v w ∧ Rep G (oneOr xs) v := by
  obtain ⟨F, hF⟩ : ∃ F : ResultVar → Sem Value, F = (fun r => match r with
      | .tmp t => pure (a.tmps.getD t undef)
      | .cell q t => do loadVar t (← asAddr (a.tmps.getD q undef))) := ⟨_, rfl⟩
  have hFt : ∀ t, F (.tmp t) = pure (a.tmps.getD t undef) := fun t => by rw [hF]
  have hFc : ∀ q t, F (.cell q t) = (do loadVar t (← asAddr (a.tmps.getD q undef)) : Sem Value) := fun q t => by rw [hF]
  have key : ∀ (rs : List ResultVar) (rv : List RV) (xs : List AV), optM (fun r : ResultVar => match r with
    | .tmp t => some (.tmp t)
    | .cell a t => (aggO P t).map fun n => .cell a n) rs = some rv → resAL tm S rv = some xs → ∃ vs : List Value, (rs.mapM F).run P w = .ok vs w ∧ RepL G xs vs := by
    intro rs
    induction rs with
    | nil => intro rv xs h1 h2; simp [optM] at h1; subst h1; simp [resAL] at h2; subst h2; exact ⟨[], by simp, RepL.nil _⟩
    | cons r rs ih =>
      intro rv xs h1 h2
      simp only [optM] at h1
      split at h1
      · rename_i y ys hy hys
        injection h1 with h1; subst h1
        simp only [resAL] at h2
        split at h2
        · rename_i x xs' hx hxs
          injection h2 with h2; subst h2
          obtain ⟨vs, hv, hrep⟩ := ih ys xs' hys hxs
          cases r with
          | tmp t =>
            injection hy with hy; subst hy
            simp only [resA1] at hx
            injection hx with hx; subst hx
            have := hz.ev (.tmp t)
            simp only [ev, Act.eval] at this
            exact ⟨_, by rw [List.mapM_cons]; simp only [Sem.run_bind, hFt, Sem.run_pure, Result.andThen_ok, hv], RepL.cons this hrep⟩
          | cell q t =>
            simp only at hy
            cases hn : aggO P t with
            | none => simp [hn] at hy
            | some n =>
              simp [hn] at hy; subst hy
              simp only [resA1] at hx
              have := hz.ev (.tmp q)
              simp only [ev, Act.eval] at this
              obtain ⟨ad, u, e1, e2, e3⟩ := run_loadA (P := P) hn hz.left.wd hx this
              refine ⟨u :: vs, ?_, RepL.cons e3 hrep⟩
              rw [List.mapM_cons]
              simp only [Sem.run_bind, hFc, e1, asAddr, Sem.run_pure, Result.andThen_ok, e2, hv]
        · cases h2
      · cases h1
  obtain ⟨vs, hv, hrep⟩ := key fn.results.toList rv xs hr h
  have hm : (fn.results.mapM F).run P w = .ok vs.toArray w := by
    rw [Array.mapM_eq_mapM_toList]
    simp only [Sem.run_map, hv, Result.andThen_ok]
  have e : results fn a.tmps = (do let vs ← fn.results.mapM F; pure (if h : vs.size = 1 then vs[0] else .tuple vs)) := by rw [hF]; rfl
  rw [e]
  simp only [Sem.run_bind, hm, Result.andThen_ok, Sem.run_pure]
  refine ⟨_, rfl, ?_⟩
  match xs, vs, hrep with
  | [x], [v], hrep => exact hrep.2 0 x v rfl rfl
  | [], [], _ => exact .tup rfl (fun j x v h => by simp at h)
  | x :: y :: xs, v :: u :: vs, hrep =>
    have : ¬ (v :: u :: vs).toArray.size = 1 := by simp
    rw [dif_neg this]
    exact .tup (by simpa using hrep.1) (fun j x v hx hv => hrep.2 j x v hx (by simpa using hv))
  | [], _ :: _, hrep => simpa using hrep.1
  | _ :: _, [], hrep => simpa using hrep.1
  | [_], _ :: _ :: _, hrep => simpa using hrep.1
  | _ :: _ :: _, [_], hrep => simpa using hrep.1

/-- The results, the store as it is. -/
theorem FinK.res {P : Program} {m : Nat} {fn : Func} {rv : List RV} (hr : compR P fn = some rv) {tm : List AV} {S : List AObj} {xs : List AV} (h : resAL tm S rv = some xs) : FinK P m fn tm S (oneOr xs) S := fun G0 S0 w0 G a w _ hz => by
  obtain ⟨v, h1, h2⟩ := run_results hr h hz
  exact ⟨v, G, h1, h2, hz.left⟩

/-- The store told in a smaller one. -/
theorem FinK.sel {P : Program} {m : Nat} {fn : Func} {tm : List AV} {S S' : List AObj} {r r' : AV} (h : FinK P m fn tm S r' S) (ids : List Nat) (hn : ids.Nodup) (hl : ids.length = S'.length) (hm : m ≤ S'.length)
    (hp : ∀ (k i : Nat), k < m → ids[k]? = some i → i = k) (hT : ∀ (k : Nat) (o : AObj), S'[k]? = some o → ∃ i, ids[k]? = some i ∧ S[i]? = some (o.ren (ixs ids S.length))) (hr : r.ren (ixs ids S.length) = r') : FinK P m fn tm S r S' := fun G0 S0 w0 G a w e hz => by
  obtain ⟨v, G', hv, hrep, hs⟩ := h G0 S0 w0 G a w e hz
  have hD : ∀ (k i : Nat), S'.length ≤ k → ids[k]? = some i → S[i]? = some .dead := fun k i hk hi => by
    rw [List.getElem?_eq_none (by omega)] at hi; cases hi
  obtain ⟨hwd, hblk⟩ := Wd.pull hs.wd ids hn (by omega) hT hD
  have hid : ∀ k, k < m → ixs ids S.length k = k := fun k hk => by
    have e : ids[k]? = some (ids[k]'(by omega)) := by simp
    rw [ixs_get e]; exact hp k _ hk e
  have hw0 : ∀ i, m ≤ i → G0.loc i = none ∧ ∀ n, G0.hist i n = none := fun i hi => hz.wd0.dom i (.inl (List.getElem?_eq_none (by omega)))
  refine ⟨v, _, hv, hrep.pull r hr, ⟨⟨hs.le.imm, fun i b hb => ?_, fun i n u hb => ?_⟩, hwd, hs.kept, fun i b hb => ?_, hs.still⟩⟩
  · have hi : i < m := by
      rcases Nat.lt_or_ge i m with h | h
      · exact h
      · rw [(hw0 i h).1] at hb; cases hb
    show G'.loc (ixs ids S.length i) = _
    rw [hid i hi]; exact hs.le.loc i b hb
  · have hi : i < m := by
      rcases Nat.lt_or_ge i m with h | h
      · exact h
      · rw [(hw0 i h).2] at hb; cases hb
    show G'.hist (ixs ids S.length i) n = _
    rw [hid i hi]; exact hs.le.hist i n u hb
  · rcases hblk i with h | h
    · rw [h] at hb; cases hb
    · rw [h] at hb; exact hs.own _ b hb

theorem Does.body {P : Program} {f : FuncId} {fn : Func} {code : Code} {c : C} {args : List AV} {S : List AObj} {r : AV} {S' : List AObj} (hf : P.funcs[f]? = some fn) (hb : fn.body = some code) (hname : (fn.name == "runtime.NumGoroutine") = false) (hc : compC P code = some c)
    (h : aw P S.length c (args ++ List.replicate (fn.ntmps - args.length) .any) S fun e tm S1 => (e = .ret ∨ e = .normal) ∧ FinK P S.length fn tm S1 r S') : Does P f args S r S' := by
  refine ⟨⟨fn, hf, by simp [hb], hname⟩, fun G w vs hw hr => ?_⟩
  refine calls_of_wp hf hb ?_
  have hsz : vs.size = args.length := by simpa using hr.1.symm
  have hz : Cz G S w (args ++ List.replicate (fn.ntmps - args.length) .any) S G { tmps := vs ++ Array.replicate (fn.ntmps - vs.size) undef, defers := [] } w := by
    refine ⟨Left.refl hw, by simp [hsz], fun t x v hx hv => ?_, rfl, hw⟩
    rw [List.getElem?_append] at hx
    split at hx
    · rename_i ht
      simp only [Array.getElem?_append] at hv
      rw [if_pos (by omega)] at hv
      exact hr.2 t x v hx (by simpa using hv)
    · rw [List.getElem?_replicate] at hx
      split at hx
      · injection hx with hx; subst hx; exact .any v
      · cases hx
  refine wp_mono (aw_sound code c hc _ S _ h G S w G _ w rfl hz) fun e a' w' hq => ?_
  obtain ⟨tm', S1, G', hz', he, hfin⟩ := hq
  obtain ⟨v, G'', hv, hrep, hleft⟩ := hfin G S w G' a' w' rfl hz'
  rcases he with rfl | rfl
  · exact ⟨hz'.defers, v, hv, v, G'', rfl, hrep, hleft⟩
  · exact ⟨hz'.defers, v, hv, v, G'', rfl, hrep, hleft⟩

end Go.Proofs.Ytgphhganepjaiaa
