/-
  Equations by which code is reckoned over abstract values. Over any program.
-/
import Derived.Test.YtgphhganepjaiaaAb16
namespace Go.Proofs.Ytgphhganepjaiaa

theorem effK_mono {P : Program} {i : I} {ρ : Operand → AV} {S : List AObj} {K K' : KT} (hK : ∀ v rd upd new, K v rd upd new → K' v rd upd new) (h : effK P i ρ S K) : effK P i ρ S K' := by
  cases i <;> dsimp only [effK] at h ⊢
  case mov => exact hK _ _ _ _ h
  case pick => unfold kPick at h ⊢; split at h <;> first | exact hK _ _ _ _ h | exact h.elim
  case new => exact hK _ _ _ _ h
  case box => unfold kBox at h ⊢; split at h <;> first | exact hK _ _ _ _ h | exact h.elim
  case build => unfold kBuild at h ⊢; split at h <;> first | exact hK _ _ _ _ h | exact h.elim
  case bsl => exact ⟨h.1, hK _ _ _ _ h.2⟩
  case load => unfold kLoad at h ⊢; (repeat' split at h) <;> first | exact hK _ _ _ _ h | exact ⟨h.1, hK _ _ _ _ h.2⟩ | exact h.elim
  case store => unfold kStore at h ⊢; (repeat' split at h) <;> first | exact ⟨h.1, h.2.1, hK _ _ _ _ h.2.2⟩ | exact h.elim
  case nilc => unfold kNil at h ⊢; split at h <;> first | exact hK _ _ _ _ h | exact h.elim
  case bin op x y =>
    unfold kBin at h ⊢
    split at h
    · cases op <;> dsimp only [kInt] at h ⊢ <;> first | exact ⟨h.1, hK _ _ _ _ h.2⟩ | exact ⟨h.1, h.2.1, hK _ _ _ _ h.2.2⟩
    · cases op <;> dsimp only [kStr] at h ⊢ <;> first | exact hK _ _ _ _ h | exact h.elim
    · exact h.elim
  case eqb => unfold kEqb at h ⊢; split at h <;> first | exact hK _ _ _ _ h | exact h.elim
  case eqa => unfold kEqa at h ⊢; split at h <;> first | exact ⟨h.1, h.2.1, hK _ _ _ _ h.2.2⟩ | exact h.elim
  case eqp => unfold kEqp at h ⊢; split at h <;> first | exact hK _ _ _ _ h | exact h.elim
  case un => unfold kUn at h ⊢; split at h <;> first | exact hK _ _ _ _ h | exact h.elim
  case cvt => unfold kCvt at h ⊢; split at h <;> first | exact hK _ _ _ _ h | exact h.elim
  case b2s => unfold kB2s at h ⊢; split at h <;> first | exact ⟨h.1, h.2.1, hK _ _ _ _ h.2.2⟩ | exact h.elim
  case s2b => unfold kS2b at h ⊢; split at h <;> first | exact ⟨h.1, hK _ _ _ _ h.2⟩ | exact h.elim
  case slice =>
    unfold kSlice at h ⊢
    split at h
    · split at h
      · rename_i l hh hl hhh
        obtain ⟨h1, h2, h3, h4, h5⟩ := h
        refine ⟨h1, h2, h3, h4, ?_⟩
        split at h5
        · exact hK _ _ _ _ h5
        · exact ⟨h5.1, hK _ _ _ _ h5.2⟩
      · exact h.elim
    · exact h.elim
  case sstr =>
    unfold kSstr at h ⊢
    split at h
    · split at h
      · rename_i l hh hl hhh
        exact ⟨h.1, h.2.1, h.2.2.1, hK _ _ _ _ h.2.2.2⟩
      · exact h.elim
    · exact h.elim
  case fadr => unfold kFadr at h ⊢; split at h <;> first | exact hK _ _ _ _ h | exact h.elim
  case fld => unfold kFld at h ⊢; (repeat' split at h) <;> first | exact hK _ _ _ _ h | exact ⟨h.1, hK _ _ _ _ h.2⟩ | exact h.elim
  case iadr => unfold kIadr at h ⊢; split at h <;> first | exact ⟨h.1, h.2.1, h.2.2.1, hK _ _ _ _ h.2.2.2⟩ | exact h.elim
  case aadr => unfold kAadr at h ⊢; split at h <;> first | exact ⟨h.1, h.2.1, hK _ _ _ _ h.2.2⟩ | exact h.elim
  case idx => unfold kIdx kFld at h ⊢; (repeat' split at h) <;> first | exact ⟨h.1, h.2.1, hK _ _ _ _ h.2.2⟩ | exact ⟨h.1, h.2.1, h.2.2.1, hK _ _ _ _ h.2.2.2⟩ | exact h.elim | exact h.2.2.elim
  case sidx => unfold kSidx at h ⊢; split at h <;> first | exact ⟨h.1, h.2.1, hK _ _ _ _ h.2.2⟩ | exact h.elim
  case ext => unfold kExt at h ⊢; (repeat' split at h) <;> first | exact hK _ _ _ _ h | exact h.elim
  case mkf => exact hK _ _ _ _ h
  case call =>
    unfold kCall at h ⊢
    split at h
    · obtain ⟨v, rd, upd, new, h1, h2, h3, h4⟩ := h
      exact ⟨v, rd, upd, new, h1, h2, h3, hK _ _ _ _ h4⟩
    · exact h.elim
  case app =>
    unfold kApp at h ⊢
    split at h
    · obtain ⟨h1, h2, h3, h4⟩ := h
      refine ⟨h1, h2, h3, ?_⟩
      split at h4
      · exact hK _ _ _ _ h4
      · exact ⟨h4.1, hK _ _ _ _ h4.2⟩
      · exact h4.elim
    · exact h.elim
  case len => unfold kLen at h ⊢; split at h <;> first | exact hK _ _ _ _ h | exact h.elim
  case lenc => exact hK _ _ _ _ h
  case mx => unfold kMx at h ⊢; split at h <;> first | exact hK _ _ _ _ h | exact h.elim
  case mksl => unfold kMksl at h ⊢; split at h <;> first | exact ⟨h.1, h.2.1, h.2.2.1, h.2.2.2.1, hK _ _ _ _ h.2.2.2.2⟩ | exact h.elim
theorem aReg_mono {P : Program} {R R' : List AV → List AObj → Prop} (hR : ∀ tm S, R tm S → R' tm S) : ∀ (cs : List RO) (u : List (Nat × Nat)) (tr : List (List Nat × List Nat)) (tm : List AV) (S : List AObj), aReg P cs u tr tm S R → aReg P cs u tr tm S R' := by
  intro cs
  induction cs with
  | nil => intro u tr tm S h; exact ⟨h.1, hR _ _ h.2⟩
  | cons c cs ih =>
    obtain ⟨g, i, d⟩ := c
    intro u tr tm S h
    cases g with
    | none => exact effK_mono (fun _ _ _ _ => ih _ _ _ _) h
    | some g =>
      obtain ⟨t, want⟩ := g
      simp only [aReg, gdK] at h ⊢
      split at h
      · split at h
        · rename_i h1 h2; rw [if_pos h2]; exact effK_mono (fun _ _ _ _ => ih _ _ _ _) h
        · rename_i h1 h2; rw [if_neg h2]; exact ih _ _ _ _ h
      · exact ih _ _ _ _ h
      · exact h.elim
theorem aw_mono {P : Program} {m : Nat} : ∀ {c : C} {tm : List AV} {S : List AObj} {Q Q' : QT}, aw P m c tm S Q → (∀ e tm S, Q e tm S → Q' e tm S) → aw P m c tm S Q' := by
  intro c
  induction c with
  | skip => intro tm S Q Q' h hq; exact hq _ _ _ h
  | reg ops u => intro tm S Q Q' h hq; exact aReg_mono (hq .normal) _ _ _ _ _ h
  | seq a b iha ihb =>
    intro tm S Q Q' h hq
    refine iha h fun e tm S h => ?_
    cases e with
    | normal => exact ihb h hq
    | _ => exact hq _ _ _ h
  | cond x a b iha ihb =>
    intro tm S Q Q' h hq
    simp only [aw] at h ⊢
    split at h
    · exact ⟨fun e => iha (h.1 e) hq, fun e => ihb (h.2 e) hq⟩
    · exact h.elim
  | block id b ih =>
    intro tm S Q Q' h hq
    refine ih h fun e tm S h => ?_
    cases e with
    | exit id' =>
      simp only [qBlock] at h ⊢
      split
      · rename_i e; rw [if_pos e] at h; exact hq _ _ _ h
      · rename_i e; rw [if_neg e] at h; exact hq _ _ _ h
    | _ => exact hq _ _ _ h
  | loop b ih =>
    intro tm S Q Q' h hq
    obtain ⟨I, h0, hr⟩ := h
    refine ⟨I, h0, fun n tm S hI => ih (hr n tm S hI) fun e tm S h => ?_⟩
    cases e with
    | normal => exact h
    | _ => exact hq _ _ _ h
  | exit id => intro tm S Q Q' h hq; exact hq _ _ _ h
  | scope b ih =>
    intro tm S Q Q' h hq code hc G0 S0 w0 G a w hm hz
    exact wp_mono (h code hc G0 S0 w0 G a w hm hz) fun e a' w' ⟨tm', S', G', hz', hq'⟩ => ⟨tm', S', G', hz', hq _ _ _ hq'⟩
  | label l => intro tm S Q Q' h hq; obtain ⟨tm', S', hwk, h⟩ := h; exact ⟨tm', S', hwk, hq _ _ _ h⟩
  | goto l => intro tm S Q Q' h hq; exact hq _ _ _ h
  | ret => intro tm S Q Q' h hq; exact hq _ _ _ h

section
variable {P : Program} {m : Nat} {tm : List AV} {S : List AObj} {Q : QT}

def qSeq (P : Program) (m : Nat) (b : C) (Q : QT) : QT := qThen (fun tm S => aw P m b tm S Q) Q
theorem qSeq_normal (b : C) : qSeq P m b Q .normal tm S = aw P m b tm S Q := (rfl)
theorem qSeq_ret (b : C) : qSeq P m b Q .ret tm S = Q .ret tm S := (rfl)
theorem qSeq_exit (b : C) (id : Nat) : qSeq P m b Q (.exit id) tm S = Q (.exit id) tm S := (rfl)
theorem qSeq_goto (b : C) (l : Nat) : qSeq P m b Q (.goto l) tm S = Q (.goto l) tm S := (rfl)
theorem qBlock_normal (id : Nat) : qBlock id Q .normal tm S = Q .normal tm S := (rfl)
theorem qBlock_ret (id : Nat) : qBlock id Q .ret tm S = Q .ret tm S := (rfl)
theorem qBlock_exit (id id' : Nat) : qBlock id Q (.exit id') tm S = if id' = id then Q .normal tm S else Q (.exit id') tm S := (rfl)
theorem qBlock_goto (id l : Nat) : qBlock id Q (.goto l) tm S = Q (.goto l) tm S := (rfl)

/-- Loops: what is borne at each round's head, told by a value of the prover's. -/
def qLoop {α : Type} (m : Nat) (tmF : α → List AV) (SF : α → List AObj) (ok : α → Prop) (μ : α → Nat) (a : α) (Q : QT) : QT := qThen (fun tm S => ∃ a', ok a' ∧ μ a' < μ a ∧ Wk m tm S (tmF a') (SF a')) Q
section
variable {α : Type} {tmF : α → List AV} {SF : α → List AObj} {ok : α → Prop} {μ : α → Nat} {a : α}
theorem qLoop_normal : qLoop m tmF SF ok μ a Q .normal tm S = ∃ a', ok a' ∧ μ a' < μ a ∧ Wk m tm S (tmF a') (SF a') := (rfl)
theorem qLoop_ret : qLoop m tmF SF ok μ a Q .ret tm S = Q .ret tm S := (rfl)
theorem qLoop_exit (id : Nat) : qLoop m tmF SF ok μ a Q (.exit id) tm S = Q (.exit id) tm S := (rfl)
theorem qLoop_goto (l : Nat) : qLoop m tmF SF ok μ a Q (.goto l) tm S = Q (.goto l) tm S := (rfl)
end
theorem loop_of {α : Type} {c : C} (tmF : α → List AV) (SF : α → List AObj) (ok : α → Prop) (μ : α → Nat) (a : α) (ha : ok a) (h0 : Wk m tm S (tmF a) (SF a)) (hr : ∀ a, ok a → aw P m c (tmF a) (SF a) (qLoop m tmF SF ok μ a Q)) : aw P m (.loop c) tm S Q := by
  refine ⟨fun n tm S => ∃ a, ok a ∧ tm = tmF a ∧ S = SF a ∧ n = μ a, ⟨_, _, _, h0, a, ha, rfl, rfl, rfl⟩, fun n tm S ⟨a, ha, h1, h2, h3⟩ => ?_⟩
  subst h1 h2 h3
  refine aw_mono (hr a ha) fun e tm' S' hq => ?_
  cases e with
  | normal =>
    obtain ⟨a', h1, h2, h3⟩ := hq
    exact ⟨μ a', _, _, h3, ⟨a', h1, rfl, rfl, rfl⟩, h2⟩
  | _ => exact hq
/-- Loops of a known number of rounds. -/
def rounds (P : Program) (m : Nat) (c : C) (Q : QT) : List Unit → List AV → List AObj → Prop
  | [], _, _ => False
  | _ :: f, tm, S => aw P m c tm S (qThen (fun tm S => rounds P m c Q f tm S) Q)
def qRds (P : Program) (m : Nat) (c : C) (Q : QT) (f : List Unit) : QT := qThen (fun tm S => rounds P m c Q f tm S) Q
section
variable {c : C} {f : List Unit}
theorem rounds_cons (u : Unit) : rounds P m c Q (u :: f) tm S = aw P m c tm S (qRds P m c Q f) := (rfl)
theorem qRds_normal : qRds P m c Q f .normal tm S = rounds P m c Q f tm S := (rfl)
theorem qRds_ret : qRds P m c Q f .ret tm S = Q .ret tm S := (rfl)
theorem qRds_exit (id : Nat) : qRds P m c Q f (.exit id) tm S = Q (.exit id) tm S := (rfl)
theorem qRds_goto (l : Nat) : qRds P m c Q f (.goto l) tm S = Q (.goto l) tm S := (rfl)
end
theorem loop_rounds {c : C} (f : List Unit) (h : rounds P m c Q f tm S) : aw P m (.loop c) tm S Q := by
  refine ⟨fun n tm S => ∃ f : List Unit, n = f.length ∧ rounds P m c Q f tm S, ⟨_, _, _, Wk.refl _ _ _, f, rfl, h⟩, fun n tm S ⟨f, hn, hr⟩ => ?_⟩
  cases f with
  | nil => exact hr.elim
  | cons u f =>
    refine aw_mono hr fun e tm' S' hq => ?_
    cases e with
    | normal => exact ⟨_, _, _, Wk.refl _ _ _, ⟨f, rfl, hq⟩, by rw [hn]; simp⟩
    | _ => exact hq

/-- A scope with jumps to one label: ahead of it. -/
def qScope {α : Type} (m l : Nat) (tmF : α → List AV) (SF : α → List AObj) (ok : α → Prop) (Q : QT) : QT
  | .goto l', tm, S => l' = l ∧ ∃ a, ok a ∧ Wk m tm S (tmF a) (SF a)
  | e, tm, S => Q e tm S
/-- Behind it. -/
def qScoped {α : Type} (m l : Nat) (tmF : α → List AV) (SF : α → List AObj) (ok : α → Prop) (μ : α → Nat) (a : α) (Q : QT) : QT
  | .goto l', tm, S => l' = l ∧ ∃ a', ok a' ∧ μ a' < μ a ∧ Wk m tm S (tmF a') (SF a')
  | e, tm, S => Q e tm S
section
variable {α : Type} {l : Nat} {tmF : α → List AV} {SF : α → List AObj} {ok : α → Prop} {μ : α → Nat} {a : α}
theorem qScope_normal : qScope m l tmF SF ok Q .normal tm S = Q .normal tm S := (rfl)
theorem qScope_ret : qScope m l tmF SF ok Q .ret tm S = Q .ret tm S := (rfl)
theorem qScope_exit (id : Nat) : qScope m l tmF SF ok Q (.exit id) tm S = Q (.exit id) tm S := (rfl)
theorem qScope_goto (l' : Nat) : qScope m l tmF SF ok Q (.goto l') tm S = (l' = l ∧ ∃ a, ok a ∧ Wk m tm S (tmF a) (SF a)) := (rfl)
theorem qScoped_normal : qScoped m l tmF SF ok μ a Q .normal tm S = Q .normal tm S := (rfl)
theorem qScoped_ret : qScoped m l tmF SF ok μ a Q .ret tm S = Q .ret tm S := (rfl)
theorem qScoped_exit (id : Nat) : qScoped m l tmF SF ok μ a Q (.exit id) tm S = Q (.exit id) tm S := (rfl)
theorem qScoped_goto (l' : Nat) : qScoped m l tmF SF ok μ a Q (.goto l') tm S = (l' = l ∧ ∃ a', ok a' ∧ μ a' < μ a ∧ Wk m tm S (tmF a') (SF a')) := (rfl)
end
theorem scope_of {α : Type} {c r : C} (l : Nat) (hf : findC c l = some r) (tmF : α → List AV) (SF : α → List AObj) (ok : α → Prop) (μ : α → Nat) (first : (∀ a, ok a → aw P m r (tmF a) (SF a) (qScope m l tmF SF ok Q)) → aw P m c tm S (qScope m l tmF SF ok Q)) (pass : ∀ a, ok a → aw P m r (tmF a) (SF a) (qScoped m l tmF SF ok μ a Q)) : aw P m (.scope c) tm S Q := by
  refine scope_rule (fun n l' tm S => l' = l ∧ ∃ a, ok a ∧ tm = tmF a ∧ S = SF a ∧ n = μ a) (aw_mono (first fun a ha => aw_mono (pass a ha) fun e tm' S' hq => ?_) fun e tm' S' hq => ?_) fun n l' tm S ⟨hl, a, ha, h1, h2, h3⟩ => ⟨r, by rw [hl]; exact hf, ?_⟩
  · cases e with
    | goto l' => obtain ⟨h1, a', h2, _, h4⟩ := hq; exact ⟨h1, a', h2, h4⟩
    | _ => exact hq
  · cases e with
    | goto l' => obtain ⟨h1, a, h2, h3⟩ := hq; exact ⟨_, _, h3, μ a, h1, a, h2, rfl, rfl, rfl⟩
    | _ => exact hq
  · subst h1 h2 h3
    refine aw_mono (pass a ha) fun e tm' S' hq => ?_
    cases e with
    | goto l' => obtain ⟨h1, a', h2, h3, h4⟩ := hq; exact ⟨_, _, h4, μ a', ⟨h1, a', h2, rfl, rfl, rfl⟩, h3⟩
    | _ => exact hq

/-- A branch. -/
def cdK (P : Program) (m : Nat) (x : AV) (a b : C) (tm : List AV) (S : List AObj) (Q : QT) : Prop := match x with
  | .lit (.bool t) => (t = true → aw P m a tm S Q) ∧ (t = false → aw P m b tm S Q)
  | _ => False
theorem cdK_true (a b : C) : cdK P m (.lit (.bool true)) a b tm S Q = aw P m a tm S Q := by simp [cdK]
theorem cdK_false (a b : C) : cdK P m (.lit (.bool false)) a b tm S Q = aw P m b tm S Q := by simp [cdK]
theorem cdK_split {t : Bool} {a b : C} (h1 : t = true → aw P m a tm S Q) (h2 : t = false → aw P m b tm S Q) : cdK P m (.lit (.bool t)) a b tm S Q := ⟨h1, h2⟩

theorem aw_skip : aw P m .skip tm S Q = Q .normal tm S := (rfl)
theorem aw_reg (ops : List RO) (u : List (Nat × Nat)) : aw P m (.reg ops u) tm S Q = aReg P ops u [] tm S (Q .normal) := (rfl)
theorem aw_seq (a b : C) : aw P m (.seq a b) tm S Q = aw P m a tm S (qSeq P m b Q) := (rfl)
theorem aw_cond (c : Operand) (a b : C) : aw P m (.cond c a b) tm S Q = cdK P m (ev tm c) a b tm S Q := by
  simp only [aw, cdK]
  cases ev tm c with
  | lit v => cases v <;> rfl
  | _ => rfl
theorem aw_block (id : Nat) (c : C) : aw P m (.block id c) tm S Q = aw P m c tm S (qBlock id Q) := (rfl)
theorem aw_exit (id : Nat) : aw P m (.exit id) tm S Q = Q (.exit id) tm S := (rfl)
def kLab (m : Nat) (tm : List AV) (S : List AObj) (R : List AV → List AObj → Prop) : Prop := ∃ tm' S', Wk m tm S tm' S' ∧ R tm' S'
theorem kLab_go {R : List AV → List AObj → Prop} {tm' : List AV} {S' : List AObj} (h : Wk m tm S tm' S') (k : R tm' S') : kLab m tm S R := ⟨tm', S', h, k⟩
theorem aw_label (l : Nat) : aw P m (.label l) tm S Q = kLab m tm S (Q .normal) := (rfl)
theorem aw_goto (l : Nat) : aw P m (.goto l) tm S Q = Q (.goto l) tm S := (rfl)
theorem aw_ret : aw P m .ret tm S Q = Q .ret tm S := (rfl)

/-- What follows an operation of a region. -/
def kReg (P : Program) (rest : List RO) (u : List (Nat × Nat)) (tr : List (List Nat × List Nat)) (tm : List AV) (S : List AObj) (d : Option Nat) (R : List AV → List AObj → Prop) : KT := fun v rd upd new =>
  aReg P rest u (tr ++ [(rd, upd.map (·.1) ++ (newU S.length new).map (·.1))]) (setD tm d v) (updL S upd ++ new) R
def gdF (P : Program) (x : AV) (want : Bool) (i : I) (rest : List RO) (u : List (Nat × Nat)) (tr : List (List Nat × List Nat)) (tm : List AV) (S : List AObj) (d : Option Nat) (R : List AV → List AObj → Prop) : Prop :=
  gdK x want (effK P i (ev tm) S (kReg P rest u tr tm S d R)) (aReg P rest u (tr ++ [([], [])]) (setD tm d (.lit undef)) S R)
variable {rest : List RO} {u : List (Nat × Nat)} {tr : List (List Nat × List Nat)} {d : Option Nat} {R : List AV → List AObj → Prop}
theorem kReg_go (v : AV) (rd : List Nat) (upd : List (Nat × AObj)) (new : List AObj) : kReg P rest u tr tm S d R v rd upd new = aReg P rest u (tr ++ [(rd, upd.map (·.1) ++ (newU S.length new).map (·.1))]) (setD tm d v) (updL S upd ++ new) R := (rfl)
theorem kReg_pure (v : AV) : kReg P rest u tr tm S d R v [] [] [] = aReg P rest u (tr ++ [([], [])]) (setD tm d v) S R := by
  simp [kReg, newU]
theorem aReg_nil : aReg P [] u tr tm S R = (okTr u tr = true ∧ R tm S) := (rfl)
theorem aReg_nil0 : aReg P [] [] tr tm S R = R tm S := by simp [aReg, okTr]
theorem aReg_cons (i : I) : aReg P ((none, i, d) :: rest) u tr tm S R = effK P i (ev tm) S (kReg P rest u tr tm S d R) := (rfl)
theorem aReg_guard (t : Nat) (want : Bool) (i : I) : aReg P ((some (t, want), i, d) :: rest) u tr tm S R = gdF P (tm.getD t .any) want i rest u tr tm S d R := (rfl)
theorem gdF_tt (i : I) : gdF P (.lit (.bool true)) true i rest u tr tm S d R = effK P i (ev tm) S (kReg P rest u tr tm S d R) := (rfl)
theorem gdF_ff (i : I) : gdF P (.lit (.bool false)) false i rest u tr tm S d R = effK P i (ev tm) S (kReg P rest u tr tm S d R) := (rfl)
theorem gdF_tf (i : I) : gdF P (.lit (.bool true)) false i rest u tr tm S d R = aReg P rest u (tr ++ [([], [])]) (setD tm d (.lit undef)) S R := (rfl)
theorem gdF_ft (i : I) : gdF P (.lit (.bool false)) true i rest u tr tm S d R = aReg P rest u (tr ++ [([], [])]) (setD tm d (.lit undef)) S R := (rfl)
theorem gdF_undef (want : Bool) (i : I) : gdF P (.lit undef) want i rest u tr tm S d R = aReg P rest u (tr ++ [([], [])]) (setD tm d (.lit undef)) S R := (rfl)
theorem gdF_split {t : Bool} {want : Bool} {i : I} (h1 : t = true → gdF P (.lit (.bool true)) want i rest u tr tm S d R) (h2 : t = false → gdF P (.lit (.bool false)) want i rest u tr tm S d R) : gdF P (.lit (.bool t)) want i rest u tr tm S d R := by
  cases t
  · exact h2 rfl
  · exact h1 rfl
theorem setD_some (t : Nat) (v : AV) : setD tm (some t) v = tm.set t v := (rfl)
theorem setD_none (v : AV) : setD tm none v = tm := (rfl)
theorem ev_tmp (t : Nat) : ev tm (.tmp t) = tm.getD t .any := (rfl)
theorem ev_const (v : Value) : ev tm (.const v) = AV.ofC v := (rfl)
theorem ev_func (f : FuncId) : ev tm (.func f) = .fn f [] [] := (rfl)
theorem ofC_int (k : IntKind) (n : Int) : AV.ofC (.int k n) = .lit (.int k n) := (rfl)
theorem ofC_bool (b : Bool) : AV.ofC (.bool b) = .lit (.bool b) := (rfl)
theorem ofC_string (s : ByteArray) : AV.ofC (.string s) = .lit (.string s) := (rfl)
theorem ofC_nil : AV.ofC (.slice none 0 0) = .sl .full 1 [] := (rfl)
theorem ofC_ptr : AV.ofC (.pointer none) = .lit (.pointer none) := (rfl)
theorem ofC1_int (k : IntKind) (n : Int) : AV.ofC1 (.int k n) = .lit (.int k n) := (rfl)
theorem ofC1_bool (b : Bool) : AV.ofC1 (.bool b) = .lit (.bool b) := (rfl)
theorem ofC1_string (s : ByteArray) : AV.ofC1 (.string s) = .lit (.string s) := (rfl)
theorem ofC1_nil : AV.ofC1 (.slice none 0 0) = .sl .full 1 [] := (rfl)
theorem ofC1_ptr : AV.ofC1 (.pointer none) = .lit (.pointer none) := (rfl)
theorem parts_lit_int (k : IntKind) (n : Int) : (AV.lit (.int k n)).parts = some [.lit (.int k n)] := (rfl)
theorem parts_lit_bool (b : Bool) : (AV.lit (.bool b)).parts = some [.lit (.bool b)] := (rfl)
theorem parts_lit_string (s : ByteArray) : (AV.lit (.string s)).parts = some [.lit (.string s)] := (rfl)
theorem parts_lit_ptr : (AV.lit (.pointer none)).parts = some [.lit (.pointer none)] := (rfl)
theorem parts_agg (xs : List AV) : (AV.agg xs).parts = some xs := (rfl)
theorem parts_ref (i o : Nat) : (AV.ref i o).parts = some [.ref i o] := (rfl)
theorem parts_iptr (cs : List AV) : (AV.iptr cs).parts = some [.iptr cs] := (rfl)
theorem parts_sl (t : Tag) (k : Nat) (xs : List AV) : (AV.sl t k xs).parts = some [.sl t k xs] := (rfl)
theorem parts_fn (f : FuncId) (a b : List AV) : (AV.fn f a b).parts = some [.fn f a b] := (rfl)
theorem cells_agg (xs : List AV) : (AV.agg xs).cells = xs := (rfl)
theorem cells_lit (v : Value) : (AV.lit v).cells = [.lit v] := (rfl)
theorem cells_sl (t : Tag) (k : Nat) (xs : List AV) : (AV.sl t k xs).cells = [.sl t k xs] := (rfl)
theorem splice_nil (xs : List AV) (o : Nat) : splice xs o [] = xs := (rfl)
theorem splice_cons (xs : List AV) (o : Nat) (c : AV) (cs : List AV) : splice xs o (c :: cs) = splice (xs.set o c) (o + 1) cs := (rfl)

variable {ρ : Operand → AV} {K : KT}
theorem e_mov (x : Operand) : effK P (.mov x) ρ S K = K (ρ x) [] [] [] := (rfl)
theorem e_pick (c a b : Operand) : effK P (.pick c a b) ρ S K = kPick (ρ c) (ρ a) (ρ b) K := (rfl)
theorem e_new (zs : List Value) : effK P (.new zs) ρ S K = K (.ref S.length 0) [] [] [.cells (zs.map AV.ofC1)] := (rfl)
theorem e_box (x : Operand) : effK P (.box x) ρ S K = kBox (ρ x) S.length K := (rfl)
theorem e_build (zs : List Value) (ps : List (Nat × Nat × Operand)) : effK P (.build zs ps) ρ S K = kBuild (zs.map AV.ofC1) (ps.map fun p => (p.1, p.2.1, ρ p.2.2)) K := (rfl)
theorem e_bsl (k : Nat) (xs : List Operand) : effK P (.bsl k xs) ρ S K = kBsl k (xs.map ρ) K := (rfl)
theorem e_load (n : Option Nat) (a : Operand) : effK P (.load n a) ρ S K = kLoad n (ρ a) S K := (rfl)
theorem e_store (n : Nat) (a x : Operand) : effK P (.store n a x) ρ S K = kStore n (ρ a) (ρ x) S K := (rfl)
theorem e_nilc (x : Operand) : effK P (.nilc x) ρ S K = kNil (ρ x) K := (rfl)
theorem e_bin (op : BinOp) (x y : Operand) : effK P (.bin op x y) ρ S K = kBin op (ρ x) (ρ y) K := (rfl)
theorem e_eqb (b : Bool) (x y : Operand) : effK P (.eqb b x y) ρ S K = kEqb b (ρ x) (ρ y) K := (rfl)
theorem e_eqa (b : Bool) (n : Nat) (x y : Operand) : effK P (.eqa b n x y) ρ S K = kEqa b n (ρ x) (ρ y) K := (rfl)
theorem e_eqp (b : Bool) (x y : Operand) : effK P (.eqp b x y) ρ S K = kEqp b (ρ x) (ρ y) K := (rfl)
theorem e_un (op : UnOp) (x : Operand) : effK P (.un op x) ρ S K = kUn op (ρ x) K := (rfl)
theorem e_cvt (k : IntKind) (x : Operand) : effK P (.cvt k x) ρ S K = kCvt k (ρ x) K := (rfl)
theorem e_b2s (x : Operand) : effK P (.b2s x) ρ S K = kB2s (ρ x) K := (rfl)
theorem e_s2b (x : Operand) : effK P (.s2b x) ρ S K = kS2b (ρ x) K := (rfl)
theorem e_slice (k : Nat) (x : Operand) (lo hi mx : Option Operand) : effK P (.slice k x lo hi mx) ρ S K = kSlice k (ρ x) (lo.map ρ) (hi.map ρ) (mx.map ρ) K := (rfl)
theorem e_sstr (x : Operand) (lo hi : Option Operand) : effK P (.sstr x lo hi) ρ S K = kSstr (ρ x) (lo.map ρ) (hi.map ρ) K := (rfl)
theorem e_fadr (off : Nat) (x : Operand) : effK P (.fadr off x) ρ S K = kFadr off (ρ x) K := (rfl)
theorem e_fld (off : Nat) (n : Option Nat) (x : Operand) : effK P (.fld off n x) ρ S K = kFld off n (ρ x) K := (rfl)
theorem e_iadr (k : Nat) (x ix : Operand) : effK P (.iadr k x ix) ρ S K = kIadr k (ρ x) (ρ ix) K := (rfl)
theorem e_aadr (n k : Nat) (x ix : Operand) : effK P (.aadr n k x ix) ρ S K = kAadr n k (ρ x) (ρ ix) K := (rfl)
theorem e_idx (n k : Nat) (a : Option Nat) (x ix : Operand) : effK P (.idx n k a x ix) ρ S K = kIdx n k a (ρ x) (ρ ix) K := (rfl)
theorem e_sidx (x ix : Operand) : effK P (.sidx x ix) ρ S K = kSidx (ρ x) (ρ ix) K := (rfl)
theorem e_ext (x : Operand) (i : Nat) : effK P (.ext x i) ρ S K = kExt (ρ x) i K := (rfl)
theorem e_mkf (f : FuncId) (a b : List Operand) : effK P (.mkf f a b) ρ S K = K (.fn f (a.map ρ) (b.map ρ)) [] [] [] := (rfl)
theorem e_call (f : Operand) (args : List Operand) : effK P (.call f args) ρ S K = kCall P (ρ f) (args.map ρ) S K := (rfl)
theorem e_app (k b : Nat) (s x : Operand) : effK P (.app k b s x) ρ S K = kApp k b (ρ s) (ρ x) S K := (rfl)
theorem e_len (b : Bool) (x : Operand) : effK P (.len b x) ρ S K = kLen b (ρ x) K := (rfl)
theorem e_lenc (n : Nat) : effK P (.lenc n) ρ S K = K (.lit (.int .i64 n)) [] [] [] := (rfl)
theorem e_mx (b : Bool) (x y : Operand) : effK P (.mx b x y) ρ S K = kMx b (ρ x) (ρ y) K := (rfl)
theorem e_mksl (k b : Nat) (l c : Operand) : effK P (.mksl k b l c) ρ S K = kMksl k b (ρ l) (ρ c) S.length K := (rfl)
theorem kPick_lit (t : Bool) (x y : AV) : kPick (.lit (.bool t)) x y K = K (bif t then x else y) [] [] [] := (rfl)
theorem kBin_int (op : BinOp) (k k' : IntKind) (a b : Int) : kBin op (.lit (.int k a)) (.lit (.int k' b)) K = kInt op k a k' b K := (rfl)
theorem kBin_str (op : BinOp) (a b : ByteArray) : kBin op (.lit (.string a)) (.lit (.string b)) K = kStr op a b K := (rfl)
theorem i_add (k : IntKind) (a b : Int) : kInt .add k a k b K = K (.lit (.int k (k.wrap (a + b)))) [] [] [] := by simp [kInt]
theorem i_sub (k : IntKind) (a b : Int) : kInt .sub k a k b K = K (.lit (.int k (k.wrap (a - b)))) [] [] [] := by simp [kInt]
theorem i_mul (k : IntKind) (a b : Int) : kInt .mul k a k b K = K (.lit (.int k (k.wrap (a * b)))) [] [] [] := by simp [kInt]
theorem i_quo (k : IntKind) (a b : Int) : kInt .quo k a k b K = (b ≠ 0 ∧ K (.lit (.int k (k.wrap (a.tdiv b)))) [] [] []) := by simp [kInt]
theorem i_rem (k : IntKind) (a b : Int) : kInt .rem k a k b K = (b ≠ 0 ∧ K (.lit (.int k (a.tmod b))) [] [] []) := by simp [kInt]
theorem i_and (k : IntKind) (a b : Int) : kInt .and k a k b K = K (.lit (.int k (bitsI .and k a b))) [] [] [] := by simp [kInt]
theorem i_or (k : IntKind) (a b : Int) : kInt .or k a k b K = K (.lit (.int k (bitsI .or k a b))) [] [] [] := by simp [kInt]
theorem i_xor (k : IntKind) (a b : Int) : kInt .xor k a k b K = K (.lit (.int k (bitsI .xor k a b))) [] [] [] := by simp [kInt]
theorem i_andNot (k : IntKind) (a b : Int) : kInt .andNot k a k b K = K (.lit (.int k (bitsI .andNot k a b))) [] [] [] := by simp [kInt]
theorem i_shl (k k' : IntKind) (a b : Int) : kInt .shl k a k' b K = (0 ≤ b ∧ K (.lit (.int k (k.wrap (a * 2 ^ min b.toNat k.bits)))) [] [] []) := (rfl)
theorem i_shr (k k' : IntKind) (a b : Int) : kInt .shr k a k' b K = (0 ≤ b ∧ K (.lit (.int k (a.fdiv (2 ^ min b.toNat k.bits)))) [] [] []) := (rfl)
theorem i_eql (k : IntKind) (a b : Int) : kInt .eql k a k b K = K (.lit (.bool (a == b))) [] [] [] := by simp [kInt]
theorem i_neq (k : IntKind) (a b : Int) : kInt .neq k a k b K = K (.lit (.bool (a != b))) [] [] [] := by simp [kInt]
theorem i_lss (k : IntKind) (a b : Int) : kInt .lss k a k b K = K (.lit (.bool (decide (a < b)))) [] [] [] := by simp [kInt]
theorem i_leq (k : IntKind) (a b : Int) : kInt .leq k a k b K = K (.lit (.bool (decide (a ≤ b)))) [] [] [] := by simp [kInt]
theorem i_gtr (k : IntKind) (a b : Int) : kInt .gtr k a k b K = K (.lit (.bool (decide (b < a)))) [] [] [] := by simp [kInt]
theorem i_geq (k : IntKind) (a b : Int) : kInt .geq k a k b K = K (.lit (.bool (decide (b ≤ a)))) [] [] [] := by simp [kInt]
theorem s_eql (a b : ByteArray) : kStr .eql a b K = K (.lit (.bool (a.toList == b.toList))) [] [] [] := (rfl)
theorem s_neq (a b : ByteArray) : kStr .neq a b K = K (.lit (.bool (!(a.toList == b.toList)))) [] [] [] := (rfl)
theorem kBox_of {x : AV} {cs : List AV} (h : x.parts = some cs) (n : Nat) : kBox x n K = K (.ref n 0) [] [] [.cells cs] := by simp [kBox, h]
theorem kBox_int (k : IntKind) (a : Int) (n : Nat) : kBox (.lit (.int k a)) n K = K (.ref n 0) [] [] [.cells [.lit (.int k a)]] := (rfl)
theorem kBox_bool (b : Bool) (n : Nat) : kBox (.lit (.bool b)) n K = K (.ref n 0) [] [] [.cells [.lit (.bool b)]] := (rfl)
theorem kBox_agg (xs : List AV) (n : Nat) : kBox (.agg xs) n K = K (.ref n 0) [] [] [.cells xs] := (rfl)
theorem kBox_ref (i o : Nat) (n : Nat) : kBox (.ref i o) n K = K (.ref n 0) [] [] [.cells [.ref i o]] := (rfl)
theorem kBox_sl (t : Tag) (k : Nat) (xs : List AV) (n : Nat) : kBox (.sl t k xs) n K = K (.ref n 0) [] [] [.cells [.sl t k xs]] := (rfl)
theorem kBuild_eq (cells : List AV) (ps : List (Nat × Nat × AV)) : kBuild cells ps K = match fillA cells ps with
    | some cs => K (.agg cs) [] [] []
    | none => False := (rfl)
theorem fillA_nil (cells : List AV) : fillA cells [] = some cells := (rfl)
theorem fillA_cons (cells : List AV) (off size : Nat) (x : AV) (rest : List (Nat × Nat × AV)) : fillA cells ((off, size, x) :: rest) = match x.parts with
    | some cs => if cs.length = size ∧ off + size ≤ cells.length then fillA (splice cells off cs) rest else none
    | none => none := (rfl)
theorem kBsl_eq (k : Nat) (xs : List AV) : kBsl k xs K = (xs.all (okEl k) = true ∧ K (.sl .full k xs) [] [] []) := (rfl)
theorem okEl_eq (k : Nat) (x : AV) : okEl k x = match x.parts with
    | some cs => cs.length == k
    | none => false := (rfl)
theorem l_iptr1 (x : AV) (cs : List AV) : kLoad none (.iptr (x :: cs)) S K = K x [] [] [] := (rfl)
theorem l_iptrn (n : Nat) (cs : List AV) : kLoad (some n) (.iptr cs) S K = (n ≤ cs.length ∧ K (.agg (cs.take n)) [] [] []) := (rfl)
theorem l_ref (n : Option Nat) (i o : Nat) : kLoad n (.ref i o) S K = match S[i]? with
    | some (.cells xs) => match n with
      | none => match xs[o]? with
        | some x => K x [i] [] []
        | none => False
      | some n => o + n ≤ xs.length ∧ K (.agg ((xs.drop o).take n)) [i] [] []
    | _ => False := (rfl)
theorem st_ref (n i o : Nat) (x : AV) : kStore n (.ref i o) x S K = match S[i]? with
    | some (.cells xs) => match x.parts with
      | some cs => cs.length = n ∧ o + n ≤ xs.length ∧ K .any [i] [(i, .cells (splice xs o cs))] []
      | none => False
    | _ => False := (rfl)
theorem nil_ref (i o : Nat) : kNil (.ref i o) K = K (.ref i o) [] [] [] := (rfl)
theorem nil_iptr (cs : List AV) : kNil (.iptr cs) K = K (.iptr cs) [] [] [] := (rfl)
theorem eqb_lit (neg a b : Bool) : kEqb neg (.lit (.bool a)) (.lit (.bool b)) K = K (.lit (.bool (if neg then !(a == b) else a == b))) [] [] [] := (rfl)
theorem eqa_agg (neg : Bool) (n : Nat) (xs ys : List AV) : kEqa neg n (.agg xs) (.agg ys) K = (xs.length = n ∧ eqOk xs ys = true ∧ K (.lit (.bool (if neg then !(cellsEq xs ys) else cellsEq xs ys))) [] [] []) := (rfl)
theorem cellsEq_nil : cellsEq [] [] = true := (rfl)
theorem cellsEq_cons (k k' : IntKind) (a b : Int) (xs ys : List AV) : cellsEq (.lit (.int k a) :: xs) (.lit (.int k' b) :: ys) = ((a == b) && cellsEq xs ys) := (rfl)
theorem eqOk_nil : eqOk [] [] = true := (rfl)
theorem eqOk_cons (k : IntKind) (a b : Int) (xs ys : List AV) : eqOk (.lit (.int k a) :: xs) (.lit (.int k b) :: ys) = eqOk xs ys := by simp [eqOk]
theorem eqp_ref (neg : Bool) (i o : Nat) : kEqp neg (.ref i o) (.lit (.pointer none)) K = K (.lit (.bool neg)) [] [] [] := (rfl)
theorem eqp_nil (neg : Bool) : kEqp neg (.lit (.pointer none)) (.lit (.pointer none)) K = K (.lit (.bool !neg)) [] [] [] := (rfl)
theorem un_neg (k : IntKind) (n : Int) : kUn .neg (.lit (.int k n)) K = K (.lit (.int k (k.wrap (0 - n)))) [] [] [] := (rfl)
theorem un_xor (k : IntKind) (n : Int) : kUn .xor (.lit (.int k n)) K = K (.lit (.int k (bitsI .xor k (if k.signed then -1 else k.max) n))) [] [] [] := (rfl)
theorem un_not (b : Bool) : kUn .not (.lit (.bool b)) K = K (.lit (.bool !b)) [] [] [] := (rfl)
theorem cvt_int (k k' : IntKind) (n : Int) : kCvt k (.lit (.int k' n)) K = K (.lit (.int k (k.wrap n))) [] [] [] := (rfl)
theorem b2s_sl (t : Tag) (k : Nat) (xs : List AV) : kB2s (.sl t k xs) K = ((k = 1 ∨ xs = []) ∧ xs.all (·.isU8) = true ∧ K (.lit (.string (bytesOf xs))) [] [] []) := (rfl)
theorem s2b_str (s : ByteArray) : kS2b (.lit (.string s)) K = (s.size ≤ 140737488355328 ∧ K (.sl .none 1 (s.data.toList.map fun b => .lit (.int .u8 b.toNat))) [] [] []) := (rfl)
theorem sli_lh (k ks : Nat) (t : Tag) (xs : List AV) (k1 k2 : IntKind) (l h : Int) : kSlice k (.sl t ks xs) (some (.lit (.int k1 l))) (some (.lit (.int k2 h))) none K =
    ((ks = k ∨ xs = []) ∧ 0 ≤ l ∧ l ≤ h ∧ h ≤ xs.length ∧ K (.sl .none ks ((xs.drop l.toNat).take (h - l).toNat)) [] [] []) := (rfl)
theorem sli_h (k ks : Nat) (t : Tag) (xs : List AV) (k2 : IntKind) (h : Int) : kSlice k (.sl t ks xs) none (some (.lit (.int k2 h))) none K =
    ((ks = k ∨ xs = []) ∧ 0 ≤ h ∧ h ≤ xs.length ∧ K (.sl .none ks (xs.take h.toNat)) [] [] []) := by
  simp [kSlice, bnd, AV.i, sTag]
theorem sli_l_full (k ks : Nat) (xs : List AV) (k1 : IntKind) (l : Int) : kSlice k (.sl .full ks xs) (some (.lit (.int k1 l))) none none K =
    ((ks = k ∨ xs = []) ∧ 0 ≤ l ∧ l ≤ xs.length ∧ K (.sl .full ks (xs.drop l.toNat)) [] [] []) := by
  simp only [kSlice, bnd, AV.i, sTag, Int.le_refl, true_and]
  congr 4
  funext
  rw [List.take_of_length_le]
  simp; omega
theorem sli_l_none (k ks : Nat) (xs : List AV) (k1 : IntKind) (l : Int) : kSlice k (.sl .none ks xs) (some (.lit (.int k1 l))) none none K =
    ((ks = k ∨ xs = []) ∧ 0 ≤ l ∧ l ≤ xs.length ∧ K (.sl .none ks (xs.drop l.toNat)) [] [] []) := by
  simp only [kSlice, bnd, AV.i, sTag, Int.le_refl, true_and]
  congr 4
  funext
  rw [List.take_of_length_le]
  simp; omega
theorem sli_hm (k ks : Nat) (t : Tag) (xs : List AV) (k2 k3 : IntKind) (h m : Int) : kSlice k (.sl t ks xs) none (some (.lit (.int k2 h))) (some (.lit (.int k3 m))) K =
    ((ks = k ∨ xs = []) ∧ 0 ≤ h ∧ h ≤ xs.length ∧ m = h ∧ K (.sl .full ks (xs.take h.toNat)) [] [] []) := by
  simp [kSlice, bnd, AV.i]
theorem fadr_ref (off i o : Nat) : kFadr off (.ref i o) K = K (.ref i (o + off)) [] [] [] := (rfl)
theorem fadr_iptr (off : Nat) (cs : List AV) : kFadr off (.iptr cs) K = K (.iptr (cs.drop off)) [] [] [] := (rfl)
theorem fld_one (off : Nat) (xs : List AV) : kFld off none (.agg xs) K = match xs[off]? with
    | some x => K x [] [] []
    | none => False := (rfl)
theorem fld_n (off n : Nat) (xs : List AV) : kFld off (some n) (.agg xs) K = (off + n ≤ xs.length ∧ K (.agg ((xs.drop off).take n)) [] [] []) := (rfl)
theorem iadr_sl (k ks : Nat) (t : Tag) (xs : List AV) (k1 : IntKind) (i : Int) : kIadr k (.sl t ks xs) (.lit (.int k1 i)) K = (ks = k ∧ 0 ≤ i ∧ i < xs.length ∧ K (.iptr (xs.getD i.toNat .any).cells) [] [] []) := (rfl)
theorem aadr_ref (len k i o : Nat) (k1 : IntKind) (n : Int) : kAadr len k (.ref i o) (.lit (.int k1 n)) K = (0 ≤ n ∧ n < len ∧ K (.ref i (o + n.toNat * k)) [] [] []) := (rfl)
theorem idx_agg (len k : Nat) (n : Option Nat) (xs : List AV) (k1 : IntKind) (i : Int) : kIdx len k n (.agg xs) (.lit (.int k1 i)) K = (0 ≤ i ∧ i < len ∧ kFld (i.toNat * k) n (.agg xs) K) := (rfl)
theorem ext_tup (xs : List AV) (i : Nat) : kExt (.tup xs) i K = match xs[i]? with
    | some x => K x [] [] []
    | none => False := (rfl)
theorem call_fn (f : FuncId) (a b args : List AV) : kCall P (.fn f a b) args S K = CallK P f (a ++ args ++ b) S K := (rfl)
theorem app_full (k bytes ks ky : Nat) (t : Tag) (xs ys : List AV) : kApp k bytes (.sl .full ks xs) (.sl t ky ys) S K =
    ((ks = k ∨ xs = []) ∧ (ky = k ∨ ys = []) ∧ (xs.length + ys.length) * bytes ≤ 140737488355328 ∧ K (.sl (.row S.length) k (xs ++ ys)) [] [] [.row k (xs.length + ys.length)]) := (rfl)
theorem app_row (k bytes ks ky j : Nat) (t : Tag) (xs ys : List AV) : kApp k bytes (.sl (.row j) ks xs) (.sl t ky ys) S K =
    ((ks = k ∨ xs = []) ∧ (ky = k ∨ ys = []) ∧ (xs.length + ys.length) * bytes ≤ 140737488355328 ∧ S[j]? = some (.row k xs.length) ∧ K (.sl (.row j) k (xs ++ ys)) [j] [(j, .row k (xs.length + ys.length))] []) := (rfl)
theorem len_sl (t : Tag) (k : Nat) (xs : List AV) : kLen false (.sl t k xs) K = K (.lit (.int .i64 xs.length)) [] [] [] := (rfl)
theorem len_str (s : ByteArray) : kLen true (.lit (.string s)) K = K (.lit (.int .i64 s.size)) [] [] [] := (rfl)
theorem mx_int (b : Bool) (k k' : IntKind) (x y : Int) : kMx b (.lit (.int k x)) (.lit (.int k' y)) K = K (.lit (.int k (if b then (if y > x then y else x) else if y < x then y else x))) [] [] [] := (rfl)

theorem okTr_nil (tr : List (List Nat × List Nat)) : okTr [] tr = true := (rfl)
end
end Go.Proofs.Ytgphhganepjaiaa
