/-
  Regions over abstract values: what their operations do, one behind the other; in the text's order. Over any program.
-/
import Derived.Test.YtgphhganepjaiaaAb10
namespace Go.Proofs.Ytgphhganepjaiaa

/-- May an operation touch the store? -/
def tch : I → Bool
  | .new _ | .box _ | .load _ _ | .store _ _ _ | .call _ _ | .app _ _ _ _ | .mksl _ _ _ _ => true
  | _ => false
theorem effK_pure {P : Program} {i : I} {ρ : Operand → AV} {S : List AObj} {K : KT} (ht : tch i = false) (h : effK P i ρ S K) : effK P i ρ S (fun v rd upd new => (rd = [] ∧ upd = [] ∧ new = []) ∧ K v rd upd new) := by
  cases i <;> simp only [tch, Bool.true_eq_false] at ht <;> clear ht <;> dsimp only [effK] at h ⊢
  case mov => exact ⟨⟨by trivial, by trivial, by trivial⟩, h⟩
  case pick => unfold kPick at h ⊢; split at h <;> simp_all
  case build => unfold kBuild at h ⊢; split at h <;> simp_all
  case bsl => exact ⟨h.1, ⟨by trivial, by trivial, by trivial⟩, h.2⟩
  case nilc => unfold kNil at h ⊢; split at h <;> simp_all
  case bin op x y =>
    unfold kBin at h ⊢
    split at h
    · cases op <;> dsimp only [kInt] at h ⊢ <;> first | exact ⟨h.1, ⟨by trivial, by trivial, by trivial⟩, h.2⟩ | exact ⟨h.1, h.2.1, ⟨by trivial, by trivial, by trivial⟩, h.2.2⟩
    · cases op <;> dsimp only [kStr] at h ⊢ <;> first | exact ⟨⟨by trivial, by trivial, by trivial⟩, h⟩ | exact h.elim
    · exact h.elim
  case eqb => unfold kEqb at h ⊢; split at h <;> simp_all
  case eqa => unfold kEqa at h ⊢; split at h <;> simp_all
  case eqp => unfold kEqp at h ⊢; split at h <;> simp_all
  case un => unfold kUn at h ⊢; split at h <;> simp_all
  case cvt => unfold kCvt at h ⊢; split at h <;> simp_all
  case b2s => unfold kB2s at h ⊢; split at h <;> simp_all
  case s2b => unfold kS2b at h ⊢; split at h <;> simp_all
  case slice => 
    unfold kSlice at h ⊢
    split at h
    · split at h
      · rename_i l hh hl hhh
        simp only []
        obtain ⟨h1, h2, h3, h4, h5⟩ := h
        refine ⟨h1, h2, h3, h4, ?_⟩
        split at h5
        · exact ⟨⟨by trivial, by trivial, by trivial⟩, h5⟩
        · exact ⟨h5.1, ⟨by trivial, by trivial, by trivial⟩, h5.2⟩
      · exact h.elim
    · exact h.elim
  case sstr =>
    unfold kSstr at h ⊢
    split at h
    · split at h
      · rename_i l hh hl hhh
        simp only []
        exact ⟨h.1, h.2.1, h.2.2.1, ⟨by trivial, by trivial, by trivial⟩, h.2.2.2⟩
      · exact h.elim
    · exact h.elim
  case fadr => unfold kFadr at h ⊢; split at h <;> simp_all
  case fld => unfold kFld at h ⊢; (repeat' split at h) <;> simp_all
  case iadr =>
    unfold kIadr at h ⊢
    split at h
    · exact ⟨h.1, h.2.1, h.2.2.1, ⟨by trivial, by trivial, by trivial⟩, h.2.2.2⟩
    · exact h.elim
  case aadr => unfold kAadr at h ⊢; split at h <;> simp_all
  case idx => unfold kIdx kFld at h ⊢; (repeat' split at h) <;> simp_all
  case sidx =>
    unfold kSidx at h ⊢
    split at h
    · exact ⟨h.1, h.2.1, ⟨by trivial, by trivial, by trivial⟩, h.2.2⟩
    · exact h.elim
  case ext => unfold kExt at h ⊢; (repeat' split at h) <;> simp_all
  case mkf => exact ⟨⟨by trivial, by trivial, by trivial⟩, h⟩
  case len => unfold kLen at h ⊢; split at h <;> simp_all
  case lenc => exact ⟨⟨by trivial, by trivial, by trivial⟩, h⟩
  case mx => unfold kMx at h ⊢; split at h <;> simp_all


abbrev RO := Option (Nat × Bool) × I × Option Nat

def setD (tm : List AV) (d : Option Nat) (v : AV) : List AV := match d with
  | some t => tm.set t v
  | none => tm
/-- Is an operation wanted, by its guard's value: yes, no, or it can't be told. -/
def gdK (x : AV) (want : Bool) (run skip : Prop) : Prop :=
  match x with
  | .lit (.bool b) => if b = want then run else skip
  | .lit _ => skip
  | _ => False
def disj (a b : List Nat) : Bool := a.all fun x => !b.contains x
/-- Two operations whose order is open do not touch what the other one reads. -/
def okTr (u : List (Nat × Nat)) (tr : List (List Nat × List Nat)) : Bool :=
  u.all fun p => disj (tr.getD p.1 ([], [])).2 (tr.getD p.2 ([], [])).1 && disj (tr.getD p.2 ([], [])).2 (tr.getD p.1 ([], [])).1

def aReg (P : Program) : List RO → List (Nat × Nat) → List (List Nat × List Nat) → List AV → List AObj → (List AV → List AObj → Prop) → Prop
  | [], u, tr, tm, S, Q => okTr u tr = true ∧ Q tm S
  | (none, i, d) :: rest, u, tr, tm, S, Q => effK P i (ev tm) S fun v rd upd new => aReg P rest u (tr ++ [(rd, upd.map (·.1) ++ (newU S.length new).map (·.1))]) (setD tm d v) (updL S upd ++ new) Q
  | (some (t, want), i, d) :: rest, u, tr, tm, S, Q => gdK (tm.getD t .any) want
      (effK P i (ev tm) S fun v rd upd new => aReg P rest u (tr ++ [(rd, upd.map (·.1) ++ (newU S.length new).map (·.1))]) (setD tm d v) (updL S upd ++ new) Q)
      (aReg P rest u (tr ++ [([], [])]) (setD tm d (.lit undef)) S Q)

structure RecR where
  ran : Bool
  v : AV
  rd : List Nat
  upd : List (Nat × AObj)
  new : List AObj

def sT (dst : Nat → Option Nat) (r : Nat → RecR) (tm : List AV) : Nat → List AV
  | 0 => tm
  | i + 1 => setD (sT dst r tm i) (dst i) (r i).v
def sS (r : Nat → RecR) (S : List AObj) : Nat → List AObj
  | 0 => S
  | i + 1 => updL (sS r S i) (r i).upd ++ (r i).new

/-- Operation o, whose guard reads slot g, in this state: it ran, or it was not wanted. -/
def RecOk (P : Program) (o : Oper) (i : I) (g : Option (Nat × Bool)) (tm : List AV) (S : List AObj) (r : RecR) : Prop :=
  if r.ran then (∀ t w, g = some (t, w) → tm.getD t .any = .lit (.bool w)) ∧ Eff P o (ev tm) S r.v r.rd r.upd r.new ∧ (∀ p ∈ r.upd, p.1 ∈ r.rd) ∧ (∀ i ∈ r.rd, i < S.length) ∧ (tch i = false → r.rd = [] ∧ r.upd = [] ∧ r.new = [])
  else (∃ t w u, g = some (t, w) ∧ tm.getD t .any = .lit u ∧ u ≠ .bool w) ∧ r.v = .lit undef ∧ r.rd = [] ∧ r.upd = [] ∧ r.new = []

def frec (r : RecR) (N : Nat) : List Nat × List Nat := (r.rd, r.upd.map (·.1) ++ (newU N r.new).map (·.1))

theorem sT_shift (dst : Nat → Option Nat) (r : Nat → RecR) (tm : List AV) (i : Nat) : sT (fun j => dst (j + 1)) (fun j => r (j + 1)) (setD tm (dst 0) (r 0).v) i = sT dst r tm (i + 1) := by
  induction i with
  | zero => rfl
  | succ i ih => simp only [sT, ih]
theorem sS_shift (r : Nat → RecR) (S : List AObj) (i : Nat) : sS (fun j => r (j + 1)) (updL S (r 0).upd ++ (r 0).new) i = sS r S (i + 1) := by
  induction i with
  | zero => rfl
  | succ i ih => simp only [sS, ih]

/-- A region's run is a row of records. -/
theorem aReg_recs {P : Program} : ∀ (os : List Oper) (cs : List RO) (u : List (Nat × Nat)) (tr : List (List Nat × List Nat)) (tm : List AV) (S : List AObj) (Q : List AV → List AObj → Prop),
    os.length = cs.length → (∀ (j : Nat) (o : Oper) (c : RO), os[j]? = some o → cs[j]? = some c → compOp P o = some c.2.1 ∧ o.dst = c.2.2) → aReg P cs u tr tm S Q →
    ∃ r : Nat → RecR, (∀ (j : Nat) (o : Oper) (c : RO), os[j]? = some o → cs[j]? = some c → RecOk P o c.2.1 c.1 (sT (fun j => (os[j]?).bind (·.dst)) r tm j) (sS r S j) (r j)) ∧
      okTr u (tr ++ (List.range os.length).map fun j => frec (r j) (sS r S j).length) = true ∧ Q (sT (fun j => (os[j]?).bind (·.dst)) r tm os.length) (sS r S os.length) := by
  intro os
  induction os with
  | nil =>
    intro cs u tr tm S Q hl hc h
    have : cs = [] := List.eq_nil_of_length_eq_zero (by simpa using hl.symm)
    subst this
    simp only [aReg] at h
    exact ⟨fun _ => ⟨false, .any, [], [], []⟩, fun j o c ho => by simp at ho, by simpa using h.1, h.2⟩
  | cons o os ih =>
    intro cs u tr tm S Q hl hc h
    cases cs with
    | nil => simp at hl
    | cons c cs =>
      obtain ⟨g, i, d⟩ := c
      obtain ⟨hco, hd⟩ := hc 0 o (g, i, d) rfl rfl
      simp only at hco hd
      subst hd
      have hcs : ∀ (j : Nat) (o' : Oper) (c : RO), os[j]? = some o' → cs[j]? = some c → compOp P o' = some c.2.1 ∧ o'.dst = c.2.2 := fun j o' c h1 h2 => hc (j + 1) o' c (by simpa using h1) (by simpa using h2)
      have hl' : os.length = cs.length := by simpa using hl
      -- what one step gives
      have fin : ∀ (r0 : RecR), RecOk P o i g tm S r0 → aReg P cs u (tr ++ [frec r0 S.length]) (setD tm o.dst r0.v) (updL S r0.upd ++ r0.new) Q →
          ∃ r : Nat → RecR, (∀ (j : Nat) (o' : Oper) (c : RO), (o :: os)[j]? = some o' → ((g, i, o.dst) :: cs)[j]? = some c → RecOk P o' c.2.1 c.1 (sT (fun j => ((o :: os)[j]?).bind (·.dst)) r tm j) (sS r S j) (r j)) ∧
            okTr u (tr ++ (List.range (o :: os).length).map fun j => frec (r j) (sS r S j).length) = true ∧ Q (sT (fun j => ((o :: os)[j]?).bind (·.dst)) r tm (o :: os).length) (sS r S (o :: os).length) := by
        intro r0 h0 hrest
        obtain ⟨r', h1, h2, h3⟩ := ih cs u _ _ _ Q hl' hcs hrest
        refine ⟨fun j => match j with | 0 => r0 | j + 1 => r' j, fun j o' c ho hc' => ?_, ?_, ?_⟩
        · cases j with
          | zero => simp at ho hc'; subst ho hc'; exact h0
          | succ j =>
            have := h1 j o' c (by simpa using ho) (by simpa using hc')
            rw [← sT_shift, ← sS_shift]
            exact this
        · rw [List.length_cons, List.range_succ_eq_map]
          rw [List.append_assoc] at h2
          simp only [List.map_cons, List.map_map, List.singleton_append] at h2 ⊢
          have e : (fun j => frec (r' j) (sS r' (updL S r0.upd ++ r0.new) j).length) = (fun j => frec ((fun j => match j with | 0 => r0 | j + 1 => r' j : Nat → RecR) j) (sS (fun j => match j with | 0 => r0 | j + 1 => r' j) S j).length) ∘ Nat.succ := by
            funext j
            simp only [Function.comp, Nat.succ_eq_add_one]
            rw [← sS_shift]
          rw [e] at h2
          exact h2
        · rw [List.length_cons, ← sT_shift, ← sS_shift]
          exact h3
      have run : effK P i (ev tm) S (fun v rd upd new => aReg P cs u (tr ++ [(rd, upd.map (·.1) ++ (newU S.length new).map (·.1))]) (setD tm o.dst v) (updL S upd ++ new) Q) → (∀ t w, g = some (t, w) → tm.getD t .any = .lit (.bool w)) →
          ∃ r0, RecOk P o i g tm S r0 ∧ aReg P cs u (tr ++ [frec r0 S.length]) (setD tm o.dst r0.v) (updL S r0.upd ++ r0.new) Q := by
        intro he hg
        by_cases ht : tch i = false
        · obtain ⟨v, rd, upd, new, h1, h2, h2', h2'', h3⟩ := effK_sound hco (effK_pure ht he)
          exact ⟨⟨true, v, rd, upd, new⟩, by simp only [RecOk, if_true]; exact ⟨hg, h1, h2, h2', fun _ => h2''⟩, h3⟩
        · obtain ⟨v, rd, upd, new, h1, h2, h2', h3⟩ := effK_sound hco he
          exact ⟨⟨true, v, rd, upd, new⟩, by simp only [RecOk, if_true]; exact ⟨hg, h1, h2, h2', fun e => (ht e).elim⟩, h3⟩
      cases g with
      | none =>
        simp only [aReg] at h
        obtain ⟨r0, h1, h2⟩ := run h (fun t w e => by cases e)
        exact fin r0 h1 h2
      | some g =>
        obtain ⟨t, want⟩ := g
        simp only [aReg, gdK] at h
        have skip : ∀ u', tm.getD t .any = .lit u' → u' ≠ .bool want → aReg P cs u (tr ++ [([], [])]) (setD tm o.dst (.lit undef)) S Q → ∃ r0, RecOk P o i (some (t, want)) tm S r0 ∧ aReg P cs u (tr ++ [frec r0 S.length]) (setD tm o.dst r0.v) (updL S r0.upd ++ r0.new) Q := by
          intro u' hu' hne hk
          exact ⟨⟨false, .lit undef, [], [], []⟩, by unfold RecOk; rw [if_neg (by simp)]; exact ⟨⟨t, want, u', rfl, hu', hne⟩, rfl, rfl, rfl, rfl⟩, by simpa [frec, newU] using hk⟩
        split at h
        · rename_i b hb
          split at h
          · rename_i hbw
            subst hbw
            obtain ⟨r0, h1, h2⟩ := run h (fun t' w e => by injection e with e; injection e with e1 e2; subst e1 e2; exact hb)
            exact fin r0 h1 h2
          · rename_i hbw
            obtain ⟨r0, h1, h2⟩ := skip _ hb (fun e => by injection e with e; exact hbw e) h
            exact fin r0 h1 h2
        · rename_i x u' hne hu'
          obtain ⟨r0, h1, h2⟩ := skip u' hu' (fun e => hne want (by rw [e])) h
          exact fin r0 h1 h2
        · exact h.elim

/-- What a frame and a world bear, since the function was entered. -/
structure Cz (G0 : Gh) (S0 : List AObj) (w0 : World) (tm : List AV) (S : List AObj) (G : Gh) (a : Act) (w : World) : Prop where
  left : Left G0 S0 w0 G S w
  size : a.tmps.size = tm.length
  rep : ∀ (t : Nat) (x : AV) (v : Value), tm[t]? = some x → a.tmps[t]? = some v → Rep G x v
  defers : a.defers = []
  wd0 : Wd G0 S0 w0
theorem Cz.ev {G0 : Gh} {S0 : List AObj} {w0 : World} {tm : List AV} {S : List AObj} {G : Gh} {a : Act} {w : World} (h : Cz G0 S0 w0 tm S G a w) (x : Operand) : Rep G (ev tm x) (a.eval x) := by
  cases x with
  | tmp t =>
    simp only [Proofs.Ytgphhganepjaiaa.ev, Act.eval]
    by_cases ht : t < tm.length
    · have h1 := List.getElem?_eq_getElem ht
      have h2 := Array.getElem?_eq_getElem (show t < a.tmps.size by rw [h.size]; exact ht)
      have := h.rep t _ _ h1 h2
      simpa [ht, h.size] using this
    · simp [ht]; exact .any _
  | const v => exact rep_ofC G v
  | global g => exact .any _
  | func f =>
    exact .fn (by simp) (by simp) (fun j x v h => by simp at h) (fun j x v h => by simp at h)
theorem Cz.put {G0 : Gh} {S0 : List AObj} {w0 : World} {tm : List AV} {S S' : List AObj} {G G' : Gh} {a : Act} {w w' : World} (h : Cz G0 S0 w0 tm S G a w) (hl : Left G S w G' S' w') {x : AV} {v : Value} (hv : Rep G' x v) (d : Option Nat) :
    Cz G0 S0 w0 (setD tm d x) S' G' (a.put d v) w' := by
  refine ⟨h.left.trans hl, ?_, fun t y u hy hu => ?_, ?_, h.wd0⟩
  · cases d <;> simp [Act.put, setD, h.size]
  · cases d with
    | none => exact (h.rep t y u hy hu).mono hl.le
    | some d =>
      simp only [setD, Act.put] at hy hu
      by_cases e : t = d
      · subst e
        rw [List.getElem?_set] at hy
        rw [Array.getElem?_setIfInBounds] at hu
        simp only [if_true] at hy hu
        split at hy
        · injection hy with hy; subst hy
          rw [if_pos (by rw [h.size]; assumption)] at hu
          injection hu with hu; subst hu; exact hv
        · cases hy
      · rw [List.getElem?_set_ne (Ne.symm e)] at hy
        rw [Array.getElem?_setIfInBounds_ne (Ne.symm e)] at hu
        exact (h.rep t y u hy hu).mono hl.le
  · cases d <;> exact h.defers

theorem Left.dead {G : Gh} {S : List AObj} {w : World} (h : Wd G S w) (n : Nat) : Left G S w G (S ++ List.replicate n .dead) w := by
  have hold : ∀ {i : Nat} {o : AObj}, (S ++ List.replicate n .dead)[i]? = some o → o ≠ .dead → S[i]? = some o := fun {i o} e hne => by
    rw [List.getElem?_append] at e
    split at e
    · exact e
    · rw [List.getElem?_replicate] at e
      split at e
      · injection e with e; exact (hne e.symm).elim
      · cases e
  have hblk : ∀ i, blk G (S ++ List.replicate n .dead) i = blk G S i := by
    intro i
    by_cases hi : i < S.length
    · simp [blk, List.getElem?_append_left hi]
    · have h1 : S[i]? = none := List.getElem?_eq_none (by omega)
      cases he : (S ++ List.replicate n AObj.dead)[i]? with
      | none => simp [blk, he, h1]
      | some o =>
        cases o with
        | dead => simp [blk, he, h1]
        | cells xs => have := hold he (by simp); rw [h1] at this; cases this
        | row k m => have := hold he (by simp); rw [h1] at this; cases this
  refine ⟨Gh.Le.refl _, ⟨h.imm, fun i hi => ?_, fun i xs hi => h.obj i xs (hold hi (by simp)), fun j k m hj => h.row j k m (hold hj (by simp)), fun i j b hi hj => h.sep i j b (by rw [← hblk]; exact hi) (by rw [← hblk]; exact hj)⟩, Kept.refl _ _, fun i b hb => .inr ⟨i, by rw [← hblk]; exact hb⟩, fun _ _ _ h => .inl h⟩
  by_cases hlt : i < S.length
  · rw [List.getElem?_append_left hlt] at hi; exact h.dom i hi
  · exact h.dom i (.inl (List.getElem?_eq_none (by omega)))

theorem newU_length (n : Nat) (l : List AObj) : (newU n l).length = l.length := by
  induction l generalizing n with
  | nil => rfl
  | cons o l ih => simp [newU, ih]
theorem newU_mem {n : Nat} {l : List AObj} {p : Nat × AObj} (h : p ∈ newU n l) : n ≤ p.1 ∧ p.1 < n + l.length ∧ l[p.1 - n]? = some p.2 := by
  induction l generalizing n with
  | nil => cases h
  | cons o l ih =>
    simp only [newU, List.mem_cons] at h
    rcases h with rfl | h
    · simp
    · obtain ⟨h1, h2, h3⟩ := ih h
      refine ⟨by omega, by simp; omega, ?_⟩
      rw [show p.1 - n = (p.1 - (n + 1)) + 1 by omega]; simpa using h3
/-- New objects laid at places that were kept free are appended. -/
theorem updL_new (S : List AObj) (new : List AObj) : ∀ (n : Nat), n = S.length → updL (S ++ List.replicate new.length .dead) (newU n new) = S ++ new := by
  induction new generalizing S with
  | nil => intro n hn; simp [newU]
  | cons o new ih =>
    intro n hn
    subst hn
    simp only [List.length_cons, newU, updL_cons, List.replicate_succ]
    have : (S ++ AObj.dead :: List.replicate new.length AObj.dead).set S.length o = (S ++ [o]) ++ List.replicate new.length AObj.dead := by
      rw [List.set_append_right _ _ (Nat.le_refl _)]; simp
    rw [this, ih (S ++ [o]) (S.length + 1) (by simp)]
    simp
theorem updL_append (T : List AObj) (u v : List (Nat × AObj)) : updL T (u ++ v) = updL (updL T u) v := by
  induction u generalizing T with
  | nil => rfl
  | cons p u ih => simp [ih]
theorem updL_left (S R : List AObj) (u : List (Nat × AObj)) (h : ∀ p ∈ u, p.1 < S.length) : updL (S ++ R) u = updL S u ++ R := by
  induction u generalizing S with
  | nil => rfl
  | cons p u ih =>
    rw [updL_cons, updL_cons, List.set_append_left _ _ (h p (by simp)), ih _ (fun q hq => by simpa using h q (by simp [hq]))]

section
variable {P : Program}

/-- One operation in the text's order. -/
theorem step_text {o : Oper} {G0 : Gh} {S0 : List AObj} {w0 : World} {tm : List AV} {S : List AObj} {G : Gh} {a : Act} {w : World} (hz : Cz G0 S0 w0 tm S G a w) {v : AV} {rd : List Nat} {upd : List (Nat × AObj)} {new : List AObj}
    (he : Eff P o (ev tm) S v rd upd new) (hu : ∀ p ∈ upd, p.1 ∈ rd) (hrd : ∀ i ∈ rd, i < S.length) (K : Act → World → Prop) (Q : Exit → Act → World → Prop)
    (hk : ∀ G' a' w', Cz G0 S0 w0 (setD tm o.dst v) (updL S upd ++ new) G' a' w' → K a' w') : o.wp P a w K Q := by
  have hd := Left.dead hz.left.wd new.length
  refine he (S ++ List.replicate new.length .dead) (fun i hi => List.getElem?_append_left (hrd i hi)) (fun p hp => ?_) G a w hd.wd (fun x _ => hz.ev x) K Q fun v' w' G' hv hl => hk G' _ _ ?_
  · obtain ⟨h1, h2, _⟩ := newU_mem hp
    rw [List.getElem?_append_right h1, List.getElem?_replicate, if_pos (by omega)]
  · have e : updL (S ++ List.replicate new.length .dead) (upd ++ newU S.length new) = updL S upd ++ new := by
      rw [updL_append, updL_left _ _ _ (fun p hp => hrd _ (hu p hp))]
      exact updL_new _ _ _ (by simp)
    rw [e] at hl
    exact hz.put (hd.trans hl) hv o.dst

end
end Go.Proofs.Ytgphhganepjaiaa
