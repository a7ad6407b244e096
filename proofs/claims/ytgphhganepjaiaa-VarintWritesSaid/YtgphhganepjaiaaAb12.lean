/-
  Regions over abstract values: in the text's order. Over any program.
-/
import Derived.Test.YtgphhganepjaiaaAb11
namespace Go.Proofs.Ytgphhganepjaiaa

def compOps (P : Program) (ops : Array Oper) : Option (List RO) :=
  optM (fun o : Oper => match compOp P o with
    | none => none
    | some i => match o.guard with
      | none => some (none, i, o.dst)
      | some (j, want) => match (ops[j]?).bind (·.dst) with
        | some t => some (some (t, want), i, o.dst)
        | none => none) ops.toList

section
variable {P : Program} {ops : Array Oper} {cs : List RO}
theorem compOps_at (h : compOps P ops = some cs) : ops.toList.length = cs.length ∧ ∀ (j : Nat) (o : Oper) (c : RO), ops.toList[j]? = some o → cs[j]? = some c →
    (compOp P o = some c.2.1 ∧ o.dst = c.2.2) ∧ (o.guard = none ∧ c.1 = none ∨ ∃ g want t, o.guard = some (g, want) ∧ (ops[g]?).bind (·.dst) = some t ∧ c.1 = some (t, want)) := by
  obtain ⟨h1, h2⟩ := optM_get h
  refine ⟨h1, fun j o c ho hc => ?_⟩
  have e := h2 j o c ho hc
  split at e
  · cases e
  · rename_i i hi
    split at e
    · rename_i hg; injection e with e; subst e; exact ⟨⟨hi, rfl⟩, .inl ⟨hg, rfl⟩⟩
    · rename_i g want hg
      split at e
      · rename_i t ht; injection e with e; subst e; exact ⟨⟨hi, rfl⟩, .inr ⟨g, want, t, hg, ht, rfl⟩⟩
      · cases e

/-- Whether an operation is wanted, by the record. -/
theorem wanted_of {G0 : Gh} {S0 : List AObj} {w0 : World} {tm : List AV} {S : List AObj} {G : Gh} {a : Act} {w : World} (hz : Cz G0 S0 w0 tm S G a w) {o : Oper} {i : I} {c : Option (Nat × Bool)} {tm' : List AV} {S' : List AObj} {r : RecR}
    (hg : o.guard = none ∧ c = none ∨ ∃ g want t, o.guard = some (g, want) ∧ (ops[g]?).bind (·.dst) = some t ∧ c = some (t, want)) (htm : ∀ t w, c = some (t, w) → tm.getD t .any = tm'.getD t .any) (hr : RecOk P o i c tm' S' r) :
    Region.wanted o (yielded ops a.tmps) = r.ran := by
  have look : ∀ {t : Nat} {u : Value}, tm.getD t .any = .lit u → a.tmps[t]? = some u := fun {t u} e => by
    by_cases ht : t < tm.length
    · have h1 : tm[t]? = some (.lit u) := by rw [← e]; simp [ht]
      have h2 := Array.getElem?_eq_getElem (show t < a.tmps.size by rw [hz.size]; exact ht)
      rw [h2, rep_lit (hz.rep t _ _ h1 h2)]
    · simp [ht] at e
  unfold RecOk at hr
  cases hran : r.ran with
  | true =>
    rw [hran, if_pos rfl] at hr
    rcases hg with ⟨h1, _⟩ | ⟨g, want, t, h1, h2, h3⟩
    · simp [Region.wanted, h1]
    · have e := look ((htm t want h3).trans (hr.1 t want h3))
      simp [Region.wanted, h1, yielded, h2, e]
  | false =>
    rw [hran, if_neg (by simp)] at hr
    obtain ⟨⟨t, want, u, hc, hu, hne⟩, _⟩ := hr
    rcases hg with ⟨_, h1⟩ | ⟨g, want', t', h1, h2, h3⟩
    · rw [h1] at hc; cases hc
    · rw [h3] at hc; injection hc with hc; injection hc with e1 e2; subst e1 e2
      have e := look ((htm t' want' h3).trans hu)
      simp only [Region.wanted, h1, yielded, h2, Option.bind_some, e]
      cases u <;> simp
      rintro rfl; exact hne rfl

/-- A region in the text's order. -/
theorem reg_text {id : Nat} {G0 : Gh} {S0 : List AObj} {w0 : World} {tm : List AV} {S : List AObj} {G : Gh} {a : Act} {w : World} (hc : compOps P ops = some cs) (hz : Cz G0 S0 w0 tm S G a w) {QA : List AV → List AObj → Prop} (h : aReg P cs [] [] tm S QA)
    (Q : Exit → Act → World → Prop) (hQ : ∀ tm' S' G' a' w', Cz G0 S0 w0 tm' S' G' a' w' → QA tm' S' → Q .normal a' w') : (Code.region id ops false).wp P Q a w := by
  obtain ⟨hl, hat⟩ := compOps_at hc
  obtain ⟨r, hrec, _, hfin⟩ := aReg_recs ops.toList cs [] [] tm S QA hl (fun j o c h1 h2 => (hat j o c h1 h2).1) h
  refine wp_region ?_
  have key : ∀ (k i : Nat) (G : Gh) (a : Act) (w : World), i + k = ops.size → Cz G0 S0 w0 (sT (fun j => (ops.toList[j]?).bind (·.dst)) r tm i) (sS r S i) G a w → wpOps P ops Q (List.range' i k) a w := by
    intro k
    induction k with
    | zero =>
      intro i G a w hi hz
      have e : i = ops.toList.length := by simp; omega
      subst e
      exact hQ _ _ _ _ _ hz hfin
    | succ k ih =>
      intro i G a w hi hz
      have hlt : i < ops.size := by omega
      have ho : ops[i]? = some ops[i] := Array.getElem?_eq_getElem hlt
      have hol : ops.toList[i]? = some ops[i] := by simp
      have hcl : cs[i]? = some (cs[i]'(by rw [← hl]; simpa using hlt)) := List.getElem?_eq_getElem _
      obtain ⟨_, hg⟩ := hat i _ _ hol hcl
      have hr := hrec i _ _ hol hcl
      have hw := wanted_of (ops := ops) hz hg (fun t w e => rfl) hr
      simp only [List.range'_succ, wpOps, ho, hw]
      unfold RecOk at hr
      have hnext : ∀ {x : AV} , setD (sT (fun j => (ops.toList[j]?).bind (·.dst)) r tm i) (ops[i]).dst (r i).v = sT (fun j => (ops.toList[j]?).bind (·.dst)) r tm (i + 1) := fun {x} => by
        simp only [sT, hol, Option.bind_some]
      cases hran : (r i).ran with
      | true =>
        rw [hran, if_pos rfl] at hr
        obtain ⟨_, he, hu, hrd, _⟩ := hr
        simp only [if_true]
        left
        refine step_text hz he hu hrd _ _ fun G' a' w' hz' => ih (i + 1) G' a' w' (by omega) ?_
        rw [hnext (x := .any)] at hz'
        exact hz'
      | false =>
        rw [hran, if_neg (by simp)] at hr
        obtain ⟨_, hv, hrd, hu, hn⟩ := hr
        simp only [Bool.false_eq_true, if_false]
        refine ih (i + 1) G _ w (by omega) ?_
        have := hz.put (Left.refl hz.left.wd) (x := .lit undef) (v := undef) (.lit _) (ops[i]).dst
        rw [← hv, hnext (x := .any)] at this
        simpa [sS, hu, hn] using this
  have := key ops.size 0 G a w (by omega) hz
  rwa [List.range_eq_range']
end
end Go.Proofs.Ytgphhganepjaiaa
