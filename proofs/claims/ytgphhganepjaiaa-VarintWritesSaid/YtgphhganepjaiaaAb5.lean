/-
  The operations do what is told of them: those that leave the memory, loads, stores, new objects. Over any program.
-/
import Derived.Test.YtgphhganepjaiaaAb4
namespace Go.Proofs.Ytgphhganepjaiaa

def Eff (P : Program) (o : Oper) (ρ : Operand → AV) (S : List AObj) (v : AV) (rd : List Nat) (upd : List (Nat × AObj)) (new : List AObj) : Prop :=
  ∀ T, (∀ i ∈ rd, T[i]? = S[i]?) → (∀ p ∈ newU S.length new, T[p.1]? = some .dead) → ∀ G a w, Wd G T w → (∀ x ∈ o.op.operands, Rep G (ρ x) (a.eval x)) →
    ∀ (K : Act → World → Prop) (Q : Exit → Act → World → Prop), (∀ v' w' G', Rep G' v v' → Left G T w G' (updL T (upd ++ newU S.length new)) w' → K (a.put o.dst v') w') → o.wp P a w K Q
def SND (P : Program) (o : Oper) (ρ : Operand → AV) (S : List AObj) (K : KT) : Prop := ∃ v rd upd new, Eff P o ρ S v rd upd new ∧ (∀ p ∈ upd, p.1 ∈ rd) ∧ (∀ i ∈ rd, i < S.length) ∧ K v rd upd new

section
variable {P : Program} {o : Oper} {ρ : Operand → AV} {S : List AObj} {K : KT}

theorem add_none (b i j : Nat) : (⟨b, i, none⟩ : Addr).add j = ⟨b, i + j, none⟩ := by
  unfold Addr.add
  split
  · rename_i h; subst h; rfl
  · rfl

theorem snd_pure {v : AV} (h : ∀ (G : Gh) (a : Act) (w : World) (T : List AObj), Wd G T w → (∀ x ∈ o.op.operands, Rep G (ρ x) (a.eval x)) → ∃ v', (execOp a.eval o).run P w = .ok (.value v') w ∧ Rep G v v')
    (hK : K v [] [] []) : SND P o ρ S K := by
  refine ⟨v, [], [], [], fun T _ _ G a w hw hr K Q hk => ?_, (fun p hp => by cases hp), (fun i hi => by simp at hi), hK⟩
  obtain ⟨v', hrun, hv⟩ := h G a w T hw hr
  unfold Oper.wp
  rw [hrun]
  exact hk v' w G hv (by simpa [newU] using Left.refl hw)

theorem snd_read {v : AV} {i : Nat} (h : ∀ (G : Gh) (a : Act) (w : World) (T : List AObj), T[i]? = S[i]? → Wd G T w → (∀ x ∈ o.op.operands, Rep G (ρ x) (a.eval x)) → ∃ v', (execOp a.eval o).run P w = .ok (.value v') w ∧ Rep G v v')
    (hi : i < S.length) (hK : K v [i] [] []) : SND P o ρ S K := by
  refine ⟨v, [i], [], [], fun T ht _ G a w hw hr K Q hk => ?_, (fun p hp => by cases hp), (fun j hj => by simp at hj; subst hj; exact hi), hK⟩
  obtain ⟨v', hrun, hv⟩ := h G a w T (ht i (by simp)) hw hr
  unfold Oper.wp
  rw [hrun]
  exact hk v' w G hv (by simpa [newU] using Left.refl hw)

theorem snd_newobj {xs : List AV} (h : ∀ (G : Gh) (a : Act) (w : World) (T : List AObj), Wd G T w → (∀ x ∈ o.op.operands, Rep G (ρ x) (a.eval x)) → ∃ vs t w', (execOp a.eval o).run P w = .ok (.value (.pointer (some ⟨w.heap.size, 0, none⟩))) w' ∧ More w w' (.cells (List.toArray vs) t) ∧ RepL G xs vs ∧ ∀ v ∈ vs, v.oneCell' = true)
    (hK : K (.ref S.length 0) [] [] [.cells xs]) : SND P o ρ S K := by
  refine ⟨_, [], [], [.cells xs], fun T _ hd G a w hw hr K Q hk => ?_, (fun p hp => by cases hp), (fun i hi => by simp at hi), hK⟩
  obtain ⟨vs, t, w', hrun, hm, hx, ho⟩ := h G a w T hw hr
  unfold Oper.wp
  rw [hrun]
  have hid : T[S.length]? = some .dead := hd (S.length, .cells xs) (by simp [newU])
  have := Left.new hw hid hx ho hm
  refine hk _ w' _ ?_ (by simpa [newU] using this)
  exact .ref (by simp [Gh.newLoc])

theorem szO_some {P : Program} {t : TypeId} {n : Nat} (h : szO P t = some n) : ∃ i, P.info? t = some i ∧ i.size = n := by
  simpa [szO] using h
theorem zeroO_some {P : Program} {t : TypeId} {zs : List Value} (h : zeroO P t = some zs) : ∃ i z, P.info? t = some i ∧ i.zero = some z ∧ zs = z.cells.toList ∧ ∀ v ∈ zs, v.oneCell' = true := by
  unfold zeroO at h
  cases hi : P.info? t with
  | none => simp [hi] at h
  | some i =>
    cases hz : i.zero with
    | none => simp [hi, hz] at h
    | some z =>
      simp only [hi, hz, Option.bind_some] at h
      split at h
      · rename_i ho
        injection h with h; subst h
        exact ⟨i, z, rfl, hz, rfl, fun v hv => List.all_eq_true.1 ho v hv⟩
      · cases h
theorem aggO_none {P : Program} {t : TypeId} (h : aggO P t = some none) : ∃ d, P.underlying t = some d ∧ (∀ fs, d ≠ .struct fs) ∧ ∀ n e, d ≠ .array n e := by
  unfold aggO at h
  cases hu : P.underlying t with
  | none => simp [hu] at h
  | some d =>
    rw [hu] at h
    cases d with
    | struct fs => cases hs : szO P t <;> simp [hs] at h
    | array n e => cases hs : szO P t <;> simp [hs] at h
    | _ => exact ⟨_, rfl, by simp, by simp⟩
theorem aggO_agg {P : Program} {t : TypeId} {n : Nat} (h : aggO P t = some (some n)) : (∃ d, P.underlying t = some d ∧ ((∃ fs, d = .struct fs) ∨ ∃ m e, d = .array m e)) ∧ szO P t = some n := by
  unfold aggO at h
  cases hu : P.underlying t with
  | none => simp [hu] at h
  | some d =>
    rw [hu] at h
    cases d with
    | struct fs => simp at h; exact ⟨⟨_, rfl, .inl ⟨_, rfl⟩⟩, h⟩
    | array m e => simp at h; exact ⟨⟨_, rfl, .inr ⟨_, _, rfl⟩⟩, h⟩
    | _ => simp at h

theorem run_isAgg_no {P : Program} {t : TypeId} (h : aggO P t = some none) (w : World) : (isAgg t).run P w = .ok false w := by
  obtain ⟨d, hd, h1, h2⟩ := aggO_none h
  simp only [isAgg, underlying, Sem.run_bind, run_program, Result.andThen_ok, hd, Sem.run_pure]
theorem run_isAgg_yes {P : Program} {t : TypeId} {n : Nat} (h : aggO P t = some (some n)) (w : World) : (isAgg t).run P w = .ok true w := by
  obtain ⟨⟨d, hd, h1⟩, _⟩ := aggO_agg h
  simp only [isAgg, underlying, Sem.run_bind, run_program, Result.andThen_ok, hd, Sem.run_pure]
  rcases h1 with ⟨fs, rfl⟩ | ⟨m, e, rfl⟩ <;> rfl
theorem run_sizeO {P : Program} {t : TypeId} {n : Nat} (h : szO P t = some n) (w : World) : (sizeOf t).run P w = .ok n w := by
  obtain ⟨i, hi, rfl⟩ := szO_some h
  simp [sizeOf, typeInfo, hi]
theorem run_loadVar_one {P : Program} {t : TypeId} (h : aggO P t = some none) {w : World} {a : Addr} {v : Value} (hc : w.cell? a = some v) : (loadVar t a).run P w = .ok v w := by
  simp [loadVar, run_isAgg_no h, hc]
theorem run_loadVar_agg {P : Program} {t : TypeId} {n : Nat} (h : aggO P t = some (some n)) {w : World} {a : Addr} (f : Nat → Value) (hc : ∀ j, j < n → w.cell? (a.add j) = some (f j)) :
    (loadVar t a).run P w = .ok (.agg ((List.range n).map f).toArray) w := by
  obtain ⟨_, hs⟩ := aggO_agg h
  simp [loadVar, run_isAgg_yes h, run_sizeO hs, run_loadCells w a n f hc]
theorem rep_agg_range {G : Gh} {xs : List AV} {n : Nat} (f : Nat → Value) (hl : xs.length = n) (h1 : ∀ j, j < n → (f j).oneCell' = true) (h2 : ∀ (j : Nat) (x : AV), xs[j]? = some x → Rep G x (f j)) : Rep G (.agg xs) (.agg ((List.range n).map f).toArray) := by
  refine .agg (by simpa using hl) (fun j v hv => ?_) (fun j x v hx hv => ?_)
  · obtain ⟨q, hq, rfl⟩ := map_get (by simpa using hv : ((List.range n).map f)[j]? = some v)
    rw [List.getElem?_range (by rcases Nat.lt_or_ge j n with h | h; exact h; rw [List.getElem?_eq_none (by simpa using h)] at hq; cases hq)] at hq
    injection hq with hq; subst hq
    refine h1 j ?_
    rcases Nat.lt_or_ge j n with h | h
    · exact h
    · simp [show ¬ j < n by omega] at hv
  · have hj : j < n := by rw [← hl]; exact (List.getElem?_eq_some_iff.1 hx).1
    simp [hj] at hv; subst hv; exact h2 j x hx

theorem snd_load {t : TypeId} {x : Operand} (hop : o.op = .load t x) {n : Option Nat} (hn : aggO P t = some n) (h : kLoad n (ρ x) S K) : SND P o ρ S K := by
  unfold kLoad at h
  have hrun : ∀ (a : Act) (w : World) (v : Value) (ad : Addr), a.eval x = .pointer (some ad) → (loadVar t ad).run P w = .ok v w → (execOp a.eval o).run P w = .ok (.value v) w := by
    intro a w v ad ha hl
    simp [execOp, hop, Instr.loadAt, ha, Instr.sureAddr, hl]
  split at h
  · rename_i cs hρ
    have rep : ∀ {G : Gh} {a : Act}, (∀ x ∈ o.op.operands, Rep G (ρ x) (a.eval x)) → Rep G (.iptr cs) (a.eval x) := fun {G a} hr => by
      have := hr x (by simp [hop, Op.operands]); rwa [hρ] at this
    split at h
    · split at h
      · rename_i y ys
        refine snd_pure (fun G a w T hw hr => ?_) h
        have r := rep hr
        generalize ha : a.eval x = va at r
        cases r with
        | @iptr _ b off vs h1 h2 h3 =>
          have h0 := hw.imm _ _ _ (h1 0 (by simp))
          exact ⟨vs 0, hrun a w _ _ ha (run_loadVar_one hn (by simpa using h0)), h3 0 _ (by simp)⟩
      · exact h.elim
    · rename_i n
      obtain ⟨hle, hK⟩ := h
      refine snd_pure (fun G a w T hw hr => ?_) hK
      have r := rep hr
      generalize ha : a.eval x = va at r
      cases r with
      | @iptr _ b off vs h1 h2 h3 =>
        refine ⟨_, hrun a w _ _ ha (run_loadVar_agg hn vs fun j hj => by rw [add_none]; exact hw.imm _ _ _ (h1 j (by omega))), rep_agg_range vs (by simp; omega) (fun j hj => h2 j (by omega)) fun j y hy => h3 j y ?_⟩
        rw [List.getElem?_take] at hy; split at hy <;> simp_all
  · rename_i i off hρ
    have rep : ∀ {G : Gh} {a : Act}, (∀ x ∈ o.op.operands, Rep G (ρ x) (a.eval x)) → Rep G (.ref i off) (a.eval x) := fun {G a} hr => by
      have := hr x (by simp [hop, Op.operands]); rwa [hρ] at this
    split at h
    · rename_i xs hS
      split at h
      · split at h
        · rename_i y hy
          refine snd_read (fun G a w T hT hw hr => ?_) (List.getElem?_eq_some_iff.1 hS).1 h
          have r := rep hr
          generalize ha : a.eval x = va at r
          cases r with
          | @ref _ _ b hb =>
            obtain ⟨b', cs, t', g1, g2, g3, g4, _⟩ := hw.obj i xs (hT.trans hS)
            rw [hb] at g1; injection g1 with g1; subst g1
            have hlt : off < cs.size := by rw [g3]; exact (List.getElem?_eq_some_iff.1 hy).1
            have hc : cs[off]? = some cs[off] := Array.getElem?_eq_getElem hlt
            exact ⟨_, hrun a w _ _ ha (run_loadVar_one hn ((cell_at g2 off).trans hc)), (g4 off y _ hy hc).2⟩
        · exact h.elim
      · rename_i n
        obtain ⟨hle, hK⟩ := h
        refine snd_read (fun G a w T hT hw hr => ?_) (List.getElem?_eq_some_iff.1 hS).1 hK
        have r := rep hr
        generalize ha : a.eval x = va at r
        cases r with
        | @ref _ _ b hb =>
          obtain ⟨b', cs, t', g1, g2, g3, g4, _⟩ := hw.obj i xs (hT.trans hS)
          rw [hb] at g1; injection g1 with g1; subst g1
          have hc : ∀ j, j < n → cs[off + j]? = some (cs.getD (off + j) undef) := fun j hj => by
            rw [Array.getElem?_eq_getElem (show off + j < cs.size by omega)]; simp [show off + j < cs.size by omega]
          refine ⟨_, hrun a w _ _ ha (run_loadVar_agg hn (fun j => cs.getD (off + j) undef) fun j hj => by rw [add_none]; exact (cell_at g2 _).trans (hc j hj)), rep_agg_range _ (by simp; omega) (fun j hj => ?_) fun j y hy => ?_⟩
          · exact (g4 (off + j) _ _ (List.getElem?_eq_getElem (show off + j < xs.length by omega)) (hc j hj)).1
          · have hjn : j < n := by
              rcases Nat.lt_or_ge j n with h | h
              · exact h
              · rw [List.getElem?_take, if_neg (by omega)] at hy; cases hy
            refine (g4 (off + j) y _ ?_ (hc j hjn)).2
            rw [List.getElem?_take, if_pos hjn, List.getElem?_drop] at hy; exact hy
    · exact h.elim
  · exact h.elim

end
end Go.Proofs.Ytgphhganepjaiaa
