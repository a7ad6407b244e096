/-
  Contracts at a call; what is borne less exactly. Over any program.
  Equations by which code is reckoned over abstract values. Over any program.
  The beginning and the end of a function's reckoning. Over any program.
  Contracts that read or turn two objects. Over any program.
  The equations by which a function is reckoned, as one set.
-/
import Derived.Test.YtkhnfleejgfhgaaA2
set_option linter.all false
set_option linter.unusedSimpArgs false
set_option linter.unusedVariables false
set_option linter.unnecessarySimpa false
section
namespace Go.Proofs.Ytkhnfleejgfhgaa

/-- A contract at any place of any store: what it reads (rd), what it turns (upd, among what it reads), what it lays at free places from n on (new). -/
def Ct (P : Program) (f : FuncId) (args : List AV) (rd : List (Nat × AObj)) (r : Nat → AV) (upd : List (Nat × AObj)) (new : Nat → List AObj) : Prop :=
  ∀ T n, (∀ p ∈ rd, T[p.1]? = some p.2) → (∀ p ∈ newU n (new n), T[p.1]? = some .dead) → Does P f args T (r n) (updL T (upd ++ newU n (new n)))

theorem CallK.of {P : Program} {f : FuncId} {args : List AV} {rd : List (Nat × AObj)} {r : Nat → AV} {upd : List (Nat × AObj)} {new : Nat → List AObj} {S : List AObj} {K : KT} (h : Ct P f args rd r upd new) (hrd : ∀ p ∈ rd, S[p.1]? = some p.2)
    (hu : ∀ p ∈ upd, p.1 ∈ rd.map (·.1)) (hK : K (r S.length) (rd.map (·.1)) upd (new S.length)) : CallK P f args S K := by
  refine ⟨_, _, _, _, fun T hT _ hd => h T S.length (fun p hp => ?_) hd, hu, fun i hi => ?_, hK⟩
  · rw [hT p.1 (List.mem_map.2 ⟨p, hp, rfl⟩)]; exact hrd p hp
  · obtain ⟨p, hp, rfl⟩ := List.mem_map.1 hi
    exact (List.getElem?_eq_some_iff.1 (hrd p hp)).1

theorem updL_self (T : List AObj) (u : List (Nat × AObj)) (h : ∀ p ∈ u, T[p.1]? = some p.2) : updL T u = T := by
  induction u with
  | nil => rfl
  | cons p u ih =>
    have : T.set p.1 p.2 = T := by
      apply List.ext_getElem?
      intro q
      by_cases e : q = p.1
      · subst e
        have hp := h p (by simp)
        rw [List.getElem?_set_self (List.getElem?_eq_some_iff.1 hp).1, hp]
      · rw [List.getElem?_set_ne (Ne.symm e)]
    rw [updL_cons, this]; exact ih fun q hq => h q (by simp [hq])

theorem newU_zip (n : Nat) (l : List AObj) : newU n l = (List.range' n l.length).zip l := by
  induction l generalizing n with
  | nil => rfl
  | cons o l ih => simp [newU, ih, List.range'_succ]

/-- A contract in a small store serves at any place. -/
theorem Ct.mk {P : Program} {f : FuncId} {args args₀ : List AV} {S₀ S₁ : List AObj} {r₀ : AV} {r : Nat → AV} {rd upd : List (Nat × AObj)} {new : Nat → List AObj} (h : Does P f args₀ S₀ r₀ S₁) (is : List Nat) (hn : is.Nodup) (hl : is.length = S₀.length) (hSl : S₀.length ≤ S₁.length)
    (hal : ∀ o ∈ S₀, o ≠ .dead) (ha : ∀ n N, args₀.map (fun x => x.ren (ixs (is ++ List.range' n (S₁.length - S₀.length)) N)) = args) (hr : ∀ n N, r₀.ren (ixs (is ++ List.range' n (S₁.length - S₀.length)) N) = r n)
    (hrd : ∀ n N, is.zip (S₀.map fun o => o.ren (ixs (is ++ List.range' n (S₁.length - S₀.length)) N)) = rd)
    (hupd : (∀ n N, is.zip ((S₁.take S₀.length).map fun o => o.ren (ixs (is ++ List.range' n (S₁.length - S₀.length)) N)) = upd) ∨ upd = [] ∧ S₁.take S₀.length = S₀)
    (hnew : ∀ n N, ((S₁.drop S₀.length).map fun o => o.ren (ixs (is ++ List.range' n (S₁.length - S₀.length)) N)) = new n) : Ct P f args rd r upd new := by
  intro T n hT hd
  have hln : (new n).length = S₁.length - S₀.length := by rw [← hnew n T.length]; simp
  have hat : ∀ (k : Nat) (o : AObj), S₀[k]? = some o → ∃ i, (is ++ List.range' n (S₁.length - S₀.length))[k]? = some i ∧ T[i]? = some (o.ren (ixs (is ++ List.range' n (S₁.length - S₀.length)) T.length)) := by
    intro k o ho
    have hk : k < is.length := by rw [hl]; exact (List.getElem?_eq_some_iff.1 ho).1
    refine ⟨is[k], by rw [List.getElem?_append_left hk]; simp, hT (is[k], _) ?_⟩
    rw [← hrd n T.length]
    refine List.mem_of_getElem? (i := k) ?_
    rw [List.getElem?_zip_eq_some]
    exact ⟨List.getElem?_eq_getElem hk, by rw [List.getElem?_map, ho]; rfl⟩
  have hdead : ∀ i, i ∈ List.range' n (S₁.length - S₀.length) → T[i]? = some .dead := by
    intro i hi
    rw [newU_zip, hln] at hd
    obtain ⟨j, hj, rfl⟩ := List.getElem_of_mem hi
    have hj' : j < (new n).length := by rw [hln]; simpa using hj
    have := hd ((List.range' n (S₁.length - S₀.length))[j], (new n)[j]) (by
      refine List.mem_of_getElem? (i := j) ?_
      rw [List.getElem?_zip_eq_some]
      exact ⟨List.getElem?_eq_getElem hj, List.getElem?_eq_getElem hj'⟩)
    exact this
  have hnd : (is ++ List.range' n (S₁.length - S₀.length)).Nodup := by
    rw [List.nodup_append]
    refine ⟨hn, List.nodup_range', fun a ha1 b hb1 => ?_⟩
    rintro rfl
    obtain ⟨k, hk, rfl⟩ := List.getElem_of_mem ha1
    have hk' : k < S₀.length := by rw [← hl]; exact hk
    obtain ⟨i, h1, h2⟩ := hat k S₀[k] (List.getElem?_eq_getElem hk')
    rw [List.getElem?_append_left hk, List.getElem?_eq_getElem hk] at h1
    injection h1 with h1; subst h1
    rw [hdead _ hb1] at h2
    injection h2 with h2
    have := hal S₀[k] (List.getElem_mem hk')
    cases ho : S₀[k] with
    | dead => exact this ho
    | cells xs => rw [ho] at h2; simp [AObj.ren] at h2
    | row a b => rw [ho] at h2; simp [AObj.ren] at h2
  have := h.embed T (is ++ List.range' n (S₁.length - S₀.length)) hnd (by simp; omega) hSl hat (fun k i hk hi => by
    rw [List.getElem?_append_right (by omega)] at hi
    exact hdead i (List.mem_of_getElem? hi))
  rw [ha, hr] at this
  have e : (is ++ List.range' n (S₁.length - S₀.length)).zip (S₁.map fun o => o.ren (ixs (is ++ List.range' n (S₁.length - S₀.length)) T.length)) =
      is.zip ((S₁.take S₀.length).map fun o => o.ren (ixs (is ++ List.range' n (S₁.length - S₀.length)) T.length)) ++ newU n (new n) := by
    rw [newU_zip, hln, ← hnew n T.length]
    conv => lhs; rw [← List.take_append_drop S₀.length S₁]
    rw [List.map_append, List.zip_append (by simp; omega)]
    simp
  rw [e, updL_append] at this
  rw [updL_append]
  rcases hupd with hupd | ⟨rfl, hsame⟩
  · rw [hupd] at this; exact this
  · rw [hsame, updL_self T _ (fun p hp => ?_)] at this
    · exact this
    · rw [hrd] at hp; exact hT p hp

/-- The slots told less exactly. -/
def leT : List AV → List AV → Prop
  | [], [] => True
  | x :: xs, y :: ys => (y = .any ∨ x = y) ∧ leT xs ys
  | _, _ => False
theorem leT_spec : ∀ {xs ys : List AV}, leT xs ys → xs.length = ys.length ∧ ∀ (t : Nat) (y : AV), ys[t]? = some y → y = .any ∨ xs[t]? = some y := by
  intro xs
  induction xs with
  | nil => intro ys h; cases ys with
    | nil => exact ⟨rfl, fun t y h => by simp at h⟩
    | cons => exact h.elim
  | cons x xs ih => intro ys h; cases ys with
    | nil => exact h.elim
    | cons y ys =>
      obtain ⟨h1, h2⟩ := h
      obtain ⟨g1, g2⟩ := ih h2
      refine ⟨by simp [g1], fun t z hz => ?_⟩
      cases t with
      | zero => simp at hz; subst hz; rcases h1 with h | h; exact .inl h; exact .inr (by simp [h])
      | succ t => simp at hz; simpa using g2 t z hz
theorem Wk.forget {m : Nat} {tm tm' : List AV} {S : List AObj} (h : leT tm tm') : Wk m tm S tm' S := fun G0 S0 w0 G a w _ hz => by
  obtain ⟨h1, h2⟩ := leT_spec h
  refine ⟨G, hz.left, by rw [hz.size, h1], fun t x v hx hv => ?_, hz.defers, hz.wd0⟩
  rcases h2 t x hx with rfl | h
  · exact .any v
  · exact hz.rep t x v h hv
theorem Wk.to {m : Nat} {tm tm' : List AV} {S S' : List AObj} (hS : S = S') (h : leT tm tm') : Wk m tm S tm' S' := hS ▸ Wk.forget h

/-- The slots told in a smaller store. -/
def selT (ρ : Nat → Nat) : List AV → List AV → Prop
  | [], [] => True
  | x :: xs, y :: ys => (y = .any ∨ x = y.ren ρ) ∧ selT ρ xs ys
  | _, _ => False
theorem selT_spec {ρ : Nat → Nat} : ∀ {xs ys : List AV}, selT ρ xs ys → xs.length = ys.length ∧ ∀ (t : Nat) (y : AV), ys[t]? = some y → y = .any ∨ xs[t]? = some (y.ren ρ) := by
  intro xs
  induction xs with
  | nil => intro ys h; cases ys with
    | nil => exact ⟨rfl, fun t y h => by simp at h⟩
    | cons => exact h.elim
  | cons x xs ih => intro ys h; cases ys with
    | nil => exact h.elim
    | cons y ys =>
      obtain ⟨h1, h2⟩ := h
      obtain ⟨g1, g2⟩ := ih h2
      refine ⟨by simp [g1], fun t z hz => ?_⟩
      cases t with
      | zero => simp at hz; subst hz; rcases h1 with h | h; exact .inl h; exact .inr (by simp [h])
      | succ t => simp at hz; simpa using g2 t z hz

theorem Left.sel {G0 : Gh} {S0 : List AObj} {w0 : World} {G : Gh} {S : List AObj} {w : World} (hs : Left G0 S0 w0 G S w) (h0 : Wd G0 S0 w0) {S' : List AObj} (ids : List Nat) (hn : ids.Nodup) (hl : ids.length = S'.length) (hm : S0.length ≤ S'.length)
    (hp : ∀ (k i : Nat), k < S0.length → ids[k]? = some i → i = k) (hT : ∀ (k : Nat) (o : AObj), S'[k]? = some o → ∃ i, ids[k]? = some i ∧ S[i]? = some (o.ren (ixs ids S.length))) : Left G0 S0 w0 (G.pull (ixs ids S.length)) S' w := by
  have hD : ∀ (k i : Nat), S'.length ≤ k → ids[k]? = some i → S[i]? = some .dead := fun k i hk hi => by
    rw [List.getElem?_eq_none (by omega)] at hi; cases hi
  obtain ⟨hwd, hblk⟩ := Wd.pull hs.wd ids hn (by omega) hT hD
  have hid : ∀ k, k < S0.length → ixs ids S.length k = k := fun k hk => by
    have e : ids[k]? = some (ids[k]'(by omega)) := by simp
    rw [ixs_get e]; exact hp k _ hk e
  have hw0 : ∀ i, S0.length ≤ i → G0.loc i = none ∧ ∀ n, G0.hist i n = none := fun i hi => h0.dom i (.inl (List.getElem?_eq_none (by omega)))
  refine ⟨⟨hs.le.imm, fun i b hb => ?_, fun i n u hb => ?_⟩, hwd, hs.kept, fun i b hb => ?_, hs.still⟩
  · have hi : i < S0.length := by
      rcases Nat.lt_or_ge i S0.length with h | h
      · exact h
      · rw [(hw0 i h).1] at hb; cases hb
    show G.loc (ixs ids S.length i) = _
    rw [hid i hi]; exact hs.le.loc i b hb
  · have hi : i < S0.length := by
      rcases Nat.lt_or_ge i S0.length with h | h
      · exact h
      · rw [(hw0 i h).2] at hb; cases hb
    show G.hist (ixs ids S.length i) n = _
    rw [hid i hi]; exact hs.le.hist i n u hb
  · rcases hblk i with h | h
    · rw [h] at hb; cases hb
    · rw [h] at hb; exact hs.own _ b hb
theorem Wk.sel {m : Nat} {tm tm' : List AV} {S S' : List AObj} (ids : List Nat) (hn : ids.Nodup) (hl : ids.length = S'.length) (hm : m ≤ S'.length) (hp : ids.take m = List.range m)
    (hT : ids.map (fun i => S[i]?) = S'.map fun o => some (o.ren (ixs ids S.length))) (ht : selT (ixs ids S.length) tm tm') : Wk m tm S tm' S' := fun G0 S0 w0 G a w e hz => by
  obtain ⟨h1, h2⟩ := selT_spec ht
  refine ⟨_, Left.sel hz.left hz.wd0 (S' := S') ids hn hl (by omega) (fun k i hk hi => ?_) (fun k o ho => ?_), by rw [hz.size, h1], fun t x v hx hv => ?_, hz.defers, hz.wd0⟩
  · have : (ids.take m)[k]? = some i := by rw [List.getElem?_take, if_pos (by omega)]; exact hi
    rw [hp, List.getElem?_range (by omega)] at this
    injection this with this; exact this.symm
  · have hk : k < ids.length := by rw [hl]; exact (List.getElem?_eq_some_iff.1 ho).1
    refine ⟨ids[k], by simp, ?_⟩
    have := congrArg (fun l : List (Option AObj) => l[k]?) hT
    simp only [List.getElem?_map, List.getElem?_eq_getElem hk, ho, Option.map_some] at this
    injection this
  · rcases h2 t x hx with rfl | h
    · exact .any v
    · exact (hz.rep t _ v h hv).pull x rfl

theorem Left.reobj {G : Gh} {T : List AObj} {w : World} {i : Nat} {xs xs' : List AV} (h : Wd G T w) (hi : T[i]? = some (.cells xs)) (hl : xs'.length = xs.length) (hc : ∀ (k : Nat) (x : AV) (v : Value), xs'[k]? = some x → (∀ y, xs[k]? = some y → Rep G y v) → Rep G x v) :
    Left G T w G (T.set i (.cells xs')) w := by
  obtain ⟨b, cs, t, h1, h2, h3, h4, _⟩ := h.obj i xs hi
  refine Left.turn h hi h1 (⟨rfl, rfl, rfl, rfl, fun _ _ => rfl, h2⟩ : Turn w w b (.cells cs t (0, 0))) (by omega) fun k x v hx hv => ?_
  have hk : k < xs.length := by rw [← hl]; exact (List.getElem?_eq_some_iff.1 hx).1
  have := h4 k _ v (List.getElem?_eq_getElem hk) hv
  refine ⟨this.1, hc k x v hx fun y hy => ?_⟩
  rw [List.getElem?_eq_getElem hk] at hy
  injection hy with hy; subst hy; exact this.2

/-- A slice that is all of its capacity (a nil slice, too) becomes a row's. -/
theorem Wk.row {m : Nat} {tm : List AV} {S : List AObj} (t k : Nat) {k' : Nat} {xs : List AV} (ht : tm[t]? = some (.sl .full k' xs)) (hk : k' = k ∨ xs = []) (h1 : 1 ≤ k) : Wk m tm S (tm.set t (.sl (.row S.length) k xs)) (S ++ [.row k xs.length]) := fun G0 S0 w0 G a w _ hz => by
  have hd := Left.dead hz.left.wd 1
  have htl := (List.getElem?_eq_some_iff.1 ht).1
  have hlt : t < a.tmps.size := by rw [hz.size]; exact htl
  have hv := Array.getElem?_eq_getElem hlt
  have r := hz.rep t _ _ ht hv
  have r' : Rep G (.sl .full k xs) a.tmps[t] := by
    rcases hk with rfl | rfl
    · exact r
    · exact r.rek
  generalize a.tmps[t] = v at *
  cases r' with
  | @sl _ _ _ A c b o vs q1 q2 q3 q4 q5 q6 q7 =>
    have hc : c = xs.length := q7
    subst hc
    have hid : (S ++ List.replicate 1 AObj.dead)[S.length]? = some .dead := by simp
    obtain ⟨hl, hh⟩ := Left.rowFull (id := S.length) (k := k) (n := xs.length) (A := A) hd.wd hid h1
    have e : (S ++ List.replicate 1 AObj.dead).set S.length (.row k xs.length) = S ++ [.row k xs.length] := by simp
    rw [e] at hl
    have hall := (hz.left.trans hd).trans hl
    refine ⟨_, hall, by simp [hz.size], fun t' x u hx hu => ?_, hz.defers, hz.wd0⟩
    by_cases et : t' = t
    · subst et
      simp [htl] at hx; subst hx
      rw [hv] at hu; injection hu with hu; subst hu
      exact ((Rep.sl vs q1 q2 q3 q4 q5 q6 q7 : Rep G (.sl .full k xs) _).mono hl.le).retag hh
    · rw [List.getElem?_set_ne (Ne.symm et)] at hx
      exact (hz.rep t' x u hx hu).mono hl.le
/-- The same of a slice in an object's cell. -/
theorem Wk.rowObj {m : Nat} {tm : List AV} {S : List AObj} (i j k : Nat) {k' : Nat} {ys xs : List AV} (hi : S[i]? = some (.cells ys)) (hj : ys[j]? = some (.sl .full k' xs)) (hk : k' = k ∨ xs = []) (h1 : 1 ≤ k) :
    Wk m tm S tm (S.set i (.cells (ys.set j (.sl (.row S.length) k xs))) ++ [.row k xs.length]) := fun G0 S0 w0 G a w _ hz => by
  have hd := Left.dead hz.left.wd 1
  have hil := (List.getElem?_eq_some_iff.1 hi).1
  have hjl := (List.getElem?_eq_some_iff.1 hj).1
  obtain ⟨b, cs, t, g1, g2, g3, g4, _⟩ := hz.left.wd.obj i ys hi
  have hv := Array.getElem?_eq_getElem (show j < cs.size by omega)
  have r := (g4 j _ _ hj hv).2
  have r' : Rep G (.sl .full k xs) cs[j] := by
    rcases hk with rfl | rfl
    · exact r
    · exact r.rek
  generalize hcj : cs[j] = v at *
  cases r' with
  | @sl _ _ _ A c b' o vs q1 q2 q3 q4 q5 q6 q7 =>
    have hc : c = xs.length := q7
    subst hc
    have hid : (S ++ List.replicate 1 AObj.dead)[S.length]? = some .dead := by simp
    obtain ⟨hl, hh⟩ := Left.rowFull (id := S.length) (k := k) (n := xs.length) (A := A) hd.wd hid h1
    have e : (S ++ List.replicate 1 AObj.dead).set S.length (.row k xs.length) = S ++ [.row k xs.length] := by simp
    rw [e] at hl
    have hi' : (S ++ [AObj.row k xs.length])[i]? = some (.cells ys) := by rw [List.getElem?_append_left hil]; exact hi
    obtain ⟨b2, cs2, t2, p1, p2, p3, p4, _⟩ := hl.wd.obj i ys hi'
    have hb2 : b2 = b := by
      have := hl.le.loc i b (by simpa using g1)
      rw [p1] at this; injection this
    subst hb2
    rw [p2] at g2; injection g2 with g2; injection g2 with e1 e1t; subst e1 e1t
    have hturn : Left (G.newHist S.length xs.length (.slice A xs.length xs.length)) (S ++ [AObj.row k xs.length]) w (G.newHist S.length xs.length (.slice A xs.length xs.length)) ((S ++ [AObj.row k xs.length]).set i (.cells (ys.set j (.sl (.row S.length) k xs)))) w := by
      refine Left.turn (xs' := ys.set j (.sl (.row S.length) k xs)) hl.wd hi' p1 (⟨rfl, rfl, rfl, rfl, fun _ _ => rfl, p2⟩ : Turn w w b2 (.cells cs2 t2 (0, 0))) (by rw [List.length_set]; omega) fun q x u hx hu => ?_
      by_cases eq : q = j
      · subst eq
        simp [hjl] at hx; subst hx
        rw [hv] at hu; injection hu with hu
        refine ⟨?_, ?_⟩
        · rw [← hu]; rfl
        · rw [← hu]
          exact ((Rep.sl vs q1 q2 q3 q4 q5 q6 q7 : Rep G (.sl .full k xs) _).mono hl.le).retag hh
      · rw [List.getElem?_set_ne (Ne.symm eq)] at hx
        exact p4 q x u hx hu
    have e2 : (S ++ [AObj.row k xs.length]).set i (.cells (ys.set j (.sl (.row S.length) k xs))) = S.set i (.cells (ys.set j (.sl (.row S.length) k xs))) ++ [.row k xs.length] := by rw [List.set_append_left _ _ hil]
    rw [e2] at hturn
    have hall := ((hz.left.trans hd).trans hl).trans hturn
    exact ⟨_, hall, hz.size, fun t' x u hx hu => (hz.rep t' x u hx hu).mono hl.le, hz.defers, hz.wd0⟩

end Go.Proofs.Ytkhnfleejgfhgaa
end
section
namespace Go.Proofs.Ytkhnfleejgfhgaa

theorem effK_mono {P : Program} {i : I} {ρ : Operand → AV} {S : List AObj} {K K' : KT} (hK : ∀ v rd upd new, K v rd upd new → K' v rd upd new) (h : effK P i ρ S K) : effK P i ρ S K' := by
  cases i <;> dsimp only [effK] at h ⊢
  case mov => exact hK _ _ _ _ h
  case pick => unfold kPick at h ⊢; split at h <;> first | exact hK _ _ _ _ h | exact h.elim
  case new => exact hK _ _ _ _ h
  case box => unfold kBox at h ⊢; split at h <;> first | exact hK _ _ _ _ h | exact h.elim
  case build => unfold kBuild at h ⊢; split at h <;> first | exact hK _ _ _ _ h | exact h.elim
  case bsl => exact ⟨h.1, hK _ _ _ _ h.2⟩
  case load => unfold kLoad at h ⊢; (repeat' split at h) <;> first | exact hK _ _ _ _ h | exact ⟨h.1, hK _ _ _ _ h.2⟩ | exact h.elim
  case store => unfold kStore at h ⊢; (repeat' split at h) <;> first | exact ⟨h.1, h.2.1, hK _ _ _ _ h.2.2⟩ | exact h.elim
  case nilc => unfold kNil at h ⊢; split at h <;> first | exact hK _ _ _ _ h | exact h.elim
  case bin op x y =>
    unfold kBin at h ⊢
    split at h
    · cases op <;> dsimp only [kInt] at h ⊢ <;> first | exact ⟨h.1, hK _ _ _ _ h.2⟩ | exact ⟨h.1, h.2.1, hK _ _ _ _ h.2.2⟩
    · cases op <;> dsimp only [kStr] at h ⊢ <;> first | exact hK _ _ _ _ h | exact h.elim
    · exact h.elim
  case eqb => unfold kEqb at h ⊢; split at h <;> first | exact hK _ _ _ _ h | exact h.elim
  case eqa => unfold kEqa at h ⊢; split at h <;> first | exact ⟨h.1, h.2.1, hK _ _ _ _ h.2.2⟩ | exact h.elim
  case eqp => unfold kEqp at h ⊢; split at h <;> first | exact hK _ _ _ _ h | exact h.elim
  case un => unfold kUn at h ⊢; split at h <;> first | exact hK _ _ _ _ h | exact h.elim
  case cvt => unfold kCvt at h ⊢; split at h <;> first | exact hK _ _ _ _ h | exact h.elim
  case b2s => unfold kB2s at h ⊢; split at h <;> first | exact ⟨h.1, h.2.1, hK _ _ _ _ h.2.2⟩ | exact h.elim
  case s2b => unfold kS2b at h ⊢; split at h <;> first | exact ⟨h.1, hK _ _ _ _ h.2⟩ | exact h.elim
  case slice =>
    unfold kSlice at h ⊢
    split at h
    · split at h
      · rename_i l hh hl hhh
        obtain ⟨h1, h2, h3, h4, h5⟩ := h
        refine ⟨h1, h2, h3, h4, ?_⟩
        split at h5
        · exact hK _ _ _ _ h5
        · exact ⟨h5.1, hK _ _ _ _ h5.2⟩
      · exact h.elim
    · exact h.elim
  case sstr =>
    unfold kSstr at h ⊢
    split at h
    · split at h
      · rename_i l hh hl hhh
        exact ⟨h.1, h.2.1, h.2.2.1, hK _ _ _ _ h.2.2.2⟩
      · exact h.elim
    · exact h.elim
  case fadr => unfold kFadr at h ⊢; split at h <;> first | exact hK _ _ _ _ h | exact h.elim
  case fld => unfold kFld at h ⊢; (repeat' split at h) <;> first | exact hK _ _ _ _ h | exact ⟨h.1, hK _ _ _ _ h.2⟩ | exact h.elim
  case iadr => unfold kIadr at h ⊢; split at h <;> first | exact ⟨h.1, h.2.1, h.2.2.1, hK _ _ _ _ h.2.2.2⟩ | exact h.elim
  case aadr => unfold kAadr at h ⊢; split at h <;> first | exact ⟨h.1, h.2.1, hK _ _ _ _ h.2.2⟩ | exact h.elim
  case idx => unfold kIdx kFld at h ⊢; (repeat' split at h) <;> first | exact ⟨h.1, h.2.1, hK _ _ _ _ h.2.2⟩ | exact ⟨h.1, h.2.1, h.2.2.1, hK _ _ _ _ h.2.2.2⟩ | exact h.elim | exact h.2.2.elim
  case sidx => unfold kSidx at h ⊢; split at h <;> first | exact ⟨h.1, h.2.1, hK _ _ _ _ h.2.2⟩ | exact h.elim
  case ext => unfold kExt at h ⊢; (repeat' split at h) <;> first | exact hK _ _ _ _ h | exact h.elim
  case mkf => exact hK _ _ _ _ h
  case call =>
    unfold kCall at h ⊢
    split at h
    · obtain ⟨v, rd, upd, new, h1, h2, h3, h4⟩ := h
      exact ⟨v, rd, upd, new, h1, h2, h3, hK _ _ _ _ h4⟩
    · exact h.elim
  case app =>
    unfold kApp at h ⊢
    split at h
    · obtain ⟨h1, h2, h3, h4⟩ := h
      refine ⟨h1, h2, h3, ?_⟩
      split at h4
      · exact hK _ _ _ _ h4
      · exact ⟨h4.1, hK _ _ _ _ h4.2⟩
      · exact h4.elim
    · exact h.elim
  case len => unfold kLen at h ⊢; split at h <;> first | exact hK _ _ _ _ h | exact h.elim
  case lenc => exact hK _ _ _ _ h
  case mx => unfold kMx at h ⊢; split at h <;> first | exact hK _ _ _ _ h | exact h.elim
  case mksl => unfold kMksl at h ⊢; split at h <;> first | exact ⟨h.1, h.2.1, h.2.2.1, h.2.2.2.1, hK _ _ _ _ h.2.2.2.2⟩ | exact h.elim
theorem aReg_mono {P : Program} {R R' : List AV → List AObj → Prop} (hR : ∀ tm S, R tm S → R' tm S) : ∀ (cs : List RO) (u : List (Nat × Nat)) (tr : List (List Nat × List Nat)) (tm : List AV) (S : List AObj), aReg P cs u tr tm S R → aReg P cs u tr tm S R' := by
  intro cs
  induction cs with
  | nil => intro u tr tm S h; exact ⟨h.1, hR _ _ h.2⟩
  | cons c cs ih =>
    obtain ⟨g, i, d⟩ := c
    intro u tr tm S h
    cases g with
    | none => exact effK_mono (fun _ _ _ _ => ih _ _ _ _) h
    | some g =>
      obtain ⟨t, want⟩ := g
      simp only [aReg, gdK] at h ⊢
      split at h
      · split at h
        · rename_i h1 h2; rw [if_pos h2]; exact effK_mono (fun _ _ _ _ => ih _ _ _ _) h
        · rename_i h1 h2; rw [if_neg h2]; exact ih _ _ _ _ h
      · exact ih _ _ _ _ h
      · exact h.elim
theorem aw_mono {P : Program} {m : Nat} : ∀ {c : C} {tm : List AV} {S : List AObj} {Q Q' : QT}, aw P m c tm S Q → (∀ e tm S, Q e tm S → Q' e tm S) → aw P m c tm S Q' := by
  intro c
  induction c with
  | skip => intro tm S Q Q' h hq; exact hq _ _ _ h
  | reg ops u => intro tm S Q Q' h hq; exact aReg_mono (hq .normal) _ _ _ _ _ h
  | seq a b iha ihb =>
    intro tm S Q Q' h hq
    refine iha h fun e tm S h => ?_
    cases e with
    | normal => exact ihb h hq
    | _ => exact hq _ _ _ h
  | cond x a b iha ihb =>
    intro tm S Q Q' h hq
    simp only [aw] at h ⊢
    split at h
    · exact ⟨fun e => iha (h.1 e) hq, fun e => ihb (h.2 e) hq⟩
    · exact h.elim
  | block id b ih =>
    intro tm S Q Q' h hq
    refine ih h fun e tm S h => ?_
    cases e with
    | exit id' =>
      simp only [qBlock] at h ⊢
      split
      · rename_i e; rw [if_pos e] at h; exact hq _ _ _ h
      · rename_i e; rw [if_neg e] at h; exact hq _ _ _ h
    | _ => exact hq _ _ _ h
  | loop b ih =>
    intro tm S Q Q' h hq
    obtain ⟨I, h0, hr⟩ := h
    refine ⟨I, h0, fun n tm S hI => ih (hr n tm S hI) fun e tm S h => ?_⟩
    cases e with
    | normal => exact h
    | _ => exact hq _ _ _ h
  | exit id => intro tm S Q Q' h hq; exact hq _ _ _ h
  | scope b ih =>
    intro tm S Q Q' h hq code hc G0 S0 w0 G a w hm hz
    exact wp_mono (h code hc G0 S0 w0 G a w hm hz) fun e a' w' ⟨tm', S', G', hz', hq'⟩ => ⟨tm', S', G', hz', hq _ _ _ hq'⟩
  | label l => intro tm S Q Q' h hq; obtain ⟨tm', S', hwk, h⟩ := h; exact ⟨tm', S', hwk, hq _ _ _ h⟩
  | goto l => intro tm S Q Q' h hq; exact hq _ _ _ h
  | ret => intro tm S Q Q' h hq; exact hq _ _ _ h

section
variable {P : Program} {m : Nat} {tm : List AV} {S : List AObj} {Q : QT}

def qSeq (P : Program) (m : Nat) (b : C) (Q : QT) : QT := qThen (fun tm S => aw P m b tm S Q) Q
theorem qSeq_normal (b : C) : qSeq P m b Q .normal tm S = aw P m b tm S Q := (rfl)
theorem qSeq_ret (b : C) : qSeq P m b Q .ret tm S = Q .ret tm S := (rfl)
theorem qSeq_exit (b : C) (id : Nat) : qSeq P m b Q (.exit id) tm S = Q (.exit id) tm S := (rfl)
theorem qSeq_goto (b : C) (l : Nat) : qSeq P m b Q (.goto l) tm S = Q (.goto l) tm S := (rfl)
theorem qBlock_normal (id : Nat) : qBlock id Q .normal tm S = Q .normal tm S := (rfl)
theorem qBlock_ret (id : Nat) : qBlock id Q .ret tm S = Q .ret tm S := (rfl)
theorem qBlock_exit (id id' : Nat) : qBlock id Q (.exit id') tm S = if id' = id then Q .normal tm S else Q (.exit id') tm S := (rfl)
theorem qBlock_goto (id l : Nat) : qBlock id Q (.goto l) tm S = Q (.goto l) tm S := (rfl)

/-- Loops: what is borne at each round's head, told by a value of the prover's. -/
def qLoop {α : Type} (m : Nat) (tmF : α → List AV) (SF : α → List AObj) (ok : α → Prop) (μ : α → Nat) (a : α) (Q : QT) : QT := qThen (fun tm S => ∃ a', ok a' ∧ μ a' < μ a ∧ Wk m tm S (tmF a') (SF a')) Q
section
variable {α : Type} {tmF : α → List AV} {SF : α → List AObj} {ok : α → Prop} {μ : α → Nat} {a : α}
theorem qLoop_normal : qLoop m tmF SF ok μ a Q .normal tm S = ∃ a', ok a' ∧ μ a' < μ a ∧ Wk m tm S (tmF a') (SF a') := (rfl)
theorem qLoop_ret : qLoop m tmF SF ok μ a Q .ret tm S = Q .ret tm S := (rfl)
theorem qLoop_exit (id : Nat) : qLoop m tmF SF ok μ a Q (.exit id) tm S = Q (.exit id) tm S := (rfl)
theorem qLoop_goto (l : Nat) : qLoop m tmF SF ok μ a Q (.goto l) tm S = Q (.goto l) tm S := (rfl)
end
theorem loop_of {α : Type} {c : C} (tmF : α → List AV) (SF : α → List AObj) (ok : α → Prop) (μ : α → Nat) (a : α) (ha : ok a) (h0 : Wk m tm S (tmF a) (SF a)) (hr : ∀ a, ok a → aw P m c (tmF a) (SF a) (qLoop m tmF SF ok μ a Q)) : aw P m (.loop c) tm S Q := by
  refine ⟨fun n tm S => ∃ a, ok a ∧ tm = tmF a ∧ S = SF a ∧ n = μ a, ⟨_, _, _, h0, a, ha, rfl, rfl, rfl⟩, fun n tm S ⟨a, ha, h1, h2, h3⟩ => ?_⟩
  subst h1 h2 h3
  refine aw_mono (hr a ha) fun e tm' S' hq => ?_
  cases e with
  | normal =>
    obtain ⟨a', h1, h2, h3⟩ := hq
    exact ⟨μ a', _, _, h3, ⟨a', h1, rfl, rfl, rfl⟩, h2⟩
  | _ => exact hq
/-- Loops of a known number of rounds. -/
def rounds (P : Program) (m : Nat) (c : C) (Q : QT) : List Unit → List AV → List AObj → Prop
  | [], _, _ => False
  | _ :: f, tm, S => aw P m c tm S (qThen (fun tm S => rounds P m c Q f tm S) Q)
def qRds (P : Program) (m : Nat) (c : C) (Q : QT) (f : List Unit) : QT := qThen (fun tm S => rounds P m c Q f tm S) Q
section
variable {c : C} {f : List Unit}
theorem rounds_cons (u : Unit) : rounds P m c Q (u :: f) tm S = aw P m c tm S (qRds P m c Q f) := (rfl)
theorem qRds_normal : qRds P m c Q f .normal tm S = rounds P m c Q f tm S := (rfl)
theorem qRds_ret : qRds P m c Q f .ret tm S = Q .ret tm S := (rfl)
theorem qRds_exit (id : Nat) : qRds P m c Q f (.exit id) tm S = Q (.exit id) tm S := (rfl)
theorem qRds_goto (l : Nat) : qRds P m c Q f (.goto l) tm S = Q (.goto l) tm S := (rfl)
end
theorem loop_rounds {c : C} (f : List Unit) (h : rounds P m c Q f tm S) : aw P m (.loop c) tm S Q := by
  refine ⟨fun n tm S => ∃ f : List Unit, n = f.length ∧ rounds P m c Q f tm S, ⟨_, _, _, Wk.refl _ _ _, f, rfl, h⟩, fun n tm S ⟨f, hn, hr⟩ => ?_⟩
  cases f with
  | nil => exact hr.elim
  | cons u f =>
    refine aw_mono hr fun e tm' S' hq => ?_
    cases e with
    | normal => exact ⟨_, _, _, Wk.refl _ _ _, ⟨f, rfl, hq⟩, by rw [hn]; simp⟩
    | _ => exact hq

/-- A scope with jumps to one label: ahead of it. -/
def qScope {α : Type} (m l : Nat) (tmF : α → List AV) (SF : α → List AObj) (ok : α → Prop) (Q : QT) : QT
  | .goto l', tm, S => l' = l ∧ ∃ a, ok a ∧ Wk m tm S (tmF a) (SF a)
  | e, tm, S => Q e tm S
/-- Behind it. -/
def qScoped {α : Type} (m l : Nat) (tmF : α → List AV) (SF : α → List AObj) (ok : α → Prop) (μ : α → Nat) (a : α) (Q : QT) : QT
  | .goto l', tm, S => l' = l ∧ ∃ a', ok a' ∧ μ a' < μ a ∧ Wk m tm S (tmF a') (SF a')
  | e, tm, S => Q e tm S
section
variable {α : Type} {l : Nat} {tmF : α → List AV} {SF : α → List AObj} {ok : α → Prop} {μ : α → Nat} {a : α}
theorem qScope_normal : qScope m l tmF SF ok Q .normal tm S = Q .normal tm S := (rfl)
theorem qScope_ret : qScope m l tmF SF ok Q .ret tm S = Q .ret tm S := (rfl)
theorem qScope_exit (id : Nat) : qScope m l tmF SF ok Q (.exit id) tm S = Q (.exit id) tm S := (rfl)
theorem qScope_goto (l' : Nat) : qScope m l tmF SF ok Q (.goto l') tm S = (l' = l ∧ ∃ a, ok a ∧ Wk m tm S (tmF a) (SF a)) := (rfl)
theorem qScoped_normal : qScoped m l tmF SF ok μ a Q .normal tm S = Q .normal tm S := (rfl)
theorem qScoped_ret : qScoped m l tmF SF ok μ a Q .ret tm S = Q .ret tm S := (rfl)
theorem qScoped_exit (id : Nat) : qScoped m l tmF SF ok μ a Q (.exit id) tm S = Q (.exit id) tm S := (rfl)
theorem qScoped_goto (l' : Nat) : qScoped m l tmF SF ok μ a Q (.goto l') tm S = (l' = l ∧ ∃ a', ok a' ∧ μ a' < μ a ∧ Wk m tm S (tmF a') (SF a')) := (rfl)
end
theorem scope_of {α : Type} {c r : C} (l : Nat) (hf : findC c l = some r) (tmF : α → List AV) (SF : α → List AObj) (ok : α → Prop) (μ : α → Nat) (first : (∀ a, ok a → aw P m r (tmF a) (SF a) (qScope m l tmF SF ok Q)) → aw P m c tm S (qScope m l tmF SF ok Q)) (pass : ∀ a, ok a → aw P m r (tmF a) (SF a) (qScoped m l tmF SF ok μ a Q)) : aw P m (.scope c) tm S Q := by
  refine scope_rule (fun n l' tm S => l' = l ∧ ∃ a, ok a ∧ tm = tmF a ∧ S = SF a ∧ n = μ a) (aw_mono (first fun a ha => aw_mono (pass a ha) fun e tm' S' hq => ?_) fun e tm' S' hq => ?_) fun n l' tm S ⟨hl, a, ha, h1, h2, h3⟩ => ⟨r, by rw [hl]; exact hf, ?_⟩
  · cases e with
    | goto l' => obtain ⟨h1, a', h2, _, h4⟩ := hq; exact ⟨h1, a', h2, h4⟩
    | _ => exact hq
  · cases e with
    | goto l' => obtain ⟨h1, a, h2, h3⟩ := hq; exact ⟨_, _, h3, μ a, h1, a, h2, rfl, rfl, rfl⟩
    | _ => exact hq
  · subst h1 h2 h3
    refine aw_mono (pass a ha) fun e tm' S' hq => ?_
    cases e with
    | goto l' => obtain ⟨h1, a', h2, h3, h4⟩ := hq; exact ⟨_, _, h4, μ a', ⟨h1, a', h2, rfl, rfl, rfl⟩, h3⟩
    | _ => exact hq

/-- A branch. -/
def cdK (P : Program) (m : Nat) (x : AV) (a b : C) (tm : List AV) (S : List AObj) (Q : QT) : Prop := match x with
  | .lit (.bool t) => (t = true → aw P m a tm S Q) ∧ (t = false → aw P m b tm S Q)
  | _ => False
theorem cdK_true (a b : C) : cdK P m (.lit (.bool true)) a b tm S Q = aw P m a tm S Q := by simp [cdK]
theorem cdK_false (a b : C) : cdK P m (.lit (.bool false)) a b tm S Q = aw P m b tm S Q := by simp [cdK]
theorem cdK_split {t : Bool} {a b : C} (h1 : t = true → aw P m a tm S Q) (h2 : t = false → aw P m b tm S Q) : cdK P m (.lit (.bool t)) a b tm S Q := ⟨h1, h2⟩

theorem aw_skip : aw P m .skip tm S Q = Q .normal tm S := (rfl)
theorem aw_reg (ops : List RO) (u : List (Nat × Nat)) : aw P m (.reg ops u) tm S Q = aReg P ops u [] tm S (Q .normal) := (rfl)
theorem aw_seq (a b : C) : aw P m (.seq a b) tm S Q = aw P m a tm S (qSeq P m b Q) := (rfl)
theorem aw_cond (c : Operand) (a b : C) : aw P m (.cond c a b) tm S Q = cdK P m (ev tm c) a b tm S Q := by
  simp only [aw, cdK]
  cases ev tm c with
  | lit v => cases v <;> rfl
  | _ => rfl
theorem aw_block (id : Nat) (c : C) : aw P m (.block id c) tm S Q = aw P m c tm S (qBlock id Q) := (rfl)
theorem aw_exit (id : Nat) : aw P m (.exit id) tm S Q = Q (.exit id) tm S := (rfl)
def kLab (m : Nat) (tm : List AV) (S : List AObj) (R : List AV → List AObj → Prop) : Prop := ∃ tm' S', Wk m tm S tm' S' ∧ R tm' S'
theorem kLab_go {R : List AV → List AObj → Prop} {tm' : List AV} {S' : List AObj} (h : Wk m tm S tm' S') (k : R tm' S') : kLab m tm S R := ⟨tm', S', h, k⟩
theorem aw_label (l : Nat) : aw P m (.label l) tm S Q = kLab m tm S (Q .normal) := (rfl)
theorem aw_goto (l : Nat) : aw P m (.goto l) tm S Q = Q (.goto l) tm S := (rfl)
theorem aw_ret : aw P m .ret tm S Q = Q .ret tm S := (rfl)

/-- What follows an operation of a region. -/
def kReg (P : Program) (rest : List RO) (u : List (Nat × Nat)) (tr : List (List Nat × List Nat)) (tm : List AV) (S : List AObj) (d : Option Nat) (R : List AV → List AObj → Prop) : KT := fun v rd upd new =>
  aReg P rest u (tr ++ [(rd, upd.map (·.1) ++ (newU S.length new).map (·.1))]) (setD tm d v) (updL S upd ++ new) R
def gdF (P : Program) (x : AV) (want : Bool) (i : I) (rest : List RO) (u : List (Nat × Nat)) (tr : List (List Nat × List Nat)) (tm : List AV) (S : List AObj) (d : Option Nat) (R : List AV → List AObj → Prop) : Prop :=
  gdK x want (effK P i (ev tm) S (kReg P rest u tr tm S d R)) (aReg P rest u (tr ++ [([], [])]) (setD tm d (.lit undef)) S R)
variable {rest : List RO} {u : List (Nat × Nat)} {tr : List (List Nat × List Nat)} {d : Option Nat} {R : List AV → List AObj → Prop}
theorem kReg_go (v : AV) (rd : List Nat) (upd : List (Nat × AObj)) (new : List AObj) : kReg P rest u tr tm S d R v rd upd new = aReg P rest u (tr ++ [(rd, upd.map (·.1) ++ (newU S.length new).map (·.1))]) (setD tm d v) (updL S upd ++ new) R := (rfl)
theorem kReg_pure (v : AV) : kReg P rest u tr tm S d R v [] [] [] = aReg P rest u (tr ++ [([], [])]) (setD tm d v) S R := by
  simp [kReg, newU]
theorem aReg_nil : aReg P [] u tr tm S R = (okTr u tr = true ∧ R tm S) := (rfl)
theorem aReg_nil0 : aReg P [] [] tr tm S R = R tm S := by simp [aReg, okTr]
theorem aReg_cons (i : I) : aReg P ((none, i, d) :: rest) u tr tm S R = effK P i (ev tm) S (kReg P rest u tr tm S d R) := (rfl)
theorem aReg_guard (t : Nat) (want : Bool) (i : I) : aReg P ((some (t, want), i, d) :: rest) u tr tm S R = gdF P (tm.getD t .any) want i rest u tr tm S d R := (rfl)
theorem gdF_tt (i : I) : gdF P (.lit (.bool true)) true i rest u tr tm S d R = effK P i (ev tm) S (kReg P rest u tr tm S d R) := (rfl)
theorem gdF_ff (i : I) : gdF P (.lit (.bool false)) false i rest u tr tm S d R = effK P i (ev tm) S (kReg P rest u tr tm S d R) := (rfl)
theorem gdF_tf (i : I) : gdF P (.lit (.bool true)) false i rest u tr tm S d R = aReg P rest u (tr ++ [([], [])]) (setD tm d (.lit undef)) S R := (rfl)
theorem gdF_ft (i : I) : gdF P (.lit (.bool false)) true i rest u tr tm S d R = aReg P rest u (tr ++ [([], [])]) (setD tm d (.lit undef)) S R := (rfl)
theorem gdF_undef (want : Bool) (i : I) : gdF P (.lit undef) want i rest u tr tm S d R = aReg P rest u (tr ++ [([], [])]) (setD tm d (.lit undef)) S R := (rfl)
theorem gdF_split {t : Bool} {want : Bool} {i : I} (h1 : t = true → gdF P (.lit (.bool true)) want i rest u tr tm S d R) (h2 : t = false → gdF P (.lit (.bool false)) want i rest u tr tm S d R) : gdF P (.lit (.bool t)) want i rest u tr tm S d R := by
  cases t
  · exact h2 rfl
  · exact h1 rfl
theorem setD_some (t : Nat) (v : AV) : setD tm (some t) v = tm.set t v := (rfl)
theorem setD_none (v : AV) : setD tm none v = tm := (rfl)
theorem ev_tmp (t : Nat) : ev tm (.tmp t) = tm.getD t .any := (rfl)
theorem ev_const (v : Value) : ev tm (.const v) = AV.ofC v := (rfl)
theorem ev_func (f : FuncId) : ev tm (.func f) = .fn f [] [] := (rfl)
theorem ofC_int (k : IntKind) (n : Int) : AV.ofC (.int k n) = .lit (.int k n) := (rfl)
theorem ofC_bool (b : Bool) : AV.ofC (.bool b) = .lit (.bool b) := (rfl)
theorem ofC_string (s : ByteArray) : AV.ofC (.string s) = .lit (.string s) := (rfl)
theorem ofC_nil : AV.ofC (.slice none 0 0) = .sl .full 1 [] := (rfl)
theorem ofC_ptr : AV.ofC (.pointer none) = .lit (.pointer none) := (rfl)
theorem ofC1_int (k : IntKind) (n : Int) : AV.ofC1 (.int k n) = .lit (.int k n) := (rfl)
theorem ofC1_bool (b : Bool) : AV.ofC1 (.bool b) = .lit (.bool b) := (rfl)
theorem ofC1_string (s : ByteArray) : AV.ofC1 (.string s) = .lit (.string s) := (rfl)
theorem ofC1_nil : AV.ofC1 (.slice none 0 0) = .sl .full 1 [] := (rfl)
theorem ofC1_ptr : AV.ofC1 (.pointer none) = .lit (.pointer none) := (rfl)
theorem parts_lit_int (k : IntKind) (n : Int) : (AV.lit (.int k n)).parts = some [.lit (.int k n)] := (rfl)
theorem parts_lit_bool (b : Bool) : (AV.lit (.bool b)).parts = some [.lit (.bool b)] := (rfl)
theorem parts_lit_string (s : ByteArray) : (AV.lit (.string s)).parts = some [.lit (.string s)] := (rfl)
theorem parts_lit_ptr : (AV.lit (.pointer none)).parts = some [.lit (.pointer none)] := (rfl)
theorem parts_agg (xs : List AV) : (AV.agg xs).parts = some xs := (rfl)
theorem parts_ref (i o : Nat) : (AV.ref i o).parts = some [.ref i o] := (rfl)
theorem parts_iptr (cs : List AV) : (AV.iptr cs).parts = some [.iptr cs] := (rfl)
theorem parts_sl (t : Tag) (k : Nat) (xs : List AV) : (AV.sl t k xs).parts = some [.sl t k xs] := (rfl)
theorem parts_fn (f : FuncId) (a b : List AV) : (AV.fn f a b).parts = some [.fn f a b] := (rfl)
theorem cells_agg (xs : List AV) : (AV.agg xs).cells = xs := (rfl)
theorem cells_lit (v : Value) : (AV.lit v).cells = [.lit v] := (rfl)
theorem cells_sl (t : Tag) (k : Nat) (xs : List AV) : (AV.sl t k xs).cells = [.sl t k xs] := (rfl)
theorem splice_nil (xs : List AV) (o : Nat) : splice xs o [] = xs := (rfl)
theorem splice_cons (xs : List AV) (o : Nat) (c : AV) (cs : List AV) : splice xs o (c :: cs) = splice (xs.set o c) (o + 1) cs := (rfl)

variable {ρ : Operand → AV} {K : KT}
theorem e_mov (x : Operand) : effK P (.mov x) ρ S K = K (ρ x) [] [] [] := (rfl)
theorem e_pick (c a b : Operand) : effK P (.pick c a b) ρ S K = kPick (ρ c) (ρ a) (ρ b) K := (rfl)
theorem e_new (zs : List Value) : effK P (.new zs) ρ S K = K (.ref S.length 0) [] [] [.cells (zs.map AV.ofC1)] := (rfl)
theorem e_box (x : Operand) : effK P (.box x) ρ S K = kBox (ρ x) S.length K := (rfl)
theorem e_build (zs : List Value) (ps : List (Nat × Nat × Operand)) : effK P (.build zs ps) ρ S K = kBuild (zs.map AV.ofC1) (ps.map fun p => (p.1, p.2.1, ρ p.2.2)) K := (rfl)
theorem e_bsl (k : Nat) (xs : List Operand) : effK P (.bsl k xs) ρ S K = kBsl k (xs.map ρ) K := (rfl)
theorem e_load (n : Option Nat) (a : Operand) : effK P (.load n a) ρ S K = kLoad n (ρ a) S K := (rfl)
theorem e_store (n : Nat) (a x : Operand) : effK P (.store n a x) ρ S K = kStore n (ρ a) (ρ x) S K := (rfl)
theorem e_nilc (x : Operand) : effK P (.nilc x) ρ S K = kNil (ρ x) K := (rfl)
theorem e_bin (op : BinOp) (x y : Operand) : effK P (.bin op x y) ρ S K = kBin op (ρ x) (ρ y) K := (rfl)
theorem e_eqb (b : Bool) (x y : Operand) : effK P (.eqb b x y) ρ S K = kEqb b (ρ x) (ρ y) K := (rfl)
theorem e_eqa (b : Bool) (n : Nat) (x y : Operand) : effK P (.eqa b n x y) ρ S K = kEqa b n (ρ x) (ρ y) K := (rfl)
theorem e_eqp (b : Bool) (x y : Operand) : effK P (.eqp b x y) ρ S K = kEqp b (ρ x) (ρ y) K := (rfl)
theorem e_un (op : UnOp) (x : Operand) : effK P (.un op x) ρ S K = kUn op (ρ x) K := (rfl)
theorem e_cvt (k : IntKind) (x : Operand) : effK P (.cvt k x) ρ S K = kCvt k (ρ x) K := (rfl)
theorem e_b2s (x : Operand) : effK P (.b2s x) ρ S K = kB2s (ρ x) K := (rfl)
theorem e_s2b (x : Operand) : effK P (.s2b x) ρ S K = kS2b (ρ x) K := (rfl)
theorem e_slice (k : Nat) (x : Operand) (lo hi mx : Option Operand) : effK P (.slice k x lo hi mx) ρ S K = kSlice k (ρ x) (lo.map ρ) (hi.map ρ) (mx.map ρ) K := (rfl)
theorem e_sstr (x : Operand) (lo hi : Option Operand) : effK P (.sstr x lo hi) ρ S K = kSstr (ρ x) (lo.map ρ) (hi.map ρ) K := (rfl)
theorem e_fadr (off : Nat) (x : Operand) : effK P (.fadr off x) ρ S K = kFadr off (ρ x) K := (rfl)
theorem e_fld (off : Nat) (n : Option Nat) (x : Operand) : effK P (.fld off n x) ρ S K = kFld off n (ρ x) K := (rfl)
theorem e_iadr (k : Nat) (x ix : Operand) : effK P (.iadr k x ix) ρ S K = kIadr k (ρ x) (ρ ix) K := (rfl)
theorem e_aadr (n k : Nat) (x ix : Operand) : effK P (.aadr n k x ix) ρ S K = kAadr n k (ρ x) (ρ ix) K := (rfl)
theorem e_idx (n k : Nat) (a : Option Nat) (x ix : Operand) : effK P (.idx n k a x ix) ρ S K = kIdx n k a (ρ x) (ρ ix) K := (rfl)
theorem e_sidx (x ix : Operand) : effK P (.sidx x ix) ρ S K = kSidx (ρ x) (ρ ix) K := (rfl)
theorem e_ext (x : Operand) (i : Nat) : effK P (.ext x i) ρ S K = kExt (ρ x) i K := (rfl)
theorem e_mkf (f : FuncId) (a b : List Operand) : effK P (.mkf f a b) ρ S K = K (.fn f (a.map ρ) (b.map ρ)) [] [] [] := (rfl)
theorem e_call (f : Operand) (args : List Operand) : effK P (.call f args) ρ S K = kCall P (ρ f) (args.map ρ) S K := (rfl)
theorem e_app (k b : Nat) (s x : Operand) : effK P (.app k b s x) ρ S K = kApp k b (ρ s) (ρ x) S K := (rfl)
theorem e_len (b : Bool) (x : Operand) : effK P (.len b x) ρ S K = kLen b (ρ x) K := (rfl)
theorem e_lenc (n : Nat) : effK P (.lenc n) ρ S K = K (.lit (.int .i64 n)) [] [] [] := (rfl)
theorem e_mx (b : Bool) (x y : Operand) : effK P (.mx b x y) ρ S K = kMx b (ρ x) (ρ y) K := (rfl)
theorem e_mksl (k b : Nat) (l c : Operand) : effK P (.mksl k b l c) ρ S K = kMksl k b (ρ l) (ρ c) S.length K := (rfl)
theorem kPick_lit (t : Bool) (x y : AV) : kPick (.lit (.bool t)) x y K = K (bif t then x else y) [] [] [] := (rfl)
theorem kBin_int (op : BinOp) (k k' : IntKind) (a b : Int) : kBin op (.lit (.int k a)) (.lit (.int k' b)) K = kInt op k a k' b K := (rfl)
theorem kBin_str (op : BinOp) (a b : ByteArray) : kBin op (.lit (.string a)) (.lit (.string b)) K = kStr op a b K := (rfl)
theorem i_add (k : IntKind) (a b : Int) : kInt .add k a k b K = K (.lit (.int k (k.wrap (a + b)))) [] [] [] := by simp [kInt]
theorem i_sub (k : IntKind) (a b : Int) : kInt .sub k a k b K = K (.lit (.int k (k.wrap (a - b)))) [] [] [] := by simp [kInt]
theorem i_mul (k : IntKind) (a b : Int) : kInt .mul k a k b K = K (.lit (.int k (k.wrap (a * b)))) [] [] [] := by simp [kInt]
theorem i_quo (k : IntKind) (a b : Int) : kInt .quo k a k b K = (b ≠ 0 ∧ K (.lit (.int k (k.wrap (a.tdiv b)))) [] [] []) := by simp [kInt]
theorem i_rem (k : IntKind) (a b : Int) : kInt .rem k a k b K = (b ≠ 0 ∧ K (.lit (.int k (a.tmod b))) [] [] []) := by simp [kInt]
theorem i_and (k : IntKind) (a b : Int) : kInt .and k a k b K = K (.lit (.int k (bitsI .and k a b))) [] [] [] := by simp [kInt]
theorem i_or (k : IntKind) (a b : Int) : kInt .or k a k b K = K (.lit (.int k (bitsI .or k a b))) [] [] [] := by simp [kInt]
theorem i_xor (k : IntKind) (a b : Int) : kInt .xor k a k b K = K (.lit (.int k (bitsI .xor k a b))) [] [] [] := by simp [kInt]
theorem i_andNot (k : IntKind) (a b : Int) : kInt .andNot k a k b K = K (.lit (.int k (bitsI .andNot k a b))) [] [] [] := by simp [kInt]
theorem i_shl (k k' : IntKind) (a b : Int) : kInt .shl k a k' b K = (0 ≤ b ∧ K (.lit (.int k (k.wrap (a * 2 ^ min b.toNat k.bits)))) [] [] []) := (rfl)
theorem i_shr (k k' : IntKind) (a b : Int) : kInt .shr k a k' b K = (0 ≤ b ∧ K (.lit (.int k (a.fdiv (2 ^ min b.toNat k.bits)))) [] [] []) := (rfl)
theorem i_eql (k : IntKind) (a b : Int) : kInt .eql k a k b K = K (.lit (.bool (a == b))) [] [] [] := by simp [kInt]
theorem i_neq (k : IntKind) (a b : Int) : kInt .neq k a k b K = K (.lit (.bool (a != b))) [] [] [] := by simp [kInt]
theorem i_lss (k : IntKind) (a b : Int) : kInt .lss k a k b K = K (.lit (.bool (decide (a < b)))) [] [] [] := by simp [kInt]
theorem i_leq (k : IntKind) (a b : Int) : kInt .leq k a k b K = K (.lit (.bool (decide (a ≤ b)))) [] [] [] := by simp [kInt]
theorem i_gtr (k : IntKind) (a b : Int) : kInt .gtr k a k b K = K (.lit (.bool (decide (b < a)))) [] [] [] := by simp [kInt]
theorem i_geq (k : IntKind) (a b : Int) : kInt .geq k a k b K = K (.lit (.bool (decide (b ≤ a)))) [] [] [] := by simp [kInt]
theorem s_eql (a b : ByteArray) : kStr .eql a b K = K (.lit (.bool (a.toList == b.toList))) [] [] [] := (rfl)
theorem s_neq (a b : ByteArray) : kStr .neq a b K = K (.lit (.bool (!(a.toList == b.toList)))) [] [] [] := (rfl)
theorem kBox_of {x : AV} {cs : List AV} (h : x.parts = some cs) (n : Nat) : kBox x n K = K (.ref n 0) [] [] [.cells cs] := by simp [kBox, h]
theorem kBox_int (k : IntKind) (a : Int) (n : Nat) : kBox (.lit (.int k a)) n K = K (.ref n 0) [] [] [.cells [.lit (.int k a)]] := (rfl)
theorem kBox_bool (b : Bool) (n : Nat) : kBox (.lit (.bool b)) n K = K (.ref n 0) [] [] [.cells [.lit (.bool b)]] := (rfl)
theorem kBox_agg (xs : List AV) (n : Nat) : kBox (.agg xs) n K = K (.ref n 0) [] [] [.cells xs] := (rfl)
theorem kBox_ref (i o : Nat) (n : Nat) : kBox (.ref i o) n K = K (.ref n 0) [] [] [.cells [.ref i o]] := (rfl)
theorem kBox_sl (t : Tag) (k : Nat) (xs : List AV) (n : Nat) : kBox (.sl t k xs) n K = K (.ref n 0) [] [] [.cells [.sl t k xs]] := (rfl)
theorem kBuild_eq (cells : List AV) (ps : List (Nat × Nat × AV)) : kBuild cells ps K = match fillA cells ps with
    | some cs => K (.agg cs) [] [] []
    | none => False := (rfl)
theorem fillA_nil (cells : List AV) : fillA cells [] = some cells := (rfl)
theorem fillA_cons (cells : List AV) (off size : Nat) (x : AV) (rest : List (Nat × Nat × AV)) : fillA cells ((off, size, x) :: rest) = match x.parts with
    | some cs => if cs.length = size ∧ off + size ≤ cells.length then fillA (splice cells off cs) rest else none
    | none => none := (rfl)
theorem kBsl_eq (k : Nat) (xs : List AV) : kBsl k xs K = (xs.all (okEl k) = true ∧ K (.sl .full k xs) [] [] []) := (rfl)
theorem okEl_eq (k : Nat) (x : AV) : okEl k x = match x.parts with
    | some cs => cs.length == k
    | none => false := (rfl)
theorem l_iptr1 (x : AV) (cs : List AV) : kLoad none (.iptr (x :: cs)) S K = K x [] [] [] := (rfl)
theorem l_iptrn (n : Nat) (cs : List AV) : kLoad (some n) (.iptr cs) S K = (n ≤ cs.length ∧ K (.agg (cs.take n)) [] [] []) := (rfl)
theorem l_ref (n : Option Nat) (i o : Nat) : kLoad n (.ref i o) S K = match S[i]? with
    | some (.cells xs) => match n with
      | none => match xs[o]? with
        | some x => K x [i] [] []
        | none => False
      | some n => o + n ≤ xs.length ∧ K (.agg ((xs.drop o).take n)) [i] [] []
    | _ => False := (rfl)
theorem st_ref (n i o : Nat) (x : AV) : kStore n (.ref i o) x S K = match S[i]? with
    | some (.cells xs) => match x.parts with
      | some cs => cs.length = n ∧ o + n ≤ xs.length ∧ K .any [i] [(i, .cells (splice xs o cs))] []
      | none => False
    | _ => False := (rfl)
theorem nil_ref (i o : Nat) : kNil (.ref i o) K = K (.ref i o) [] [] [] := (rfl)
theorem nil_iptr (cs : List AV) : kNil (.iptr cs) K = K (.iptr cs) [] [] [] := (rfl)
theorem eqb_lit (neg a b : Bool) : kEqb neg (.lit (.bool a)) (.lit (.bool b)) K = K (.lit (.bool (if neg then !(a == b) else a == b))) [] [] [] := (rfl)
theorem eqa_agg (neg : Bool) (n : Nat) (xs ys : List AV) : kEqa neg n (.agg xs) (.agg ys) K = (xs.length = n ∧ eqOk xs ys = true ∧ K (.lit (.bool (if neg then !(cellsEq xs ys) else cellsEq xs ys))) [] [] []) := (rfl)
theorem cellsEq_nil : cellsEq [] [] = true := (rfl)
theorem cellsEq_cons (k k' : IntKind) (a b : Int) (xs ys : List AV) : cellsEq (.lit (.int k a) :: xs) (.lit (.int k' b) :: ys) = ((a == b) && cellsEq xs ys) := (rfl)
theorem eqOk_nil : eqOk [] [] = true := (rfl)
theorem eqOk_cons (k : IntKind) (a b : Int) (xs ys : List AV) : eqOk (.lit (.int k a) :: xs) (.lit (.int k b) :: ys) = eqOk xs ys := by simp [eqOk]
theorem eqp_ref (neg : Bool) (i o : Nat) : kEqp neg (.ref i o) (.lit (.pointer none)) K = K (.lit (.bool neg)) [] [] [] := (rfl)
theorem eqp_nil (neg : Bool) : kEqp neg (.lit (.pointer none)) (.lit (.pointer none)) K = K (.lit (.bool !neg)) [] [] [] := (rfl)
theorem un_neg (k : IntKind) (n : Int) : kUn .neg (.lit (.int k n)) K = K (.lit (.int k (k.wrap (0 - n)))) [] [] [] := (rfl)
theorem un_xor (k : IntKind) (n : Int) : kUn .xor (.lit (.int k n)) K = K (.lit (.int k (bitsI .xor k (if k.signed then -1 else k.max) n))) [] [] [] := (rfl)
theorem un_not (b : Bool) : kUn .not (.lit (.bool b)) K = K (.lit (.bool !b)) [] [] [] := (rfl)
theorem cvt_int (k k' : IntKind) (n : Int) : kCvt k (.lit (.int k' n)) K = K (.lit (.int k (k.wrap n))) [] [] [] := (rfl)
theorem b2s_sl (t : Tag) (k : Nat) (xs : List AV) : kB2s (.sl t k xs) K = ((k = 1 ∨ xs = []) ∧ xs.all (·.isU8) = true ∧ K (.lit (.string (bytesOf xs))) [] [] []) := (rfl)
theorem s2b_str (s : ByteArray) : kS2b (.lit (.string s)) K = (s.size ≤ 140737488355328 ∧ K (.sl .none 1 (s.data.toList.map fun b => .lit (.int .u8 b.toNat))) [] [] []) := (rfl)
theorem sli_lh (k ks : Nat) (t : Tag) (xs : List AV) (k1 k2 : IntKind) (l h : Int) : kSlice k (.sl t ks xs) (some (.lit (.int k1 l))) (some (.lit (.int k2 h))) none K =
    ((ks = k ∨ xs = []) ∧ 0 ≤ l ∧ l ≤ h ∧ h ≤ xs.length ∧ K (.sl .none ks ((xs.drop l.toNat).take (h - l).toNat)) [] [] []) := (rfl)
theorem sli_h (k ks : Nat) (t : Tag) (xs : List AV) (k2 : IntKind) (h : Int) : kSlice k (.sl t ks xs) none (some (.lit (.int k2 h))) none K =
    ((ks = k ∨ xs = []) ∧ 0 ≤ h ∧ h ≤ xs.length ∧ K (.sl .none ks (xs.take h.toNat)) [] [] []) := by
  simp [kSlice, bnd, AV.i, sTag]
theorem sli_l_full (k ks : Nat) (xs : List AV) (k1 : IntKind) (l : Int) : kSlice k (.sl .full ks xs) (some (.lit (.int k1 l))) none none K =
    ((ks = k ∨ xs = []) ∧ 0 ≤ l ∧ l ≤ xs.length ∧ K (.sl .full ks (xs.drop l.toNat)) [] [] []) := by
  simp only [kSlice, bnd, AV.i, sTag, Int.le_refl, true_and]
  congr 4
  funext
  rw [List.take_of_length_le]
  simp; omega
theorem sli_l_none (k ks : Nat) (xs : List AV) (k1 : IntKind) (l : Int) : kSlice k (.sl .none ks xs) (some (.lit (.int k1 l))) none none K =
    ((ks = k ∨ xs = []) ∧ 0 ≤ l ∧ l ≤ xs.length ∧ K (.sl .none ks (xs.drop l.toNat)) [] [] []) := by
  simp only [kSlice, bnd, AV.i, sTag, Int.le_refl, true_and]
  congr 4
  funext
  rw [List.take_of_length_le]
  simp; omega
theorem sli_hm (k ks : Nat) (t : Tag) (xs : List AV) (k2 k3 : IntKind) (h m : Int) : kSlice k (.sl t ks xs) none (some (.lit (.int k2 h))) (some (.lit (.int k3 m))) K =
    ((ks = k ∨ xs = []) ∧ 0 ≤ h ∧ h ≤ xs.length ∧ m = h ∧ K (.sl .full ks (xs.take h.toNat)) [] [] []) := by
  simp [kSlice, bnd, AV.i]
theorem fadr_ref (off i o : Nat) : kFadr off (.ref i o) K = K (.ref i (o + off)) [] [] [] := (rfl)
theorem fadr_iptr (off : Nat) (cs : List AV) : kFadr off (.iptr cs) K = K (.iptr (cs.drop off)) [] [] [] := (rfl)
theorem fld_one (off : Nat) (xs : List AV) : kFld off none (.agg xs) K = match xs[off]? with
    | some x => K x [] [] []
    | none => False := (rfl)
theorem fld_n (off n : Nat) (xs : List AV) : kFld off (some n) (.agg xs) K = (off + n ≤ xs.length ∧ K (.agg ((xs.drop off).take n)) [] [] []) := (rfl)
theorem iadr_sl (k ks : Nat) (t : Tag) (xs : List AV) (k1 : IntKind) (i : Int) : kIadr k (.sl t ks xs) (.lit (.int k1 i)) K = (ks = k ∧ 0 ≤ i ∧ i < xs.length ∧ K (.iptr (xs.getD i.toNat .any).cells) [] [] []) := (rfl)
theorem aadr_ref (len k i o : Nat) (k1 : IntKind) (n : Int) : kAadr len k (.ref i o) (.lit (.int k1 n)) K = (0 ≤ n ∧ n < len ∧ K (.ref i (o + n.toNat * k)) [] [] []) := (rfl)
theorem aadr_iptr (len k : Nat) (cs : List AV) (k1 : IntKind) (n : Int) : kAadr len k (.iptr cs) (.lit (.int k1 n)) K = (0 ≤ n ∧ n < len ∧ K (.iptr (cs.drop (n.toNat * k))) [] [] []) := (rfl)
theorem idx_agg (len k : Nat) (n : Option Nat) (xs : List AV) (k1 : IntKind) (i : Int) : kIdx len k n (.agg xs) (.lit (.int k1 i)) K = (0 ≤ i ∧ i < len ∧ kFld (i.toNat * k) n (.agg xs) K) := (rfl)
theorem ext_tup (xs : List AV) (i : Nat) : kExt (.tup xs) i K = match xs[i]? with
    | some x => K x [] [] []
    | none => False := (rfl)
theorem call_fn (f : FuncId) (a b args : List AV) : kCall P (.fn f a b) args S K = CallK P f (a ++ args ++ b) S K := (rfl)
theorem app_full (k bytes ks ky : Nat) (t : Tag) (xs ys : List AV) : kApp k bytes (.sl .full ks xs) (.sl t ky ys) S K =
    ((ks = k ∨ xs = []) ∧ (ky = k ∨ ys = []) ∧ (xs.length + ys.length) * bytes ≤ 140737488355328 ∧ K (.sl (.row S.length) k (xs ++ ys)) [] [] [.row k (xs.length + ys.length)]) := (rfl)
theorem app_row (k bytes ks ky j : Nat) (t : Tag) (xs ys : List AV) : kApp k bytes (.sl (.row j) ks xs) (.sl t ky ys) S K =
    ((ks = k ∨ xs = []) ∧ (ky = k ∨ ys = []) ∧ (xs.length + ys.length) * bytes ≤ 140737488355328 ∧ S[j]? = some (.row k xs.length) ∧ K (.sl (.row j) k (xs ++ ys)) [j] [(j, .row k (xs.length + ys.length))] []) := (rfl)
theorem len_sl (t : Tag) (k : Nat) (xs : List AV) : kLen false (.sl t k xs) K = K (.lit (.int .i64 xs.length)) [] [] [] := (rfl)
theorem len_str (s : ByteArray) : kLen true (.lit (.string s)) K = K (.lit (.int .i64 s.size)) [] [] [] := (rfl)
theorem mx_int (b : Bool) (k k' : IntKind) (x y : Int) : kMx b (.lit (.int k x)) (.lit (.int k' y)) K = K (.lit (.int k (if b then (if y > x then y else x) else if y < x then y else x))) [] [] [] := (rfl)

theorem okTr_nil (tr : List (List Nat × List Nat)) : okTr [] tr = true := (rfl)
end
end Go.Proofs.Ytkhnfleejgfhgaa
end
section
namespace Go.Proofs.Ytkhnfleejgfhgaa

def qFin (P : Program) (m : Nat) (fn : Func) (r : AV) (S' : List AObj) : QT := fun e tm S1 => (e = .ret ∨ e = .normal) ∧ FinK P m fn tm S1 r S'
section
variable {P : Program} {m : Nat} {fn : Func} {r : AV} {S' : List AObj} {tm : List AV} {S : List AObj}
theorem qFin_ret : qFin P m fn r S' .ret tm S = FinK P m fn tm S r S' := by simp [qFin]
theorem qFin_normal : qFin P m fn r S' .normal tm S = FinK P m fn tm S r S' := by simp [qFin]

theorem Does.run {f : FuncId} {c : C} {args : List AV} {tm : List AV} {n : Nat} (hf : P.funcs[f]? = some fn) (hb : fn.body.bind (compC P) = some c) (hname : (fn.name == "runtime.NumGoroutine") = false) (hn : fn.ntmps = n)
    (ht : args ++ List.replicate (n - args.length) .any = tm) (h : aw P S.length c tm S (qFin P S.length fn r S')) : Does P f args S r S' := by
  cases hbd : fn.body with
  | none => simp [hbd] at hb
  | some code =>
    simp [hbd] at hb
    refine Does.body hf hbd hname hb ?_
    rw [hn, ht]
    exact h

theorem okTr_and {u : List (Nat × Nat)} {tr : List (List Nat × List Nat)} {p : Prop} (h : okTr u tr = true) (hp : p) : okTr u tr = true ∧ p := ⟨h, hp⟩
/-- The results and the store, by places that are told one by one. -/
theorem FinK.fin {rv : List RV} (hr : compR P fn = some rv) (ids : List Nat) (hn : ids.Nodup) (hl : ids.length = S'.length) (hm : m ≤ S'.length) (hp : ids.take m = List.range m)
    (hT : ids.map (fun i => S[i]?) = S'.map fun o => some (o.ren (ixs ids S.length))) (hx0 : (resAL tm S rv).map oneOr = some (r.ren (ixs ids S.length))) : FinK P m fn tm S r S' := by
  obtain ⟨xs, h, hx⟩ : ∃ xs, resAL tm S rv = some xs ∧ r.ren (ixs ids S.length) = oneOr xs := by
    cases hq : resAL tm S rv with
    | none => simp [hq] at hx0
    | some xs => simp [hq] at hx0; exact ⟨xs, rfl, hx0.symm⟩
  refine FinK.sel (r' := oneOr xs) (FinK.res hr h) ids hn hl hm (fun k i hk hi => ?_) (fun k o ho => ?_) hx
  · have : (ids.take m)[k]? = some i := by rw [List.getElem?_take, if_pos (by omega)]; exact hi
    rw [hp, List.getElem?_range (by omega)] at this
    injection this with this; exact this.symm
  · have hk : k < ids.length := by rw [hl]; exact (List.getElem?_eq_some_iff.1 ho).1
    refine ⟨ids[k], by simp, ?_⟩
    have := congrArg (fun l : List (Option AObj) => l[k]?) hT
    simp only [List.getElem?_map, List.getElem?_eq_getElem hk, ho, Option.map_some] at this
    injection this

/-- Values without places. -/
theorem ren_lit (ρ : Nat → Nat) (v : Value) : (AV.lit v).ren ρ = .lit v := by simp [AV.ren]
theorem ren_ref (ρ : Nat → Nat) (i o : Nat) : (AV.ref i o).ren ρ = .ref (ρ i) o := by simp [AV.ren]
theorem ren_any (ρ : Nat → Nat) : AV.any.ren ρ = .any := by simp [AV.ren]
theorem ren_agg (ρ : Nat → Nat) (xs : List AV) : (AV.agg xs).ren ρ = .agg (xs.map fun x => x.ren ρ) := by simp [AV.ren]
theorem ren_tup (ρ : Nat → Nat) (xs : List AV) : (AV.tup xs).ren ρ = .tup (xs.map fun x => x.ren ρ) := by simp [AV.ren]
theorem ren_sl (ρ : Nat → Nat) (t : Tag) (k : Nat) (xs : List AV) : (AV.sl t k xs).ren ρ = .sl (t.ren ρ) k (xs.map fun x => x.ren ρ) := by simp [AV.ren]
theorem ren_fn (ρ : Nat → Nat) (f : FuncId) (a b : List AV) : (AV.fn f a b).ren ρ = .fn f (a.map fun x => x.ren ρ) (b.map fun x => x.ren ρ) := by simp [AV.ren]
theorem tren_none (ρ : Nat → Nat) : Tag.none.ren ρ = .none := (rfl)
theorem tren_full (ρ : Nat → Nat) : Tag.full.ren ρ = .full := (rfl)
theorem tren_row (ρ : Nat → Nat) (j : Nat) : (Tag.row j).ren ρ = .row (ρ j) := (rfl)
theorem oren_cells (ρ : Nat → Nat) (xs : List AV) : (AObj.cells xs).ren ρ = .cells (xs.map fun x => x.ren ρ) := (rfl)
theorem oren_row (ρ : Nat → Nat) (k n : Nat) : (AObj.row k n).ren ρ = .row k n := (rfl)
theorem oren_dead (ρ : Nat → Nat) : AObj.dead.ren ρ = .dead := (rfl)
theorem ixs_z (i : Nat) (ids : List Nat) (N : Nat) : ixs (i :: ids) N 0 = i := (rfl)
theorem ixs_s (i : Nat) (ids : List Nat) (N k : Nat) : ixs (i :: ids) N (k + 1) = ixs ids (N + 1) k := by
  simp only [ixs, List.getD_cons_succ]; congr 1; omega
theorem ixs_1 (i j : Nat) (ids : List Nat) (N : Nat) : ixs (i :: j :: ids) N 1 = j := (rfl)
theorem ixs_2 (i j k : Nat) (ids : List Nat) (N : Nat) : ixs (i :: j :: k :: ids) N 2 = k := (rfl)
theorem ixs_3 (i j k l : Nat) (ids : List Nat) (N : Nat) : ixs (i :: j :: k :: l :: ids) N 3 = l := (rfl)

/-- Integers of one kind as abstract values. -/
def ints (k : IntKind) (l : List Int) : List AV := l.map fun z => .lit (.int k z)
theorem ren_ints (ρ : Nat → Nat) (k : IntKind) (l : List Int) : (ints k l).map (fun x => x.ren ρ) = ints k l := by simp [ints, AV.ren]
theorem ints_length (k : IntKind) (l : List Int) : (ints k l).length = l.length := by simp [ints]
theorem ints_append (k : IntKind) (l m : List Int) : ints k l ++ ints k m = ints k (l ++ m) := by simp [ints]
theorem ints_nil (k : IntKind) : ints k [] = [] := (rfl)
theorem ints_cons (k : IntKind) (z : Int) (l : List Int) : ints k (z :: l) = .lit (.int k z) :: ints k l := (rfl)
theorem ints_getD (k : IntKind) (l : List Int) (i : Nat) (h : i < l.length) : (ints k l).getD i .any = .lit (.int k (l.getD i 0)) := by
  simp [ints, h]
theorem ints_take (k : IntKind) (l : List Int) (n : Nat) : (ints k l).take n = ints k (l.take n) := by simp [ints]
theorem ints_drop (k : IntKind) (l : List Int) (n : Nat) : (ints k l).drop n = ints k (l.drop n) := by simp [ints]
theorem ints_u8 (l : List Int) : (ints .u8 l).all (·.isU8) = true := by simp [ints, AV.isU8]
theorem okEl_int (k : IntKind) (z : Int) : okEl 1 (.lit (.int k z)) = true := (rfl)
theorem ints_okEl (k : IntKind) (l : List Int) : (ints k l).all (okEl 1) = true := by simp [ints, okEl_int]
theorem w64_1 : IntKind.i64.wrap 1 = 1 := (rfl)
theorem w64_2 : IntKind.i64.wrap 2 = 2 := (rfl)
theorem w64_3 : IntKind.i64.wrap 3 = 3 := (rfl)
theorem w64_4 : IntKind.i64.wrap 4 = 4 := (rfl)
theorem oneOr_one (x : AV) : oneOr [x] = x := (rfl)
theorem oneOr_nil : oneOr [] = .tup [] := (rfl)
theorem oneOr_two (x y : AV) (xs : List AV) : oneOr (x :: y :: xs) = .tup (x :: y :: xs) := (rfl)

/-- A value told without whose slice it is. -/
def untag1 : AV → AV
  | .sl _ k xs => .sl .none k xs
  | x => x
def untag : AV → AV
  | .sl _ k xs => .sl .none k xs
  | .agg xs => .agg (xs.map untag1)
  | x => x
theorem rep_untag1 {G : Gh} {x : AV} {v : Value} (r : Rep G x v) : Rep G (untag1 x) v := by
  cases x with
  | sl t k xs => cases r with
    | sl vs hc hA hk h1 h2 h3 ht => exact .sl vs hc hA hk h1 h2 h3 trivial
  | _ => exact r
theorem rep_untag {G : Gh} {x : AV} {v : Value} (r : Rep G x v) : Rep G (untag x) v := by
  cases x with
  | sl t k xs => exact rep_untag1 (x := .sl t k xs) r
  | agg xs => cases r with
    | agg h0 h2 h3 => exact .agg (by simpa using h0) h2 (fun j x v hx hv => by
        obtain ⟨y, hy, rfl⟩ := map_get hx
        exact rep_untag1 (h3 j y v hy hv))
  | _ => exact r
theorem Wk.untag {tm : List AV} {S : List AObj} (t : Nat) {x : AV} (ht : tm[t]? = some x) : Wk m tm S (tm.set t (untag1 x)) S := fun G0 S0 w0 G a w _ hz => by
  have htl := (List.getElem?_eq_some_iff.1 ht).1
  refine ⟨G, hz.left, by simp [hz.size], fun t' y u hx hu => ?_, hz.defers, hz.wd0⟩
  by_cases et : t' = t
  · subst et
    simp [htl] at hx; subst hx
    exact rep_untag1 (hz.rep t' x u ht hu)
  · rw [List.getElem?_set_ne (Ne.symm et)] at hx
    exact hz.rep t' y u hx hu
theorem FinK.untag (t : Nat) {x : AV} (ht : tm[t]? = some x) (h : FinK P m fn (tm.set t (untag1 x)) S r S') : FinK P m fn tm S r S' := FinK.wk (Wk.untag t ht) h
/-- A nil slice of elements of whatever size. -/
theorem Wk.nilk {tm : List AV} {S : List AObj} (t k : Nat) {g : Tag} {k' : Nat} (ht : tm[t]? = some (.sl g k' [])) : Wk m tm S (tm.set t (.sl .none k [])) S := fun G0 S0 w0 G a w _ hz => by
  have htl := (List.getElem?_eq_some_iff.1 ht).1
  refine ⟨G, hz.left, by simp [hz.size], fun t' y u hx hu => ?_, hz.defers, hz.wd0⟩
  by_cases et : t' = t
  · subst et
    simp [htl] at hx; subst hx
    exact (rep_untag1 (hz.rep t' _ u ht hu)).rek
  · rw [List.getElem?_set_ne (Ne.symm et)] at hx
    exact hz.rep t' y u hx hu
theorem FinK.nilk (t k : Nat) {g : Tag} {k' : Nat} (ht : tm[t]? = some (.sl g k' [])) (h : FinK P m fn (tm.set t (.sl .none k [])) S r S') : FinK P m fn tm S r S' := FinK.wk (Wk.nilk t k ht) h
/-- An object's slices told without whose they are. -/
theorem Wk.unobj {tm : List AV} {S : List AObj} (i : Nat) {xs : List AV} (hi : S[i]? = some (.cells xs)) : Wk m tm S tm (S.set i (.cells (xs.map untag1))) := fun G0 S0 w0 G a w _ hz => by
  refine ⟨G, hz.left.trans (Left.reobj hz.left.wd hi (by simp) fun k x v hx h => ?_), hz.size, hz.rep, hz.defers, hz.wd0⟩
  obtain ⟨y, hy, rfl⟩ := map_get hx
  exact rep_untag1 (h y hy)
theorem FinK.unobj (i : Nat) {xs : List AV} (hi : S[i]? = some (.cells xs)) (h : FinK P m fn tm (S.set i (.cells (xs.map untag1))) r S') : FinK P m fn tm S r S' := FinK.wk (Wk.unobj i hi) h
theorem untag1_lit (v : Value) : untag1 (.lit v) = .lit v := (rfl)
theorem untag1_sl (t : Tag) (k : Nat) (xs : List AV) : untag1 (.sl t k xs) = .sl .none k xs := (rfl)
theorem Does.untag {f : FuncId} {args : List AV} {S : List AObj} (h : Does P f (args.map untag) S r S') : Does P f args S r S' :=
  ⟨h.1, fun G w vs hw hr => h.2 G w vs hw ⟨by simpa using hr.1, fun j x v hx hv => by
    obtain ⟨y, hy, rfl⟩ := map_get hx
    exact rep_untag (hr.2 j y v hy hv)⟩⟩
theorem Ct.untag {f : FuncId} {args : List AV} {rd : List (Nat × AObj)} {r : Nat → AV} {upd : List (Nat × AObj)} {new : Nat → List AObj} (h : Ct P f (args.map untag) rd r upd new) : Ct P f args rd r upd new :=
  fun T n h1 h2 => (h T n h1 h2).untag

-- contracts out of small stores
theorem Ct.p {f : FuncId} {args : List AV} {r : AV} (h : Does P f args [] r []) (ha : ∀ ρ, args.map (fun x => x.ren ρ) = args) (hr : ∀ ρ, r.ren ρ = r) : Ct P f args [] (fun _ => r) [] (fun _ => []) :=
  Ct.mk h [] (by simp) rfl (by simp) (by simp) (fun n N => ha _) (fun n N => hr _) (fun n N => rfl) (.inl fun n N => rfl) (fun n N => rfl)
theorem Ct.r1 {f : FuncId} {args args₀ : List AV} {o : AObj} {r : AV} (h : Does P f args₀ [o] r [o]) (i : Nat) (ha : ∀ N, args₀.map (fun x => x.ren (ixs [i] N)) = args) (ho : ∀ ρ, o.ren ρ = o) (hd : o ≠ .dead) (hr : ∀ ρ, r.ren ρ = r) : Ct P f args [(i, o)] (fun _ => r) [] (fun _ => []) :=
  Ct.mk h [i] (by simp) rfl (by simp) (by simpa using hd) (fun n N => ha N) (fun n N => hr _) (fun n N => by simp [ho]) (.inr ⟨rfl, rfl⟩) (fun n N => rfl)
theorem Ct.u1 {f : FuncId} {args args₀ : List AV} {o o' : AObj} {r : AV} (h : Does P f args₀ [o] r [o']) (i : Nat) (ha : ∀ N, args₀.map (fun x => x.ren (ixs [i] N)) = args) (ho : ∀ ρ, o.ren ρ = o) (ho' : ∀ ρ, o'.ren ρ = o') (hd : o ≠ .dead) (hr : ∀ ρ, r.ren ρ = r) :
    Ct P f args [(i, o)] (fun _ => r) [(i, o')] (fun _ => []) :=
  Ct.mk h [i] (by simp) rfl (by simp) (by simpa using hd) (fun n N => ha N) (fun n N => hr _) (fun n N => by simp [ho]) (.inl fun n N => by simp [ho']) (fun n N => rfl)
/-- A result in new objects. -/
theorem Ct.n {f : FuncId} {args : List AV} {r₀ : AV} {r : Nat → AV} {S₁ : List AObj} {new : Nat → List AObj} (h : Does P f args [] r₀ S₁) (ha : ∀ ρ, args.map (fun x => x.ren ρ) = args) (hr : ∀ n N, r₀.ren (ixs (List.range' n S₁.length) N) = r n)
    (hn : ∀ n N, (S₁.map fun o => o.ren (ixs (List.range' n S₁.length) N)) = new n) : Ct P f args [] r [] new :=
  Ct.mk h [] (by simp) rfl (by simp) (by simp) (fun n N => ha _) (fun n N => by simpa using hr n N) (fun n N => rfl) (.inl fun n N => rfl) (fun n N => by simpa using hn n N)
/-- A result in new objects, one object turned. -/
theorem Ct.un {f : FuncId} {args args₀ : List AV} {o o' : AObj} {r₀ : AV} {r : Nat → AV} {S₁ : List AObj} {new : Nat → List AObj} (h : Does P f args₀ [o] r₀ (o' :: S₁)) (i : Nat) (ha : ∀ n N, args₀.map (fun x => x.ren (ixs (i :: List.range' n S₁.length) N)) = args) (ho : ∀ ρ, o.ren ρ = o) (ho' : ∀ ρ, o'.ren ρ = o') (hd : o ≠ .dead)
    (hr : ∀ n N, r₀.ren (ixs (i :: List.range' n S₁.length) N) = r n) (hn : ∀ n N, (S₁.map fun o => o.ren (ixs (i :: List.range' n S₁.length) N)) = new n) : Ct P f args [(i, o)] r [(i, o')] new :=
  Ct.mk h [i] (by simp) rfl (by simp) (by simpa using hd) (fun n N => by simpa using ha n N) (fun n N => by simpa using hr n N) (fun n N => by simp [ho]) (.inl fun n N => by simp [ho']) (fun n N => by simpa using hn n N)

theorem Does.toCt {f : FuncId} {args : List AV} {r : AV} (h : Does P f args [] r []) (ha : ∀ ρ, args.map (fun x => x.ren ρ) = args) (hr : ∀ ρ, r.ren ρ = r) : Ct P f args [] (fun _ => r) [] (fun _ => []) := Ct.p h ha hr
-- contracts at a call
variable {K : KT} {f : FuncId} {args : List AV}
theorem CallK.p {r : AV} (h : Ct P f (args.map Proofs.Ytkhnfleejgfhgaa.untag) [] (fun _ => r) [] (fun _ => [])) (hK : K r [] [] []) : CallK P f args S K := CallK.of h.untag (by simp) (by simp) hK
theorem CallK.r1 {r : AV} {i : Nat} {o : AObj} (h : Ct P f (args.map Proofs.Ytkhnfleejgfhgaa.untag) [(i, o)] (fun _ => r) [] (fun _ => [])) (hS : S[i]? = some o) (hK : K r [i] [] []) : CallK P f args S K := CallK.of h.untag (by simpa using hS) (by simp) hK
theorem CallK.u1 {r : AV} {i : Nat} {o o' : AObj} (h : Ct P f (args.map Proofs.Ytkhnfleejgfhgaa.untag) [(i, o)] (fun _ => r) [(i, o')] (fun _ => [])) (hS : S[i]? = some o) (hK : K r [i] [(i, o')] []) : CallK P f args S K := CallK.of h.untag (by simpa using hS) (by simp) hK
theorem CallK.n {r : Nat → AV} {new : Nat → List AObj} (h : Ct P f (args.map Proofs.Ytkhnfleejgfhgaa.untag) [] r [] new) (hK : K (r S.length) [] [] (new S.length)) : CallK P f args S K := CallK.of h.untag (by simp) (by simp) hK
theorem CallK.un {r : Nat → AV} {i : Nat} {o o' : AObj} {new : Nat → List AObj} (h : Ct P f (args.map Proofs.Ytkhnfleejgfhgaa.untag) [(i, o)] r [(i, o')] new) (hS : S[i]? = some o) (hK : K (r S.length) [i] [(i, o')] (new S.length)) : CallK P f args S K := CallK.of h.untag (by simpa using hS) (by simp) hK
end
end Go.Proofs.Ytkhnfleejgfhgaa
end
section
namespace Go.Proofs.Ytkhnfleejgfhgaa
variable {P : Program} {S : List AObj} {K : KT} {f : FuncId} {args args₀ : List AV}

theorem Ct.u2 {o₀ p₀ o₁ p₁ o p o' p' : AObj} {r : AV} (h : Does P f args₀ [o₀, p₀] r [o₁, p₁]) (i j : Nat) (hij : i ≠ j) (ha : ∀ N, args₀.map (fun x => x.ren (ixs [i, j] N)) = args)
    (ho : ∀ N, o₀.ren (ixs [i, j] N) = o) (hp : ∀ N, p₀.ren (ixs [i, j] N) = p) (ho' : ∀ N, o₁.ren (ixs [i, j] N) = o') (hp' : ∀ N, p₁.ren (ixs [i, j] N) = p') (hd : o₀ ≠ .dead) (hd' : p₀ ≠ .dead) (hr : ∀ ρ, r.ren ρ = r) :
    Ct P f args [(i, o), (j, p)] (fun _ => r) [(i, o'), (j, p')] (fun _ => []) :=
  Ct.mk h [i, j] (by simpa using hij) rfl (by simp) (by simp [hd, hd']) (fun n N => by simpa using ha N) (fun n N => hr _) (fun n N => by simp [ho, hp]) (.inl fun n N => by simp [ho', hp']) (fun n N => rfl)
theorem Ct.r2 {o₀ p₀ o p : AObj} {r : AV} (h : Does P f args₀ [o₀, p₀] r [o₀, p₀]) (i j : Nat) (hij : i ≠ j) (ha : ∀ N, args₀.map (fun x => x.ren (ixs [i, j] N)) = args)
    (ho : ∀ N, o₀.ren (ixs [i, j] N) = o) (hp : ∀ N, p₀.ren (ixs [i, j] N) = p) (hd : o₀ ≠ .dead) (hd' : p₀ ≠ .dead) (hr : ∀ ρ, r.ren ρ = r) :
    Ct P f args [(i, o), (j, p)] (fun _ => r) [] (fun _ => []) :=
  Ct.mk h [i, j] (by simpa using hij) rfl (by simp) (by simp [hd, hd']) (fun n N => by simpa using ha N) (fun n N => hr _) (fun n N => by simp [ho, hp]) (.inr ⟨rfl, rfl⟩) (fun n N => rfl)
theorem CallK.r2 {r : AV} {i j : Nat} {o p : AObj} (h : Ct P f (args.map Proofs.Ytkhnfleejgfhgaa.untag) [(i, o), (j, p)] (fun _ => r) [] (fun _ => [])) (hS : S[i]? = some o) (hS' : S[j]? = some p) (hK : K r [i, j] [] []) : CallK P f args S K := CallK.of h.untag (by simp [hS, hS']) (by simp) hK
theorem CallK.u2 {r : AV} {i j : Nat} {o p o' p' : AObj} (h : Ct P f (args.map Proofs.Ytkhnfleejgfhgaa.untag) [(i, o), (j, p)] (fun _ => r) [(i, o'), (j, p')] (fun _ => [])) (hS : S[i]? = some o) (hS' : S[j]? = some p) (hK : K r [i, j] [(i, o'), (j, p')] []) : CallK P f args S K := CallK.of h.untag (by simp [hS, hS']) (by simp) hK
end Go.Proofs.Ytkhnfleejgfhgaa
end
section
namespace Go.Proofs.Ytkhnfleejgfhgaa
attribute [go_sem]
  rounds_cons qRds_normal qRds_ret qRds_exit qRds_goto qLoop_normal qLoop_ret qLoop_exit qScope_normal qScope_ret qScope_exit qScope_goto qScoped_normal qScoped_ret
  qScoped_exit qScoped_goto qSeq_normal qSeq_ret qSeq_exit qSeq_goto qBlock_normal qBlock_ret qBlock_exit qBlock_goto cdK_true cdK_false aw_skip aw_reg
  aw_seq aw_cond aw_block aw_exit aw_label aw_goto aw_ret kReg_pure aReg_nil aReg_nil0 aReg_cons aReg_guard gdF_tt gdF_ff
  gdF_tf gdF_ft gdF_undef setD_some setD_none ev_tmp ev_const ev_func ofC_int ofC_bool ofC_string ofC_nil ofC_ptr ofC1_int
  ofC1_bool ofC1_string ofC1_nil ofC1_ptr parts_lit_int parts_lit_bool parts_lit_string parts_lit_ptr parts_agg parts_ref parts_iptr parts_sl parts_fn cells_agg
  cells_lit cells_sl splice_nil splice_cons e_mov e_pick e_new e_box e_build e_bsl e_load e_store e_nilc e_bin
  e_eqb e_eqa e_eqp e_un e_cvt e_b2s e_s2b e_slice e_sstr e_fadr e_fld e_iadr e_aadr e_idx
  e_sidx e_ext e_mkf e_call e_app e_len e_lenc e_mx e_mksl kPick_lit kBin_int kBin_str i_add i_sub
  i_mul i_quo i_rem i_and i_or i_xor i_andNot i_shl i_shr i_eql i_neq i_lss i_leq i_gtr
  i_geq s_eql s_neq kBox_int kBox_bool kBox_agg kBox_ref kBox_sl kBuild_eq fillA_nil fillA_cons kBsl_eq okEl_eq l_iptr1
  l_iptrn l_ref st_ref nil_ref nil_iptr eqb_lit eqa_agg cellsEq_nil cellsEq_cons eqOk_nil eqOk_cons eqp_ref eqp_nil un_neg
  un_xor un_not cvt_int b2s_sl s2b_str fadr_ref fadr_iptr fld_one fld_n iadr_sl aadr_ref aadr_iptr idx_agg ext_tup call_fn
  app_full app_row len_sl len_str mx_int okTr_nil sli_lh sli_h sli_l_full sli_l_none sli_hm kReg_go List.getD_cons_zero List.getD_cons_succ
  List.set_cons_zero List.set_cons_succ List.getElem?_cons_zero List.getElem?_cons_succ List.map_cons List.map_nil List.length_cons List.length_nil List.nil_append List.cons_append List.append_nil updL_nil updL_cons newU
  List.replicate Nat.zero_add Nat.add_zero Option.map_some Option.map_none List.drop_zero List.drop_succ_cons List.take_succ_cons List.take_zero List.drop_nil List.take_nil and_true true_and Nat.le_refl
  Int.le_refl Nat.zero_le Bool.false_eq_true or_true true_or Bool.not_true Bool.not_false cond_true cond_false Int.cast_ofNat_Int List.all_cons List.all_nil okEl_int ints_okEl
  Bool.and_true Bool.and_self decide_false decide_true beq_self_eq_true bne_self_eq_false w64_1 w64_2 w64_3 w64_4
section
variable {P : Program} {m : Nat} {tm : List AV} {S : List AObj} {Q : QT}
/-- A scope into which nothing jumps. -/
theorem scope_no {c : C} (h : aw P m c tm S (qScope (α := Unit) m 0 (fun _ => []) (fun _ => []) (fun _ => False) Q)) : aw P m (.scope c) tm S Q := by
  refine scope_rule (fun _ _ _ _ => False) (aw_mono h fun e tm' S' hq => ?_) fun n l' tm S h => h.elim
  cases e with
  | goto l' => obtain ⟨_, a, h2, _⟩ := hq; exact h2.elim
  | _ => exact hq
theorem kLab_on {R : List AV → List AObj → Prop} (h : R tm S) : kLab m tm S R := kLab_go (Wk.refl _ _ _) h
end
end Go.Proofs.Ytkhnfleejgfhgaa
end
