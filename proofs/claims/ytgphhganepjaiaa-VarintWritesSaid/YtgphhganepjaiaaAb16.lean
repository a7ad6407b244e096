/-
  Contracts at a call; what is borne less exactly. Over any program.
-/
import Derived.Test.YtgphhganepjaiaaAb15
namespace Go.Proofs.Ytgphhganepjaiaa

/-- A contract at any place of any store: what it reads (rd), what it turns (upd, among what it reads), what it lays at free places from n on (new). -/
def Ct (P : Program) (f : FuncId) (args : List AV) (rd : List (Nat × AObj)) (r : Nat → AV) (upd : List (Nat × AObj)) (new : Nat → List AObj) : Prop :=
  ∀ T n, (∀ p ∈ rd, T[p.1]? = some p.2) → (∀ p ∈ newU n (new n), T[p.1]? = some .dead) → Does P f args T (r n) (updL T (upd ++ newU n (new n)))

theorem CallK.of {P : Program} {f : FuncId} {args : List AV} {rd : List (Nat × AObj)} {r : Nat → AV} {upd : List (Nat × AObj)} {new : Nat → List AObj} {S : List AObj} {K : KT} (h : Ct P f args rd r upd new) (hrd : ∀ p ∈ rd, S[p.1]? = some p.2)
    (hu : ∀ p ∈ upd, p.1 ∈ rd.map (·.1)) (hK : K (r S.length) (rd.map (·.1)) upd (new S.length)) : CallK P f args S K := by
  refine ⟨_, _, _, _, fun T hT _ hd => h T S.length (fun p hp => ?_) hd, hu, fun i hi => ?_, hK⟩
  · rw [hT p.1 (List.mem_map.2 ⟨p, hp, rfl⟩)]; exact hrd p hp
  · obtain ⟨p, hp, rfl⟩ := List.mem_map.1 hi
    exact (List.getElem?_eq_some_iff.1 (hrd p hp)).1

theorem updL_self (T : List AObj) (u : List (Nat × AObj)) (h : ∀ p ∈ u, T[p.1]? = some p.2) : updL T u = T := by
  induction u with
  | nil => rfl
  | cons p u ih =>
    have : T.set p.1 p.2 = T := by
      apply List.ext_getElem?
      intro q
      by_cases e : q = p.1
      · subst e
        have hp := h p (by simp)
        rw [List.getElem?_set_self (List.getElem?_eq_some_iff.1 hp).1, hp]
      · rw [List.getElem?_set_ne (Ne.symm e)]
    rw [updL_cons, this]; exact ih fun q hq => h q (by simp [hq])

theorem newU_zip (n : Nat) (l : List AObj) : newU n l = (List.range' n l.length).zip l := by
  induction l generalizing n with
  | nil => rfl
  | cons o l ih => simp [newU, ih, List.range'_succ]

/-- A contract in a small store serves at any place. -/
theorem Ct.mk {P : Program} {f : FuncId} {args args₀ : List AV} {S₀ S₁ : List AObj} {r₀ : AV} {r : Nat → AV} {rd upd : List (Nat × AObj)} {new : Nat → List AObj} (h : Does P f args₀ S₀ r₀ S₁) (is : List Nat) (hn : is.Nodup) (hl : is.length = S₀.length) (hSl : S₀.length ≤ S₁.length)
    (hal : ∀ o ∈ S₀, o ≠ .dead) (ha : ∀ n N, args₀.map (fun x => x.ren (ixs (is ++ List.range' n (S₁.length - S₀.length)) N)) = args) (hr : ∀ n N, r₀.ren (ixs (is ++ List.range' n (S₁.length - S₀.length)) N) = r n)
    (hrd : ∀ n N, is.zip (S₀.map fun o => o.ren (ixs (is ++ List.range' n (S₁.length - S₀.length)) N)) = rd)
    (hupd : (∀ n N, is.zip ((S₁.take S₀.length).map fun o => o.ren (ixs (is ++ List.range' n (S₁.length - S₀.length)) N)) = upd) ∨ upd = [] ∧ S₁.take S₀.length = S₀)
    (hnew : ∀ n N, ((S₁.drop S₀.length).map fun o => o.ren (ixs (is ++ List.range' n (S₁.length - S₀.length)) N)) = new n) : Ct P f args rd r upd new := by
  intro T n hT hd
  have hln : (new n).length = S₁.length - S₀.length := by rw [← hnew n T.length]; simp
  have hat : ∀ (k : Nat) (o : AObj), S₀[k]? = some o → ∃ i, (is ++ List.range' n (S₁.length - S₀.length))[k]? = some i ∧ T[i]? = some (o.ren (ixs (is ++ List.range' n (S₁.length - S₀.length)) T.length)) := by
    intro k o ho
    have hk : k < is.length := by rw [hl]; exact (List.getElem?_eq_some_iff.1 ho).1
    refine ⟨is[k], by rw [List.getElem?_append_left hk]; simp, hT (is[k], _) ?_⟩
    rw [← hrd n T.length]
    refine List.mem_of_getElem? (i := k) ?_
    rw [List.getElem?_zip_eq_some]
    exact ⟨List.getElem?_eq_getElem hk, by rw [List.getElem?_map, ho]; rfl⟩
  have hdead : ∀ i, i ∈ List.range' n (S₁.length - S₀.length) → T[i]? = some .dead := by
    intro i hi
    rw [newU_zip, hln] at hd
    obtain ⟨j, hj, rfl⟩ := List.getElem_of_mem hi
    have hj' : j < (new n).length := by rw [hln]; simpa using hj
    have := hd ((List.range' n (S₁.length - S₀.length))[j], (new n)[j]) (by
      refine List.mem_of_getElem? (i := j) ?_
      rw [List.getElem?_zip_eq_some]
      exact ⟨List.getElem?_eq_getElem hj, List.getElem?_eq_getElem hj'⟩)
    exact this
  have hnd : (is ++ List.range' n (S₁.length - S₀.length)).Nodup := by
    rw [List.nodup_append]
    refine ⟨hn, List.nodup_range', fun a ha1 b hb1 => ?_⟩
    rintro rfl
    obtain ⟨k, hk, rfl⟩ := List.getElem_of_mem ha1
    have hk' : k < S₀.length := by rw [← hl]; exact hk
    obtain ⟨i, h1, h2⟩ := hat k S₀[k] (List.getElem?_eq_getElem hk')
    rw [List.getElem?_append_left hk, List.getElem?_eq_getElem hk] at h1
    injection h1 with h1; subst h1
    rw [hdead _ hb1] at h2
    injection h2 with h2
    have := hal S₀[k] (List.getElem_mem hk')
    cases ho : S₀[k] with
    | dead => exact this ho
    | cells xs => rw [ho] at h2; simp [AObj.ren] at h2
    | row a b => rw [ho] at h2; simp [AObj.ren] at h2
  have := h.embed T (is ++ List.range' n (S₁.length - S₀.length)) hnd (by simp; omega) hSl hat (fun k i hk hi => by
    rw [List.getElem?_append_right (by omega)] at hi
    exact hdead i (List.mem_of_getElem? hi))
  rw [ha, hr] at this
  have e : (is ++ List.range' n (S₁.length - S₀.length)).zip (S₁.map fun o => o.ren (ixs (is ++ List.range' n (S₁.length - S₀.length)) T.length)) =
      is.zip ((S₁.take S₀.length).map fun o => o.ren (ixs (is ++ List.range' n (S₁.length - S₀.length)) T.length)) ++ newU n (new n) := by
    rw [newU_zip, hln, ← hnew n T.length]
    conv => lhs; rw [← List.take_append_drop S₀.length S₁]
    rw [List.map_append, List.zip_append (by simp; omega)]
    simp
  rw [e, updL_append] at this
  rw [updL_append]
  rcases hupd with hupd | ⟨rfl, hsame⟩
  · rw [hupd] at this; exact this
  · rw [hsame, updL_self T _ (fun p hp => ?_)] at this
    · exact this
    · rw [hrd] at hp; exact hT p hp

/-- The slots told less exactly. -/
def leT : List AV → List AV → Prop
  | [], [] => True
  | x :: xs, y :: ys => (y = .any ∨ x = y) ∧ leT xs ys
  | _, _ => False
theorem leT_spec : ∀ {xs ys : List AV}, leT xs ys → xs.length = ys.length ∧ ∀ (t : Nat) (y : AV), ys[t]? = some y → y = .any ∨ xs[t]? = some y := by
  intro xs
  induction xs with
  | nil => intro ys h; cases ys with
    | nil => exact ⟨rfl, fun t y h => by simp at h⟩
    | cons => exact h.elim
  | cons x xs ih => intro ys h; cases ys with
    | nil => exact h.elim
    | cons y ys =>
      obtain ⟨h1, h2⟩ := h
      obtain ⟨g1, g2⟩ := ih h2
      refine ⟨by simp [g1], fun t z hz => ?_⟩
      cases t with
      | zero => simp at hz; subst hz; rcases h1 with h | h; exact .inl h; exact .inr (by simp [h])
      | succ t => simp at hz; simpa using g2 t z hz
theorem Wk.forget {m : Nat} {tm tm' : List AV} {S : List AObj} (h : leT tm tm') : Wk m tm S tm' S := fun G0 S0 w0 G a w _ hz => by
  obtain ⟨h1, h2⟩ := leT_spec h
  refine ⟨G, hz.left, by rw [hz.size, h1], fun t x v hx hv => ?_, hz.defers, hz.wd0⟩
  rcases h2 t x hx with rfl | h
  · exact .any v
  · exact hz.rep t x v h hv
theorem Wk.to {m : Nat} {tm tm' : List AV} {S S' : List AObj} (hS : S = S') (h : leT tm tm') : Wk m tm S tm' S' := hS ▸ Wk.forget h

/-- The slots told in a smaller store. -/
def selT (ρ : Nat → Nat) : List AV → List AV → Prop
  | [], [] => True
  | x :: xs, y :: ys => (y = .any ∨ x = y.ren ρ) ∧ selT ρ xs ys
  | _, _ => False
theorem selT_spec {ρ : Nat → Nat} : ∀ {xs ys : List AV}, selT ρ xs ys → xs.length = ys.length ∧ ∀ (t : Nat) (y : AV), ys[t]? = some y → y = .any ∨ xs[t]? = some (y.ren ρ) := by
  intro xs
  induction xs with
  | nil => intro ys h; cases ys with
    | nil => exact ⟨rfl, fun t y h => by simp at h⟩
    | cons => exact h.elim
  | cons x xs ih => intro ys h; cases ys with
    | nil => exact h.elim
    | cons y ys =>
      obtain ⟨h1, h2⟩ := h
      obtain ⟨g1, g2⟩ := ih h2
      refine ⟨by simp [g1], fun t z hz => ?_⟩
      cases t with
      | zero => simp at hz; subst hz; rcases h1 with h | h; exact .inl h; exact .inr (by simp [h])
      | succ t => simp at hz; simpa using g2 t z hz

theorem Left.sel {G0 : Gh} {S0 : List AObj} {w0 : World} {G : Gh} {S : List AObj} {w : World} (hs : Left G0 S0 w0 G S w) (h0 : Wd G0 S0 w0) {S' : List AObj} (ids : List Nat) (hn : ids.Nodup) (hl : ids.length = S'.length) (hm : S0.length ≤ S'.length)
    (hp : ∀ (k i : Nat), k < S0.length → ids[k]? = some i → i = k) (hT : ∀ (k : Nat) (o : AObj), S'[k]? = some o → ∃ i, ids[k]? = some i ∧ S[i]? = some (o.ren (ixs ids S.length))) : Left G0 S0 w0 (G.pull (ixs ids S.length)) S' w := by
  have hD : ∀ (k i : Nat), S'.length ≤ k → ids[k]? = some i → S[i]? = some .dead := fun k i hk hi => by
    rw [List.getElem?_eq_none (by omega)] at hi; cases hi
  obtain ⟨hwd, hblk⟩ := Wd.pull hs.wd ids hn (by omega) hT hD
  have hid : ∀ k, k < S0.length → ixs ids S.length k = k := fun k hk => by
    have e : ids[k]? = some (ids[k]'(by omega)) := by simp
    rw [ixs_get e]; exact hp k _ hk e
  have hw0 : ∀ i, S0.length ≤ i → G0.loc i = none ∧ ∀ n, G0.hist i n = none := fun i hi => h0.dom i (.inl (List.getElem?_eq_none (by omega)))
  refine ⟨⟨hs.le.imm, fun i b hb => ?_, fun i n u hb => ?_⟩, hwd, hs.kept, fun i b hb => ?_, hs.still⟩
  · have hi : i < S0.length := by
      rcases Nat.lt_or_ge i S0.length with h | h
      · exact h
      · rw [(hw0 i h).1] at hb; cases hb
    show G.loc (ixs ids S.length i) = _
    rw [hid i hi]; exact hs.le.loc i b hb
  · have hi : i < S0.length := by
      rcases Nat.lt_or_ge i S0.length with h | h
      · exact h
      · rw [(hw0 i h).2] at hb; cases hb
    show G.hist (ixs ids S.length i) n = _
    rw [hid i hi]; exact hs.le.hist i n u hb
  · rcases hblk i with h | h
    · rw [h] at hb; cases hb
    · rw [h] at hb; exact hs.own _ b hb
theorem Wk.sel {m : Nat} {tm tm' : List AV} {S S' : List AObj} (ids : List Nat) (hn : ids.Nodup) (hl : ids.length = S'.length) (hm : m ≤ S'.length) (hp : ids.take m = List.range m)
    (hT : ids.map (fun i => S[i]?) = S'.map fun o => some (o.ren (ixs ids S.length))) (ht : selT (ixs ids S.length) tm tm') : Wk m tm S tm' S' := fun G0 S0 w0 G a w e hz => by
  obtain ⟨h1, h2⟩ := selT_spec ht
  refine ⟨_, Left.sel hz.left hz.wd0 (S' := S') ids hn hl (by omega) (fun k i hk hi => ?_) (fun k o ho => ?_), by rw [hz.size, h1], fun t x v hx hv => ?_, hz.defers, hz.wd0⟩
  · have : (ids.take m)[k]? = some i := by rw [List.getElem?_take, if_pos (by omega)]; exact hi
    rw [hp, List.getElem?_range (by omega)] at this
    injection this with this; exact this.symm
  · have hk : k < ids.length := by rw [hl]; exact (List.getElem?_eq_some_iff.1 ho).1
    refine ⟨ids[k], by simp, ?_⟩
    have := congrArg (fun l : List (Option AObj) => l[k]?) hT
    simp only [List.getElem?_map, List.getElem?_eq_getElem hk, ho, Option.map_some] at this
    injection this
  · rcases h2 t x hx with rfl | h
    · exact .any v
    · exact (hz.rep t _ v h hv).pull x rfl

theorem Left.reobj {G : Gh} {T : List AObj} {w : World} {i : Nat} {xs xs' : List AV} (h : Wd G T w) (hi : T[i]? = some (.cells xs)) (hl : xs'.length = xs.length) (hc : ∀ (k : Nat) (x : AV) (v : Value), xs'[k]? = some x → (∀ y, xs[k]? = some y → Rep G y v) → Rep G x v) :
    Left G T w G (T.set i (.cells xs')) w := by
  obtain ⟨b, cs, t, h1, h2, h3, h4, _⟩ := h.obj i xs hi
  refine Left.turn h hi h1 (⟨rfl, rfl, rfl, rfl, fun _ _ => rfl, h2⟩ : Turn w w b (.cells cs t (0, 0))) (by omega) fun k x v hx hv => ?_
  have hk : k < xs.length := by rw [← hl]; exact (List.getElem?_eq_some_iff.1 hx).1
  have := h4 k _ v (List.getElem?_eq_getElem hk) hv
  refine ⟨this.1, hc k x v hx fun y hy => ?_⟩
  rw [List.getElem?_eq_getElem hk] at hy
  injection hy with hy; subst hy; exact this.2

/-- A slice that is all of its capacity (a nil slice, too) becomes a row's. -/
theorem Wk.row {m : Nat} {tm : List AV} {S : List AObj} (t k : Nat) {k' : Nat} {xs : List AV} (ht : tm[t]? = some (.sl .full k' xs)) (hk : k' = k ∨ xs = []) (h1 : 1 ≤ k) : Wk m tm S (tm.set t (.sl (.row S.length) k xs)) (S ++ [.row k xs.length]) := fun G0 S0 w0 G a w _ hz => by
  have hd := Left.dead hz.left.wd 1
  have htl := (List.getElem?_eq_some_iff.1 ht).1
  have hlt : t < a.tmps.size := by rw [hz.size]; exact htl
  have hv := Array.getElem?_eq_getElem hlt
  have r := hz.rep t _ _ ht hv
  have r' : Rep G (.sl .full k xs) a.tmps[t] := by
    rcases hk with rfl | rfl
    · exact r
    · exact r.rek
  generalize a.tmps[t] = v at *
  cases r' with
  | @sl _ _ _ A c b o vs q1 q2 q3 q4 q5 q6 q7 =>
    have hc : c = xs.length := q7
    subst hc
    have hid : (S ++ List.replicate 1 AObj.dead)[S.length]? = some .dead := by simp
    obtain ⟨hl, hh⟩ := Left.rowFull (id := S.length) (k := k) (n := xs.length) (A := A) hd.wd hid h1
    have e : (S ++ List.replicate 1 AObj.dead).set S.length (.row k xs.length) = S ++ [.row k xs.length] := by simp
    rw [e] at hl
    have hall := (hz.left.trans hd).trans hl
    refine ⟨_, hall, by simp [hz.size], fun t' x u hx hu => ?_, hz.defers, hz.wd0⟩
    by_cases et : t' = t
    · subst et
      simp [htl] at hx; subst hx
      rw [hv] at hu; injection hu with hu; subst hu
      exact ((Rep.sl vs q1 q2 q3 q4 q5 q6 q7 : Rep G (.sl .full k xs) _).mono hl.le).retag hh
    · rw [List.getElem?_set_ne (Ne.symm et)] at hx
      exact (hz.rep t' x u hx hu).mono hl.le
/-- The same of a slice in an object's cell. -/
theorem Wk.rowObj {m : Nat} {tm : List AV} {S : List AObj} (i j k : Nat) {k' : Nat} {ys xs : List AV} (hi : S[i]? = some (.cells ys)) (hj : ys[j]? = some (.sl .full k' xs)) (hk : k' = k ∨ xs = []) (h1 : 1 ≤ k) :
    Wk m tm S tm (S.set i (.cells (ys.set j (.sl (.row S.length) k xs))) ++ [.row k xs.length]) := fun G0 S0 w0 G a w _ hz => by
  have hd := Left.dead hz.left.wd 1
  have hil := (List.getElem?_eq_some_iff.1 hi).1
  have hjl := (List.getElem?_eq_some_iff.1 hj).1
  obtain ⟨b, cs, t, g1, g2, g3, g4, _⟩ := hz.left.wd.obj i ys hi
  have hv := Array.getElem?_eq_getElem (show j < cs.size by omega)
  have r := (g4 j _ _ hj hv).2
  have r' : Rep G (.sl .full k xs) cs[j] := by
    rcases hk with rfl | rfl
    · exact r
    · exact r.rek
  generalize hcj : cs[j] = v at *
  cases r' with
  | @sl _ _ _ A c b' o vs q1 q2 q3 q4 q5 q6 q7 =>
    have hc : c = xs.length := q7
    subst hc
    have hid : (S ++ List.replicate 1 AObj.dead)[S.length]? = some .dead := by simp
    obtain ⟨hl, hh⟩ := Left.rowFull (id := S.length) (k := k) (n := xs.length) (A := A) hd.wd hid h1
    have e : (S ++ List.replicate 1 AObj.dead).set S.length (.row k xs.length) = S ++ [.row k xs.length] := by simp
    rw [e] at hl
    have hi' : (S ++ [AObj.row k xs.length])[i]? = some (.cells ys) := by rw [List.getElem?_append_left hil]; exact hi
    obtain ⟨b2, cs2, t2, p1, p2, p3, p4, _⟩ := hl.wd.obj i ys hi'
    have hb2 : b2 = b := by
      have := hl.le.loc i b (by simpa using g1)
      rw [p1] at this; injection this
    subst hb2
    rw [p2] at g2; injection g2 with g2; injection g2 with e1 e1t; subst e1 e1t
    have hturn : Left (G.newHist S.length xs.length (.slice A xs.length xs.length)) (S ++ [AObj.row k xs.length]) w (G.newHist S.length xs.length (.slice A xs.length xs.length)) ((S ++ [AObj.row k xs.length]).set i (.cells (ys.set j (.sl (.row S.length) k xs)))) w := by
      refine Left.turn (xs' := ys.set j (.sl (.row S.length) k xs)) hl.wd hi' p1 (⟨rfl, rfl, rfl, rfl, fun _ _ => rfl, p2⟩ : Turn w w b2 (.cells cs2 t2 (0, 0))) (by rw [List.length_set]; omega) fun q x u hx hu => ?_
      by_cases eq : q = j
      · subst eq
        simp [hjl] at hx; subst hx
        rw [hv] at hu; injection hu with hu
        refine ⟨?_, ?_⟩
        · rw [← hu]; rfl
        · rw [← hu]
          exact ((Rep.sl vs q1 q2 q3 q4 q5 q6 q7 : Rep G (.sl .full k xs) _).mono hl.le).retag hh
      · rw [List.getElem?_set_ne (Ne.symm eq)] at hx
        exact p4 q x u hx hu
    have e2 : (S ++ [AObj.row k xs.length]).set i (.cells (ys.set j (.sl (.row S.length) k xs))) = S.set i (.cells (ys.set j (.sl (.row S.length) k xs))) ++ [.row k xs.length] := by rw [List.set_append_left _ _ hil]
    rw [e2] at hturn
    have hall := ((hz.left.trans hd).trans hl).trans hturn
    exact ⟨_, hall, hz.size, fun t' x u hx hu => (hz.rep t' x u hx hu).mono hl.le, hz.defers, hz.wd0⟩

end Go.Proofs.Ytgphhganepjaiaa
