/-
  Arguments that are rows of bytes, or two numbers.
  Arguments that are links, or entries.
  What a function reaches, read off a table of where each function leads: the cells inPlace, unfollowed, recurses, named of a row, without walking the texts again for each row.
  Closed facts on the program of this seat: where each function leads, and what it names.
  The closed facts of the row of LinkChanges.
-/
import Derived.Test.YtnfagphepkeedaaB2
import Derived.Test.YtnfagphepkeedaaB1
set_option linter.all false
set_option linter.unusedSimpArgs false
set_option linter.unusedVariables false
set_option linter.unnecessarySimpa false
section
namespace Go.Proofs.Ytnfagphepkeedaa

theorem ty_ints' {k : IntKind} {ys : List (List AV)} (h : ∀ y ∈ ys, y.length = 1 ∧ (Sh.int k).Ty y) : ∃ l : List Int, ys.map (elA false) = ints k l ∧ ∀ n ∈ l, (Lit.int k n).wf = true := by
  obtain ⟨l, rfl, hl⟩ := ex_list (g := fun n : Int => [AV.lit (.int k n)]) (ok := fun n => (Lit.int k n).wf = true) (fun y hy => (h y hy).2) fun y hy => hy
  exact ⟨l, by simp [ints, elA], hl⟩
end Go.Proofs.Ytnfagphepkeedaa
end
section
namespace Go.Proofs.Ytnfagphepkeedaa

def shLk : Sh := .pair (.int .u64) (.pair (.sl false 1 (.int .u64)) .nil)
theorem ty_lk {y : List AV} (h : shLk.Ty y) : ∃ x : Lk, y = [uA x.st, slA .u64 x.bk] ∧ x.ok := by
  obtain ⟨a, b, rfl, ⟨p, rfl, hp⟩, c, d, rfl, ⟨ys, rfl, hy⟩, rfl⟩ := h
  obtain ⟨l, e1, hl⟩ := ty_ints' hy
  have := u64_wf hp
  exact ⟨⟨p, l⟩, by rw [e1]; rfl, ⟨by simp only; omega, by simp only; omega, fun x hx => by have := u64_wf (hl x hx); omega⟩⟩
theorem lks_of {ys : List (List AV)} (h : ∀ y ∈ ys, y.length = 2 ∧ shLk.Ty y) : ∃ l : List Lk, ys.map (elA true) = lks l ∧ Lks l := by
  obtain ⟨l, rfl, hl⟩ := ex_list (g := fun x : Lk => [uA x.st, slA .u64 x.bk]) (ok := Lk.ok) (fun y hy => (h y hy).2) fun y hy => ty_lk hy
  exact ⟨l, by simp [lks, lkA, elA], hl⟩
theorem lk_of {xs : List AV} (h : shLk.Ty xs) : ∃ x : Lk, AV.agg xs = lkA x ∧ x.ok := by
  obtain ⟨x, rfl, hx⟩ := ty_lk h
  exact ⟨x, rfl, hx⟩
end Go.Proofs.Ytnfagphepkeedaa
end
section
namespace Go.Proofs.Ytnfagphepkeedaa
open Go.RowKit

def leadsAt (P : Program) (g : Nat) : List Nat := (P.funcs[g]?).elim [] P.leadsTo
/-- What a function's own text says: where it leads; is it one of ours, or without a text; does it call what no name tells; which variables it names. -/
def tellOf (P : Program) (g : Func) : List Nat × Bool × Bool × List Nat :=
  (P.leadsTo g, (g.ours || g.body.isNone || g.name == "runtime.NumGoroutine"), (match g.body with | some c => c.unfollowed | none => entryCalls g), g.body.elim [] Code.globalsNamed)

section
variable {P : Program} {T : List (List Nat × Bool × Bool × List Nat)}
def T0 : List Nat × Bool × Bool × List Nat := ([], false, false, [])
theorem tell_at (hT : P.funcs.toList.map (tellOf P) = T) (g : Nat) {fn : Func} (h : P.funcs[g]? = some fn) : T[g]? = some (tellOf P fn) := by
  rw [← hT, List.getElem?_map]
  simp [h]
theorem leads_at (hT : P.funcs.toList.map (tellOf P) = T) (g : Nat) : leadsAt P g = ((T[g]?).getD T0).1 := by
  cases h : P.funcs[g]? with
  | none => rw [← hT, List.getElem?_map]; simp [leadsAt, h, T0]
  | some fn => rw [tell_at hT g h]; simp [leadsAt, h, tellOf]

theorem mem_seen (g : Nat) : ∀ n todo seen, g ∈ seen → g ∈ P.closureVia n todo seen := by
  intro n
  induction n with
  | zero => intro todo seen h; simpa [Program.closureVia] using h
  | succ n ih =>
    intro todo seen h
    cases todo with
    | nil => simpa [Program.closureVia] using h
    | cons f todo =>
      unfold Program.closureVia
      split
      · exact ih _ _ h
      · exact ih _ _ (List.mem_cons_of_mem _ h)
theorem closure_sub (C : Nat → Prop) (hC : ∀ g, C g → ∀ h ∈ leadsAt P g, C h) : ∀ n todo seen, (∀ x ∈ todo, C x) → (∀ x ∈ seen, C x) → ∀ x ∈ P.closureVia n todo seen, C x := by
  intro n
  induction n with
  | zero => intro todo seen _ hs x hx; exact hs x (by simpa [Program.closureVia] using hx)
  | succ n ih =>
    intro todo seen ht hs
    cases todo with
    | nil => intro x hx; exact hs x (by simpa [Program.closureVia] using hx)
    | cons f todo =>
      unfold Program.closureVia
      split
      · exact ih _ _ (fun x hx => ht x (List.mem_cons_of_mem _ hx)) hs
      · refine ih _ _ (fun x hx => ?_) (fun x hx => ?_)
        · rcases List.mem_append.1 hx with h | h
          · exact hC f (ht f (List.mem_cons_self ..)) x h
          · exact ht x (List.mem_cons_of_mem _ h)
        · rcases List.mem_cons.1 hx with h | h
          · rw [h]; exact ht f (List.mem_cons_self ..)
          · exact hs x h
theorem closure_in (C : Nat → Prop) (hC : ∀ g, C g → ∀ h ∈ leadsAt P g, C h) {f : Nat} (hf : C f) : ∀ x ∈ P.closure f, C x :=
  closure_sub C hC _ _ _ (fun x hx => by simp at hx; rw [hx]; exact hf) (fun x hx => by simp at hx)

/-- The walk of the closure on the table, k steps. -/
def closT (T : List (List Nat × Bool × Bool × List Nat)) : Nat → List Nat → List Nat → List Nat × List Nat
  | 0, todo, seen => (todo, seen)
  | _, [], seen => ([], seen)
  | n + 1, f :: todo, seen => if seen.contains f then closT T n todo seen else closT T n (((T[f]?).getD T0).1 ++ todo) (f :: seen)
theorem closT_mem (hT : P.funcs.toList.map (tellOf P) = T) (g : Nat) : ∀ k n todo seen, g ∈ (closT T k todo seen).2 → g ∈ P.closureVia (k + n) todo seen := by
  intro k
  induction k with
  | zero => intro n todo seen h; exact mem_seen g _ _ _ h
  | succ k ih =>
    intro n todo seen h
    cases todo with
    | nil => exact mem_seen g _ _ _ (by simpa [closT] using h)
    | cons f todo =>
      rw [show k + 1 + n = (k + n) + 1 from by omega]
      unfold closT at h
      unfold Program.closureVia
      split at h
      · rename_i hc; rw [if_pos hc]; exact ih _ _ _ h
      · rename_i hc; rw [if_neg hc]
        have e := leads_at hT f
        unfold leadsAt at e
        rw [e]; exact ih _ _ _ h
theorem closure_mem (hT : P.funcs.toList.map (tellOf P) = T) {f g : Nat} (k : Nat) (hk : k ≤ (T.map fun t => t.1.length + 1).sum) (h : (closT T k [f] []).2.contains g = true) : g ∈ P.closure f := by
  have e : (P.funcs.toList.map fun g => (P.leadsTo g).length + 1) = T.map fun t => t.1.length + 1 := by
    rw [← hT, List.map_map]; rfl
  unfold Program.closure
  rw [e]
  obtain ⟨m, hm⟩ := Nat.exists_eq_add_of_le (Nat.le_trans hk (Nat.le_add_left _ 1))
  rw [hm]
  exact closT_mem hT g k m _ _ (by simpa using h)

/-- The same of a set in which one function has no text. -/
def quietSet1 (T : List (List Nat × Bool × Bool × List Nat)) (g0 : Nat) (C : List Nat) : Bool :=
  C.all fun g => match T[g]? with | some t => t.1.all (C.contains ·) && (!t.2.1 || g == g0) && t.2.2.2.isEmpty | none => false
theorem quiet_closed1 (hT : P.funcs.toList.map (tellOf P) = T) {C : List Nat} {g0 : Nat} (hq : quietSet1 T g0 C = true) : ∀ g, g ∈ C → ∀ h ∈ leadsAt P g, h ∈ C := by
  intro g hg h hh
  have q := List.all_eq_true.1 hq g hg
  rw [leads_at hT] at hh
  cases e : T[g]? with
  | none => rw [e] at q; simp at q
  | some t =>
    rw [e] at q hh
    simp only [Bool.and_eq_true, List.all_eq_true] at q
    simpa using q.1.1 h hh
theorem quiet_tell1 (hT : P.funcs.toList.map (tellOf P) = T) {C : List Nat} {g0 : Nat} (hq : quietSet1 T g0 C = true) {g : Nat} (hg : g ∈ C) : ∃ fn, P.funcs[g]? = some fn ∧ ((fn.ours || fn.body.isNone || fn.name == "runtime.NumGoroutine") = false ∨ g = g0) ∧ fn.body.elim [] Code.globalsNamed = [] := by
  have q := List.all_eq_true.1 hq g hg
  cases h : P.funcs[g]? with
  | none =>
    have : T[g]? = none := by rw [← hT, List.getElem?_map]; simp [h]
    rw [this] at q; simp at q
  | some fn =>
    rw [tell_at hT g h] at q
    simp only [tellOf, Bool.and_eq_true, List.isEmpty_iff, Bool.or_eq_true, Bool.not_eq_true', beq_iff_eq] at q
    exact ⟨fn, rfl, q.1.2, q.2⟩
theorem closT_eq (hT : P.funcs.toList.map (tellOf P) = T) : ∀ k n todo seen s, closT T k todo seen = ([], s) → P.closureVia (k + n) todo seen = s.reverse := by
  intro k
  induction k with
  | zero =>
    intro n todo seen s h
    simp only [closT, Prod.mk.injEq] at h
    obtain ⟨rfl, rfl⟩ := h
    cases n <;> simp [Program.closureVia]
  | succ k ih =>
    intro n todo seen s h
    cases todo with
    | nil =>
      simp only [closT, Prod.mk.injEq, true_and] at h
      subst h
      rw [show k + 1 + n = (k + n) + 1 from by omega]
      simp [Program.closureVia]
    | cons f todo =>
      rw [show k + 1 + n = (k + n) + 1 from by omega]
      unfold closT at h
      unfold Program.closureVia
      split at h
      · rename_i hc; rw [if_pos hc]; exact ih _ _ _ _ h
      · rename_i hc; rw [if_neg hc]
        have e := leads_at hT f
        unfold leadsAt at e
        rw [e]; exact ih _ _ _ _ h
theorem closure_is (hT : P.funcs.toList.map (tellOf P) = T) {f : Nat} (k : Nat) (s : List Nat) (hk : k ≤ (T.map fun t => t.1.length + 1).sum) (h : closT T k [f] [] = ([], s)) : P.closure f = s.reverse := by
  have e : (P.funcs.toList.map fun g => (P.leadsTo g).length + 1) = T.map fun t => t.1.length + 1 := by
    rw [← hT, List.map_map]; rfl
  unfold Program.closure
  rw [e]
  obtain ⟨m, hm⟩ := Nat.exists_eq_add_of_le (Nat.le_trans hk (Nat.le_add_left _ 1))
  rw [hm]
  exact closT_eq hT k m _ _ _ h
theorem fm_one {α β : Type} (l : List α) (p : α → Bool) (F G : α → Option β) (hF : ∀ a, F a = if p a = true then G a else none) : l.filterMap F = (l.filter p).filterMap G := by
  induction l with
  | nil => rfl
  | cons a l ih =>
    rw [List.filterMap_cons, List.filter_cons, ih, hF]
    cases hp : p a with
    | false => rfl
    | true => rw [if_pos rfl, if_pos rfl, List.filterMap_cons]
theorem inPlace_one (hT : P.funcs.toList.map (tellOf P) = T) {f g0 : Nat} (k : Nat) (s : List Nat) (hk : k ≤ (T.map fun t => t.1.length + 1).sum) (h : closT T k [f] [] = ([], s)) (hone : (s.reverse.filter fun g => ((T[g]?).getD T0).2.1) = [g0]) {fn0 : Func} (h0 : P.funcs[g0]? = some fn0) : [fn0.name] = P.inPlace f := by
  have key := fun C : List Nat => fm_one C (fun g => ((T[g]?).getD T0).2.1) (fun g => (P.funcs[g]?).bind fun fn => if fn.ours || fn.body.isNone || fn.name == "runtime.NumGoroutine" then some fn.name else none) (fun g => (P.funcs[g]?).map (·.name)) fun g => by
    cases e : P.funcs[g]? with
    | none =>
      have : T[g]? = none := by rw [← hT, List.getElem?_map]; simp [e]
      simp [this, T0]
    | some fn => rw [tell_at hT g e]; rfl
  unfold Program.inPlace
  rw [closure_is hT k s hk h, key, hone]
  simp [h0]
theorem varsNamed_nil1 (hT : P.funcs.toList.map (tellOf P) = T) {C : List Nat} {g0 : Nat} (hq : quietSet1 T g0 C = true) {f : Nat} (hf : f ∈ C) {fn0 : Func} (h0 : P.funcs[g0]? = some fn0) (hr : entryReads.lookup fn0.name = none) : [] = P.varsNamed f := by
  have hin := closure_in (P := P) (· ∈ C) (quiet_closed1 hT hq) hf
  have e1 : ((P.closure f).flatMap fun g => ((P.funcs[g]?).bind (·.body)).elim [] Code.globalsNamed) = [] := by
    rw [List.flatMap_eq_nil_iff]
    intro g hg
    obtain ⟨fn, h, h1, h2⟩ := quiet_tell1 hT hq (hin g hg)
    simpa [h] using h2
  have e2 : ((P.closure f).filterMap fun g => (P.funcs[g]?).bind fun fn => if fn.body.isNone then entryReads.lookup fn.name else none) = [] := by
    rw [List.filterMap_eq_nil_iff]
    intro g hg
    obtain ⟨fn, h, h1, h2⟩ := quiet_tell1 hT hq (hin g hg)
    rcases h1 with h1 | rfl
    · have hb : fn.body.isNone = false := by
        simp only [Bool.or_eq_false_iff] at h1
        exact h1.1.2
      simp only [h, Option.bind_some, hb]; rfl
    · rw [h0] at h; injection h with h; subst h
      simp only [h0, Option.bind_some]
      split
      · exact hr
      · rfl
  unfold Program.varsNamed
  rw [e1, e2]
  rfl
theorem unfollowed_true (hT : P.funcs.toList.map (tellOf P) = T) {f g : Nat} (k : Nat) (hk : k ≤ (T.map fun t => t.1.length + 1).sum) (h : (closT T k [f] []).2.contains g = true)
    (hu : ((T[g]?).getD T0).2.2.1 = true) : true = P.unfollowed f := by
  unfold Program.unfollowed
  symm
  rw [List.any_eq_true]
  refine ⟨g, closure_mem hT k hk h, ?_⟩
  cases e : P.funcs[g]? with
  | none =>
    have : T[g]? = none := by rw [← hT, List.getElem?_map]; simp [e]
    rw [this] at hu; simp [T0] at hu
  | some fn =>
    rw [tell_at hT g e] at hu
    simp only [Option.getD_some, tellOf] at hu
    simp only [Option.any_some]
    revert hu
    cases fn.body <;> simp
theorem recurses_true_of_unfollowed {f : Nat} (h : true = P.unfollowed f) : true = P.recurses f := by
  unfold Program.recurses; rw [← h]; rfl
end

theorem strip_cut (rest : List (List Char)) : stripLifts liftWords ("cut".toList :: rest) = ([], "cut".toList :: rest) := by kernel_rfl
theorem cut_not : ("cut".toList == "gc".toList) = false ∧ ("cut".toList == "spec".toList) = false ∧ ("cut".toList == "carried".toList) = false ∧ ("cut".toList == "cut".toList) = true := ⟨by kernel_rfl, by kernel_rfl, by kernel_rfl, by kernel_rfl⟩
section
variable {P : Program} {rest : List (List Char)} (h : behindMainWord (wordsSigns P.initOrder.toList) = "cut".toList :: rest)
include h
theorem headLifts_of : P.headLifts = [] := by
  unfold Program.headLifts
  rw [h, strip_cut]
  simp
theorem mayEnter_of (hl : P.laysLater = false) (hb : P.bearsReflect = false) (hd : P.doorFits [] = true) : P.mayEnter = true := by
  obtain ⟨c1, c2, c3, c4⟩ := cut_not
  unfold Program.mayEnter
  rw [h]
  simp only [strip_cut, hl, hb, hd, c1, c2, c3, Bool.false_and, Bool.or_false, List.head?_cons, Bool.not_false, Bool.or_true, Bool.and_true, List.contains_nil, beq_self_eq_true]
theorem liftsFinal_of : false = P.liftsFinal := by
  obtain ⟨c1, c2, c3, c4⟩ := cut_not
  unfold Program.liftsFinal
  rw [headLifts_of h, h]
  simp only [List.head?_cons, List.contains_nil, Bool.or_false]
  have : ((some "cut".toList : Option (List Char)) == some "carried".toList) = false := c3
  rw [this]; rfl
theorem make_of : P.make = some .cut := by
  obtain ⟨c1, c2, c3, c4⟩ := cut_not
  unfold Program.make
  rw [h]
  simp only [c1, c2, c4, Bool.or_self, Bool.true_or, if_true]
  rfl
end

/-- A row's closed facts, without the four cells that walk all that the function reaches. -/
def lightFacts (P : Program) (fn : Func) (s : ChangeSpec) (c : OpenClaim) : Bool :=
  (c.wf (OpenSpec.ofChange s) && mapsRowed P && fn.params.all (P.readableRec ·) && namedTie P c.named s.vars &&
  (c.stops == []) && (P.stops == []) && (c.knobs == []) && (P.stopKnobs == [])) &&
  ((c.maps == (fn.params.toList ++ s.plain.varTypes P).any (P.mapsRec ·)) && (c.ifaces == (fn.params.toList ++ s.plain.varTypes P).any (P.ifacesRec ·)) && (c.mapsOut == P.mapsAmong fn.resultTypes.toList) &&
  (c.loops == (fn.params.toList ++ s.plain.varTypes P).any (P.loopsFrom ·)) && (c.wideKeys == (fn.params.toList ++ s.plain.varTypes P ++ fn.resultTypes.toList).any (P.wideKeysFrom ·)) &&
  s.vars.all (P.varReadable ·) && fn.resultTypes.all (fun t => P.readableRec t && decide (t < P.types.size)) && (c.ifacesOut == fn.resultTypes.toList.any (P.ifacesRec ·)) && (c.loopsOut == fn.resultTypes.toList.any (P.loopsFrom ·)) && (c.plainKeys == P.plainKeys) && c.shortTexts.isNone) &&
  (P.stopsHeard && (c.kinds == (if c.domain.isEmpty then [] else fn.params.toList.map fun t => match P.underlying t with | some (.int k) => some k | _ => none)) && (c.pinned == c.pinnedBy) &&
  (c.veiled == (fn.params.toList ++ s.plain.varTypes P ++ fn.resultTypes.toList).any (P.veiledRec ·)) && c.veiledFits P fn.params.toList (fn.params.toList ++ s.plain.varTypes P ++ fn.resultTypes.toList))
theorem joined_of {P : Program} {f : Nat} {fn : Func} {s : ChangeSpec} {c : OpenClaim} (hl : laidOutB P = true) (h : lightFacts P fn s c = true) (he : P.mayEnter = true) (hf : c.lifted = P.liftsFinal) (hm : P.make = some c.make)
    (h1 : c.inPlace = P.inPlace f) (h2 : c.unfollowed = P.unfollowed f) (h3 : c.recurses = P.recurses f) (h4 : c.named = P.varsNamed f) : joinedFacts P f fn s c = true := by
  simp only [lightFacts, Bool.and_eq_true, beq_iff_eq] at h
  obtain ⟨⟨⟨⟨⟨⟨⟨⟨⟨g0, g1⟩, g2⟩, g3⟩, g4⟩, g5⟩, g6⟩, g7⟩, ⟨⟨⟨⟨⟨⟨⟨⟨⟨⟨m0, m1⟩, m2⟩, m3⟩, m4⟩, m5⟩, m6⟩, m7⟩, m8⟩, m9⟩, m10⟩⟩, ⟨⟨⟨⟨q0, q1⟩, q2⟩, q3⟩, q4⟩⟩ := h
  simp only [joinedFacts, Bool.and_eq_true, beq_iff_eq]
  exact ⟨⟨⟨⟨⟨⟨⟨⟨⟨⟨⟨⟨⟨⟨⟨⟨⟨⟨⟨⟨⟨⟨⟨⟨⟨⟨⟨⟨⟨⟨⟨g0, hl⟩, g1⟩, g2⟩, g3⟩, g4⟩, g5⟩, g6⟩, g7⟩, h1⟩, h2⟩, h3⟩, h4⟩, m0⟩, m1⟩, m2⟩, m3⟩, m4⟩, m5⟩, m6⟩, m7⟩, m8⟩, m9⟩, m10⟩, q0⟩, he⟩, hf⟩, hm⟩, q1⟩, q2⟩, q3⟩, q4⟩
end Go.Proofs.Ytnfagphepkeedaa
end
section
namespace Go.Proofs.Ytnfagphepkeedaa
open Go.RowKit

def TELLS0 : List (List Nat × Bool × Bool × List Nat) := [([], true, false, []),
  ([], true, false, []),
  ([1], false, false, []),
  ([6, 6, 7, 8, 8, 9, 10, 9, 11, 9, 7], false, false, []),
  ([12, 13, 14, 15, 17, 16, 15, 14], false, false, []),
  ([12, 14, 18, 19, 20, 20, 17, 21, 20, 16, 23, 22, 24, 25, 22, 16, 24, 23, 22, 14], false, false, []),
  ([12], false, false, []),
  ([26, 27, 28, 29], false, false, []),
  ([25], false, false, []),
  ([22, 29], false, false, []),
  ([24, 30], false, false, []),
  ([31, 10], false, false, []),
  ([], false, false, []),
  ([32], false, false, []),
  ([26, 33, 28, 29, 17, 34], false, false, []),
  ([35, 36, 37, 39], false, false, []),
  ([25, 40, 41, 39, 43, 39, 42], false, false, []),
  ([], false, false, []),
  ([44, 39, 40], false, false, []),
  ([], false, false, []),
  ([34], false, false, []),
  ([], false, false, []),
  ([20], false, false, []),
  ([19], false, false, []),
  ([45, 46], false, false, []),
  ([40], false, false, []),
  ([], false, false, []),
  ([48, 49, 33, 50], false, false, []),
  ([51], false, false, []),
  ([], false, false, []),
  ([], false, false, []),
  ([], false, true, []),
  ([], false, false, []),
  ([15, 49, 50, 52, 50, 53], false, false, []),
  ([], false, false, []),
  ([], false, true, []),
  ([], false, false, []),
  ([38], false, false, []),
  ([54], false, false, []),
  ([], false, true, [])]
set_option maxRecDepth 100000 in
theorem tells_eq0 : ((Try.prog.funcs.toList.drop 0).take 40).map (tellOf Try.prog) = TELLS0 := by kernel_rfl
def TELLS1 : List (List Nat × Bool × Bool × List Nat) := [([], false, false, []),
  ([], false, false, []),
  ([55, 56], false, false, []),
  ([], false, false, []),
  ([], false, false, []),
  ([], false, true, []),
  ([47], false, false, []),
  ([], false, false, []),
  ([15], false, false, []),
  ([51], false, false, []),
  ([58, 57], false, false, []),
  ([], false, false, []),
  ([], false, false, []),
  ([54, 49, 50, 50], false, false, []),
  ([], false, false, []),
  ([], true, false, []),
  ([59], false, false, []),
  ([51, 60, 49], false, false, []),
  ([], false, false, []),
  ([61, 61, 61], false, false, []),
  ([], false, false, []),
  ([], false, false, []),
  ([], true, false, []),
  ([], true, false, []),
  ([], true, false, []),
  ([], true, false, []),
  ([], true, false, []),
  ([], true, false, []),
  ([], true, false, []),
  ([], true, false, []),
  ([], true, false, []),
  ([], true, false, []),
  ([], true, false, []),
  ([], true, false, []),
  ([], true, false, []),
  ([], true, false, []),
  ([], true, false, []),
  ([], true, false, []),
  ([], true, false, [])]
set_option maxRecDepth 100000 in
theorem tells_eq1 : ((Try.prog.funcs.toList.drop 40).take 39).map (tellOf Try.prog) = TELLS1 := by kernel_rfl
def TELLS : List (List Nat × Bool × Bool × List Nat) := TELLS0 ++ TELLS1
theorem tells_size : Try.prog.funcs.toList.length = 79 := by kernel_rfl
theorem split_at {α : Type} (l : List α) (i n : Nat) : (l.drop i) = (l.drop i).take n ++ l.drop (i + n) := by
  rw [← List.drop_drop]; exact (List.take_append_drop n _).symm
theorem tells_eq : Try.prog.funcs.toList.map (tellOf Try.prog) = TELLS := by
  have h0 : Try.prog.funcs.toList = Try.prog.funcs.toList.drop 0 := rfl
  rw [h0]
  rw [split_at Try.prog.funcs.toList 0 40, List.map_append, tells_eq0]
  rw [split_at Try.prog.funcs.toList 40 39, List.map_append, tells_eq1]
  rw [List.drop_eq_nil_of_le (by rw [tells_size]; omega)]
  simp [TELLS]
def initSigns : List Nat := [104, 97, 114, 110, 101, 115, 115, 32, 57, 50, 51, 48, 97, 100, 97, 98, 49, 100, 99, 98, 52, 97, 98, 98, 50, 52, 54, 54, 49, 100, 55, 99, 98, 98, 57, 97, 49, 51, 100, 57, 98, 99, 53, 97, 98, 101, 57, 102, 49, 55, 55, 102, 100, 57, 57, 55, 49, 50, 48, 57, 56, 50, 51, 99, 99, 50, 55, 100, 99, 53, 55, 53, 32, 99, 117, 116, 32, 97, 116, 32, 116, 104, 111, 108, 101, 112, 105, 110, 47, 116, 104, 111, 108, 101, 112, 105, 110, 108, 97, 119, 50, 52, 46, 69, 110, 116, 114, 121, 67, 111, 112, 105, 101, 115, 32, 116, 104, 111, 108, 101, 112, 105, 110, 47, 116, 104, 111, 108, 101, 112, 105, 110, 108, 97, 119, 50, 51, 46, 76, 105, 110, 107, 76, 97, 116, 101, 114, 32, 116, 104, 111, 108, 101, 112, 105, 110, 47, 116, 104, 111, 108, 101, 112, 105, 110, 108, 97, 119, 50, 51, 46, 76, 105, 110, 107, 67, 104, 97, 110, 103, 101, 115]
set_option maxRecDepth 100000 in
theorem init_is : Try.prog.initOrder = String.ofList (initSigns.map Char.ofNat) := by kernel_rfl
theorem init_list : Try.prog.initOrder.toList = initSigns.map Char.ofNat := by rw [init_is]; exact String.toList_ofList
theorem cut_word : ("cut").toList = [99, 117, 116].map Char.ofNat := by decide +kernel
theorem cut_head : (behindMainWord (wordsSigns (initSigns.map Char.ofNat))).head? = some ([99, 117, 116].map Char.ofNat) := by kernel_rfl
theorem behind_main : ∃ rest, behindMainWord (wordsSigns Try.prog.initOrder.toList) = "cut".toList :: rest := by
  have h := cut_head
  rw [init_list, cut_word]
  cases hb : behindMainWord (wordsSigns (initSigns.map Char.ofNat)) with
  | nil => rw [hb] at h; cases h
  | cons c r => rw [hb] at h; simp only [List.head?_cons, Option.some.injEq] at h; exact ⟨r, by rw [h]⟩
theorem lays_later : Try.prog.laysLater = false := by kernel_rfl
theorem bears_reflect : Try.prog.bearsReflect = false := by kernel_rfl
theorem door_fits : Try.prog.doorFits [] = true := by kernel_rfl
theorem may_enter : Try.prog.mayEnter = true := by
  obtain ⟨rest, h⟩ := behind_main
  exact mayEnter_of h lays_later bears_reflect door_fits
theorem lifts_final : false = Try.prog.liftsFinal := by
  obtain ⟨rest, h⟩ := behind_main
  exact liftsFinal_of h
theorem make_cut : Try.prog.make = some .cut := by
  obtain ⟨rest, h⟩ := behind_main
  exact make_of h
end Go.Proofs.Ytnfagphepkeedaa
end
section
namespace Go.Proofs.Ytnfagphepkeedaa
open Go.RowKit
namespace CellLinkChanges
def C : List Nat := [5, 12, 14, 15, 16, 17, 18, 19, 20, 21, 22, 23, 24, 25, 26, 28, 29, 33, 34, 35, 36, 37, 38, 39, 40, 41, 42, 43, 44, 45, 46, 47, 49, 50, 51, 52, 53, 54, 55, 56, 57, 58, 59, 60, 61]
theorem quiet : quietSet1 TELLS 55 C = true := by decide +kernel
theorem mem : 5 ∈ C := by decide
theorem unf : true = Try.prog.unfollowed 5 := unfollowed_true (g := 35) tells_eq 7 (by decide +kernel) (by decide +kernel) (by decide +kernel)
theorem rec : true = Try.prog.recurses 5 := recurses_true_of_unfollowed unf
theorem light : lightFacts Try.pinned.checked.prog Try.f5 Rows.linkChangesSpec Rows.linkChangesRow = true := by kernel_rfl
theorem lifted : Rows.linkChangesRow.lifted = Try.pinned.checked.prog.liftsFinal := lifts_final
theorem made : Try.pinned.checked.prog.make = some Rows.linkChangesRow.make := make_cut
theorem inPl : [Try.f55.name] = Try.prog.inPlace 5 := inPlace_one tells_eq (g0 := 55) 73 [47, 46, 45, 24, 22, 23, 61, 59, 56, 55, 42, 43, 41, 25, 16, 21, 20, 19, 40, 44, 18, 34, 17, 29, 28, 53, 52, 60, 57, 58, 50, 51, 49, 39, 54, 38, 37, 36, 35, 15, 33, 26, 14, 12, 5] (by decide +kernel) (by decide +kernel) (by decide +kernel) Try.func55
theorem closed : joinedFacts Try.pinned.checked.prog 5 Try.f5 Rows.linkChangesSpec Rows.linkChangesRow = true :=
  joined_of Try.laidOut light may_enter lifted made inPl unf rec (varsNamed_nil1 tells_eq quiet mem Try.func55 (by decide +kernel))
theorem named : Try.pinned.checked.prog.funcNamed Rows.linkChangesRow.func = some 5 := by kernel_rfl
theorem inst : Try.f5.isInstance Try.pinned.checked.prog Rows.linkChangesRow.origin Rows.linkChangesRow.targs := of_decide_eq_true (by kernel_rfl)
theorem wrap : Try.f5.isWrapper Try.pinned.checked.prog Rows.linkChangesRow.wrapper Rows.linkChangesRow.mainSum := by unfold Func.isWrapper; first | (rw [if_pos (by decide +kernel)]; kernel_rfl) | (rw [if_neg (by decide +kernel)]; exact ⟨rfl, rfl⟩)
end CellLinkChanges
end Go.Proofs.Ytnfagphepkeedaa
end
