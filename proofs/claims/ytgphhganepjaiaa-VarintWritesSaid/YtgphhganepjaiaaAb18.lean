/-
  The beginning and the end of a function's reckoning. Over any program.
-/
import Derived.Test.YtgphhganepjaiaaAb17
namespace Go.Proofs.Ytgphhganepjaiaa

def qFin (P : Program) (m : Nat) (fn : Func) (r : AV) (S' : List AObj) : QT := fun e tm S1 => (e = .ret ∨ e = .normal) ∧ FinK P m fn tm S1 r S'
section
variable {P : Program} {m : Nat} {fn : Func} {r : AV} {S' : List AObj} {tm : List AV} {S : List AObj}
theorem qFin_ret : qFin P m fn r S' .ret tm S = FinK P m fn tm S r S' := by simp [qFin]
theorem qFin_normal : qFin P m fn r S' .normal tm S = FinK P m fn tm S r S' := by simp [qFin]

theorem Does.run {f : FuncId} {c : C} {args : List AV} {tm : List AV} {n : Nat} (hf : P.funcs[f]? = some fn) (hb : fn.body.bind (compC P) = some c) (hname : (fn.name == "runtime.NumGoroutine") = false) (hn : fn.ntmps = n)
    (ht : args ++ List.replicate (n - args.length) .any = tm) (h : aw P S.length c tm S (qFin P S.length fn r S')) : Does P f args S r S' := by
  cases hbd : fn.body with
  | none => simp [hbd] at hb
  | some code =>
    simp [hbd] at hb
    refine Does.body hf hbd hname hb ?_
    rw [hn, ht]
    exact h

theorem okTr_and {u : List (Nat × Nat)} {tr : List (List Nat × List Nat)} {p : Prop} (h : okTr u tr = true) (hp : p) : okTr u tr = true ∧ p := ⟨h, hp⟩
/-- The results and the store, by places that are told one by one. -/
theorem FinK.fin {rv : List RV} (hr : compR P fn = some rv) (ids : List Nat) (hn : ids.Nodup) (hl : ids.length = S'.length) (hm : m ≤ S'.length) (hp : ids.take m = List.range m)
    (hT : ids.map (fun i => S[i]?) = S'.map fun o => some (o.ren (ixs ids S.length))) (hx0 : (resAL tm S rv).map oneOr = some (r.ren (ixs ids S.length))) : FinK P m fn tm S r S' := by
  obtain ⟨xs, h, hx⟩ : ∃ xs, resAL tm S rv = some xs ∧ r.ren (ixs ids S.length) = oneOr xs := by
    cases hq : resAL tm S rv with
    | none => simp [hq] at hx0
    | some xs => simp [hq] at hx0; exact ⟨xs, rfl, hx0.symm⟩
  refine FinK.sel (r' := oneOr xs) (FinK.res hr h) ids hn hl hm (fun k i hk hi => ?_) (fun k o ho => ?_) hx
  · have : (ids.take m)[k]? = some i := by rw [List.getElem?_take, if_pos (by omega)]; exact hi
    rw [hp, List.getElem?_range (by omega)] at this
    injection this with this; exact this.symm
  · have hk : k < ids.length := by rw [hl]; exact (List.getElem?_eq_some_iff.1 ho).1
    refine ⟨ids[k], by simp, ?_⟩
    have := congrArg (fun l : List (Option AObj) => l[k]?) hT
    simp only [List.getElem?_map, List.getElem?_eq_getElem hk, ho, Option.map_some] at this
    injection this

/-- Values without places. -/
theorem ren_lit (ρ : Nat → Nat) (v : Value) : (AV.lit v).ren ρ = .lit v := by simp [AV.ren]
theorem ren_ref (ρ : Nat → Nat) (i o : Nat) : (AV.ref i o).ren ρ = .ref (ρ i) o := by simp [AV.ren]
theorem ren_any (ρ : Nat → Nat) : AV.any.ren ρ = .any := by simp [AV.ren]
theorem ren_agg (ρ : Nat → Nat) (xs : List AV) : (AV.agg xs).ren ρ = .agg (xs.map fun x => x.ren ρ) := by simp [AV.ren]
theorem ren_tup (ρ : Nat → Nat) (xs : List AV) : (AV.tup xs).ren ρ = .tup (xs.map fun x => x.ren ρ) := by simp [AV.ren]
theorem ren_sl (ρ : Nat → Nat) (t : Tag) (k : Nat) (xs : List AV) : (AV.sl t k xs).ren ρ = .sl (t.ren ρ) k (xs.map fun x => x.ren ρ) := by simp [AV.ren]
theorem ren_fn (ρ : Nat → Nat) (f : FuncId) (a b : List AV) : (AV.fn f a b).ren ρ = .fn f (a.map fun x => x.ren ρ) (b.map fun x => x.ren ρ) := by simp [AV.ren]
theorem tren_none (ρ : Nat → Nat) : Tag.none.ren ρ = .none := (rfl)
theorem tren_full (ρ : Nat → Nat) : Tag.full.ren ρ = .full := (rfl)
theorem tren_row (ρ : Nat → Nat) (j : Nat) : (Tag.row j).ren ρ = .row (ρ j) := (rfl)
theorem oren_cells (ρ : Nat → Nat) (xs : List AV) : (AObj.cells xs).ren ρ = .cells (xs.map fun x => x.ren ρ) := (rfl)
theorem oren_row (ρ : Nat → Nat) (k n : Nat) : (AObj.row k n).ren ρ = .row k n := (rfl)
theorem oren_dead (ρ : Nat → Nat) : AObj.dead.ren ρ = .dead := (rfl)
theorem ixs_z (i : Nat) (ids : List Nat) (N : Nat) : ixs (i :: ids) N 0 = i := (rfl)
theorem ixs_s (i : Nat) (ids : List Nat) (N k : Nat) : ixs (i :: ids) N (k + 1) = ixs ids (N + 1) k := by
  simp only [ixs, List.getD_cons_succ]; congr 1; omega
theorem ixs_1 (i j : Nat) (ids : List Nat) (N : Nat) : ixs (i :: j :: ids) N 1 = j := (rfl)
theorem ixs_2 (i j k : Nat) (ids : List Nat) (N : Nat) : ixs (i :: j :: k :: ids) N 2 = k := (rfl)
theorem ixs_3 (i j k l : Nat) (ids : List Nat) (N : Nat) : ixs (i :: j :: k :: l :: ids) N 3 = l := (rfl)

/-- Integers of one kind as abstract values. -/
def ints (k : IntKind) (l : List Int) : List AV := l.map fun z => .lit (.int k z)
theorem ren_ints (ρ : Nat → Nat) (k : IntKind) (l : List Int) : (ints k l).map (fun x => x.ren ρ) = ints k l := by simp [ints, AV.ren]
theorem ints_length (k : IntKind) (l : List Int) : (ints k l).length = l.length := by simp [ints]
theorem ints_append (k : IntKind) (l m : List Int) : ints k l ++ ints k m = ints k (l ++ m) := by simp [ints]
theorem ints_nil (k : IntKind) : ints k [] = [] := (rfl)
theorem ints_cons (k : IntKind) (z : Int) (l : List Int) : ints k (z :: l) = .lit (.int k z) :: ints k l := (rfl)
theorem ints_getD (k : IntKind) (l : List Int) (i : Nat) (h : i < l.length) : (ints k l).getD i .any = .lit (.int k (l.getD i 0)) := by
  simp [ints, h]
theorem ints_take (k : IntKind) (l : List Int) (n : Nat) : (ints k l).take n = ints k (l.take n) := by simp [ints]
theorem ints_drop (k : IntKind) (l : List Int) (n : Nat) : (ints k l).drop n = ints k (l.drop n) := by simp [ints]
theorem ints_u8 (l : List Int) : (ints .u8 l).all (·.isU8) = true := by simp [ints, AV.isU8]
theorem okEl_int (k : IntKind) (z : Int) : okEl 1 (.lit (.int k z)) = true := (rfl)
theorem ints_okEl (k : IntKind) (l : List Int) : (ints k l).all (okEl 1) = true := by simp [ints, okEl_int]
theorem w64_1 : IntKind.i64.wrap 1 = 1 := (rfl)
theorem w64_2 : IntKind.i64.wrap 2 = 2 := (rfl)
theorem w64_3 : IntKind.i64.wrap 3 = 3 := (rfl)
theorem w64_4 : IntKind.i64.wrap 4 = 4 := (rfl)
theorem oneOr_one (x : AV) : oneOr [x] = x := (rfl)
theorem oneOr_nil : oneOr [] = .tup [] := (rfl)
theorem oneOr_two (x y : AV) (xs : List AV) : oneOr (x :: y :: xs) = .tup (x :: y :: xs) := (rfl)

/-- A value told without whose slice it is. -/
def untag1 : AV → AV
  | .sl _ k xs => .sl .none k xs
  | x => x
def untag : AV → AV
  | .sl _ k xs => .sl .none k xs
  | .agg xs => .agg (xs.map untag1)
  | x => x
theorem rep_untag1 {G : Gh} {x : AV} {v : Value} (r : Rep G x v) : Rep G (untag1 x) v := by
  cases x with
  | sl t k xs => cases r with
    | sl vs hc hA hk h1 h2 h3 ht => exact .sl vs hc hA hk h1 h2 h3 trivial
  | _ => exact r
theorem rep_untag {G : Gh} {x : AV} {v : Value} (r : Rep G x v) : Rep G (untag x) v := by
  cases x with
  | sl t k xs => exact rep_untag1 (x := .sl t k xs) r
  | agg xs => cases r with
    | agg h0 h2 h3 => exact .agg (by simpa using h0) h2 (fun j x v hx hv => by
        obtain ⟨y, hy, rfl⟩ := map_get hx
        exact rep_untag1 (h3 j y v hy hv))
  | _ => exact r
theorem Wk.untag {tm : List AV} {S : List AObj} (t : Nat) {x : AV} (ht : tm[t]? = some x) : Wk m tm S (tm.set t (untag1 x)) S := fun G0 S0 w0 G a w _ hz => by
  have htl := (List.getElem?_eq_some_iff.1 ht).1
  refine ⟨G, hz.left, by simp [hz.size], fun t' y u hx hu => ?_, hz.defers, hz.wd0⟩
  by_cases et : t' = t
  · subst et
    simp [htl] at hx; subst hx
    exact rep_untag1 (hz.rep t' x u ht hu)
  · rw [List.getElem?_set_ne (Ne.symm et)] at hx
    exact hz.rep t' y u hx hu
theorem FinK.untag (t : Nat) {x : AV} (ht : tm[t]? = some x) (h : FinK P m fn (tm.set t (untag1 x)) S r S') : FinK P m fn tm S r S' := FinK.wk (Wk.untag t ht) h
theorem untag1_sl (t : Tag) (k : Nat) (xs : List AV) : untag1 (.sl t k xs) = .sl .none k xs := (rfl)
theorem Does.untag {f : FuncId} {args : List AV} {S : List AObj} (h : Does P f (args.map untag) S r S') : Does P f args S r S' :=
  ⟨h.1, fun G w vs hw hr => h.2 G w vs hw ⟨by simpa using hr.1, fun j x v hx hv => by
    obtain ⟨y, hy, rfl⟩ := map_get hx
    exact rep_untag (hr.2 j y v hy hv)⟩⟩
theorem Ct.untag {f : FuncId} {args : List AV} {rd : List (Nat × AObj)} {r : Nat → AV} {upd : List (Nat × AObj)} {new : Nat → List AObj} (h : Ct P f (args.map untag) rd r upd new) : Ct P f args rd r upd new :=
  fun T n h1 h2 => (h T n h1 h2).untag

-- contracts out of small stores
theorem Ct.p {f : FuncId} {args : List AV} {r : AV} (h : Does P f args [] r []) (ha : ∀ ρ, args.map (fun x => x.ren ρ) = args) (hr : ∀ ρ, r.ren ρ = r) : Ct P f args [] (fun _ => r) [] (fun _ => []) :=
  Ct.mk h [] (by simp) rfl (by simp) (by simp) (fun n N => ha _) (fun n N => hr _) (fun n N => rfl) (.inl fun n N => rfl) (fun n N => rfl)
theorem Ct.r1 {f : FuncId} {args args₀ : List AV} {o : AObj} {r : AV} (h : Does P f args₀ [o] r [o]) (i : Nat) (ha : ∀ N, args₀.map (fun x => x.ren (ixs [i] N)) = args) (ho : ∀ ρ, o.ren ρ = o) (hd : o ≠ .dead) (hr : ∀ ρ, r.ren ρ = r) : Ct P f args [(i, o)] (fun _ => r) [] (fun _ => []) :=
  Ct.mk h [i] (by simp) rfl (by simp) (by simpa using hd) (fun n N => ha N) (fun n N => hr _) (fun n N => by simp [ho]) (.inr ⟨rfl, rfl⟩) (fun n N => rfl)
theorem Ct.u1 {f : FuncId} {args args₀ : List AV} {o o' : AObj} {r : AV} (h : Does P f args₀ [o] r [o']) (i : Nat) (ha : ∀ N, args₀.map (fun x => x.ren (ixs [i] N)) = args) (ho : ∀ ρ, o.ren ρ = o) (ho' : ∀ ρ, o'.ren ρ = o') (hd : o ≠ .dead) (hr : ∀ ρ, r.ren ρ = r) :
    Ct P f args [(i, o)] (fun _ => r) [(i, o')] (fun _ => []) :=
  Ct.mk h [i] (by simp) rfl (by simp) (by simpa using hd) (fun n N => ha N) (fun n N => hr _) (fun n N => by simp [ho]) (.inl fun n N => by simp [ho']) (fun n N => rfl)
/-- A result in new objects. -/
theorem Ct.n {f : FuncId} {args : List AV} {r₀ : AV} {r : Nat → AV} {S₁ : List AObj} {new : Nat → List AObj} (h : Does P f args [] r₀ S₁) (ha : ∀ ρ, args.map (fun x => x.ren ρ) = args) (hr : ∀ n N, r₀.ren (ixs (List.range' n S₁.length) N) = r n)
    (hn : ∀ n N, (S₁.map fun o => o.ren (ixs (List.range' n S₁.length) N)) = new n) : Ct P f args [] r [] new :=
  Ct.mk h [] (by simp) rfl (by simp) (by simp) (fun n N => ha _) (fun n N => by simpa using hr n N) (fun n N => rfl) (.inl fun n N => rfl) (fun n N => by simpa using hn n N)
/-- A result in new objects, one object turned. -/
theorem Ct.un {f : FuncId} {args args₀ : List AV} {o o' : AObj} {r₀ : AV} {r : Nat → AV} {S₁ : List AObj} {new : Nat → List AObj} (h : Does P f args₀ [o] r₀ (o' :: S₁)) (i : Nat) (ha : ∀ n N, args₀.map (fun x => x.ren (ixs (i :: List.range' n S₁.length) N)) = args) (ho : ∀ ρ, o.ren ρ = o) (ho' : ∀ ρ, o'.ren ρ = o') (hd : o ≠ .dead)
    (hr : ∀ n N, r₀.ren (ixs (i :: List.range' n S₁.length) N) = r n) (hn : ∀ n N, (S₁.map fun o => o.ren (ixs (i :: List.range' n S₁.length) N)) = new n) : Ct P f args [(i, o)] r [(i, o')] new :=
  Ct.mk h [i] (by simp) rfl (by simp) (by simpa using hd) (fun n N => by simpa using ha n N) (fun n N => by simpa using hr n N) (fun n N => by simp [ho]) (.inl fun n N => by simp [ho']) (fun n N => by simpa using hn n N)

theorem Does.toCt {f : FuncId} {args : List AV} {r : AV} (h : Does P f args [] r []) (ha : ∀ ρ, args.map (fun x => x.ren ρ) = args) (hr : ∀ ρ, r.ren ρ = r) : Ct P f args [] (fun _ => r) [] (fun _ => []) := Ct.p h ha hr
-- contracts at a call
variable {K : KT} {f : FuncId} {args : List AV}
theorem CallK.p {r : AV} (h : Ct P f (args.map Proofs.Ytgphhganepjaiaa.untag) [] (fun _ => r) [] (fun _ => [])) (hK : K r [] [] []) : CallK P f args S K := CallK.of h.untag (by simp) (by simp) hK
theorem CallK.r1 {r : AV} {i : Nat} {o : AObj} (h : Ct P f (args.map Proofs.Ytgphhganepjaiaa.untag) [(i, o)] (fun _ => r) [] (fun _ => [])) (hS : S[i]? = some o) (hK : K r [i] [] []) : CallK P f args S K := CallK.of h.untag (by simpa using hS) (by simp) hK
theorem CallK.u1 {r : AV} {i : Nat} {o o' : AObj} (h : Ct P f (args.map Proofs.Ytgphhganepjaiaa.untag) [(i, o)] (fun _ => r) [(i, o')] (fun _ => [])) (hS : S[i]? = some o) (hK : K r [i] [(i, o')] []) : CallK P f args S K := CallK.of h.untag (by simpa using hS) (by simp) hK
theorem CallK.n {r : Nat → AV} {new : Nat → List AObj} (h : Ct P f (args.map Proofs.Ytgphhganepjaiaa.untag) [] r [] new) (hK : K (r S.length) [] [] (new S.length)) : CallK P f args S K := CallK.of h.untag (by simp) (by simp) hK
theorem CallK.un {r : Nat → AV} {i : Nat} {o o' : AObj} {new : Nat → List AObj} (h : Ct P f (args.map Proofs.Ytgphhganepjaiaa.untag) [(i, o)] r [(i, o')] new) (hS : S[i]? = some o) (hK : K (r S.length) [i] [(i, o')] (new S.length)) : CallK P f args S K := CallK.of h.untag (by simpa using hS) (by simp) hK
end
end Go.Proofs.Ytgphhganepjaiaa
