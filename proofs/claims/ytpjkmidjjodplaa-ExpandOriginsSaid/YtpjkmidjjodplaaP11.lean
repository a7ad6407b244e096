/-
  Plain laws of chapter 12: tokens make the same written or not; from where each byte came. No program.
-/
import Derived.Test.YtpjkmidjjodplaaP9
set_option linter.all false
set_option linter.unusedSimpArgs false
set_option linter.unusedVariables false
set_option linter.unnecessarySimpa false
namespace Go.Proofs.Ytpjkmidjjodplaa

theorem expB_bad {bound : Int} : ∀ (n : Nat) (s : RS) (out : List Int), ROk s → s.left ≤ n → ¬ (expB bound s out).2.1 = 0 → (expB bound s out).1 = [] := by
  intro n
  induction n with
  | zero => intro s out _ hl he; rw [expB_end (by omega)] at he; exact absurd rfl he
  | succ n ih =>
    intro s out h hl he
    by_cases hp : 0 < s.left
    · by_cases hh : s.thead.1.code = 0
      · by_cases hb : bound < out.length + s.thead.2.2
        · rw [expB_over hp hh hb]
        · by_cases ht : s.token.1.code = 0
          · by_cases hf : (out.length : Int) < s.token.2.off
            · rw [expB_far hp hh hb ht hf]
            · rw [expB_step h hp hh hb ht hf] at he ⊢
              obtain ⟨t1, t2, t3⟩ := token_left h ht
              exact ih _ _ t2 (by omega) he
          · rw [expB_short hp hh hb ht]
      · rw [expB_head hp hh]
    · rw [expB_end hp] at he; exact absurd rfl he
theorem expB_bys {bound : Int} : ∀ (n : Nat) (s : RS) (out : List Int), ROk s → s.left ≤ n → Bys out → Bys (expB bound s out).1 := by
  have nil : Bys [] := fun x hx => by simp at hx
  intro n
  induction n with
  | zero => intro s out _ hl ho; rw [expB_end (by omega)]; exact ho
  | succ n ih =>
    intro s out h hl ho
    by_cases hp : 0 < s.left
    · by_cases hh : s.thead.1.code = 0
      · by_cases hb : bound < out.length + s.thead.2.2
        · rw [expB_over hp hh hb]; exact nil
        · by_cases ht : s.token.1.code = 0
          · by_cases hf : (out.length : Int) < s.token.2.off
            · rw [expB_far hp hh hb ht hf]; exact nil
            · rw [expB_step h hp hh hb ht hf]
              obtain ⟨t1, t2, t3⟩ := token_left h ht
              obtain ⟨i1, i2, i3, i4, i5⟩ := token_is h ht
              refine ih _ _ t2 (by omega) (again_bys _ _ _ fun y hy => ?_)
              rcases List.mem_append.1 hy with hy | hy
              · exact ho y hy
              · exact i3 y hy
          · rw [expB_short hp hh hb ht]; exact nil
      · rw [expB_head hp hh]; exact nil
    · rw [expB_end hp]; exact ho
theorem tokB_some (t : Tk) : 0 < (tokB t).length := tokB_pos t
/-- Written, tokens make the same; a bound that is less is told. -/
theorem exp_written {b0 bound : Int} {W : List Int} : ∀ (l : List Tk) (s : RS) (out : List Int) (i : Nat), ROk s → s.code = 0 → (∀ t ∈ l, Bys t.lit) → s.rest = toksB l → expFrom b0 l i out = (W, (0, 0)) → (l = [] → (out.length : Int) ≤ bound) →
    (out.length : Int) ≤ W.length ∧ (bound < W.length → (expB bound s out).1 = [] ∧ (expB bound s out).2.1 = 11) ∧ ((W.length : Int) ≤ bound → expB bound s out = (W, (0, 0))) := by
  intro l
  induction l with
  | nil =>
    intro s out i h hc _ hr he hb
    simp only [expFrom] at he
    have hW : out = W := by injection he
    subst hW
    have hl : ¬ 0 < s.left := by
      have := rest_len s h.at0 h.at1
      rw [hr] at this
      simp [toksB] at this
      unfold RS.left; omega
    have := hb rfl
    rw [expB_end hl]
    exact ⟨Int.le_refl _, fun h => by omega, fun _ => rfl⟩
  | cons t l ih =>
    intro s out i h hc hby hr he _
    simp only [expFrom] at he
    by_cases hw : wrongT t out.length b0 = 0
    · rw [if_pos hw] at he
      obtain ⟨w1, w2, w3⟩ := wrongT_zero hw
      have hr' : s.rest = tokB t ++ toksB l := by rw [hr]; simp [toksB]
      have hown := token_own h hc w1 hr'
      have hpos := tokB_pos t
      have hok : ROk (s.adv ((tokB t).length : Int)) := adv_ok h hr'
      have hl : 0 < s.left := by
        have := rest_len s h.at0 h.at1
        rw [hr', List.length_append] at this
        unfold RS.left; omega
      have ht : s.token.1.code = 0 := by rw [hown]; exact hc
      have hh := token_head ht
      have hm := (token_made h ht).1
      rw [hown] at hm
      simp only at hm
      have hle := expW_len out w1
      have hrest : (s.adv ((tokB t).length : Int)).rest = toksB l := by rw [adv_rest h.at0, hr', List.drop_left]
      have hmp := made_pos w1
      by_cases hb : bound < out.length + t.made
      · have ho := expB_over (bound := bound) (out := out) hl hh (by omega)
        have key := ih (s.adv ((tokB t).length : Int)) (expW out t) (i + 1) hok hc (fun x hx => hby x (List.mem_cons_of_mem _ hx)) hrest he
        have hWl : ((expW out t).length : Int) ≤ W.length := by
          have e := expFrom_ok (bound := b0) l (i + 1) (expW out t) (by rw [he])
          rw [he] at e
          have := e.1
          have := tsum_ge l
          simp only at *
          omega
        rw [ho]
        exact ⟨by omega, fun _ => ⟨rfl, rfl⟩, fun h => by omega⟩
      · have hst := expB_step (bound := bound) (out := out) h hl hh (by omega) ht (by rw [hown]; simp only; omega)
        rw [hown] at hst
        simp only at hst
        obtain ⟨k1, k2, k3⟩ := ih (s.adv ((tokB t).length : Int)) (expW out t) (i + 1) hok hc (fun x hx => hby x (List.mem_cons_of_mem _ hx)) hrest he (fun _ => by omega)
        rw [hst]
        exact ⟨by omega, k2, k3⟩
    · rw [if_neg hw] at he
      injection he with _ he
      injection he with he _
      exact absurd he hw

theorem expFrom_zero {bound : Int} : ∀ (l : List Tk) (i : Nat) (out : List Int), (expFrom bound l i out).2.1 = 0 → (expFrom bound l i out).2 = (0, 0) := by
  intro l
  induction l with
  | nil => intro i out _; rfl
  | cons t l ih =>
    intro i out h
    simp only [expFrom] at h ⊢
    by_cases hw : wrongT t out.length bound = 0
    · rw [if_pos hw] at h ⊢; exact ih _ _ h
    · rw [if_neg hw] at h; exact absurd h hw
/-- A bound that suffices changes nothing. -/
theorem exp_enough {b0 bound : Int} {W : List Int} : ∀ (l : List Tk) (i : Nat) (out : List Int), expFrom b0 l i out = (W, (0, 0)) → (W.length : Int) ≤ bound → expFrom bound l i out = (W, (0, 0)) := by
  intro l
  induction l with
  | nil => intro i out h _; exact h
  | cons t l ih =>
    intro i out h hb
    simp only [expFrom] at h ⊢
    by_cases hw : wrongT t out.length b0 = 0
    · rw [if_pos hw] at h
      obtain ⟨w1, w2, w3⟩ := wrongT_zero hw
      have e := expFrom_ok (bound := b0) l (i + 1) (expW out t) (by rw [h])
      rw [h] at e
      have e1 := e.1
      simp only at e1
      have := tsum_ge l
      have hle := expW_len out w1
      have hw2 : wrongT t out.length bound = 0 := by unfold wrongT; rw [if_neg (by simp [w1]), if_neg (by omega), if_neg (by omega)]
      rw [if_pos hw2]
      exact ih _ _ h hb
    · rw [if_neg hw] at h
      injection h with _ h
      injection h with h _
      exact absurd h hw

/-- Things once more, from some back on, each turned. -/
def agn {α : Type} (d : α) (cp : α → α) (out : List α) (off : Nat) : Nat → List α
  | 0 => out
  | n + 1 => agn d cp (out ++ [cp (out.getD (out.length - off) d)]) off n
section
variable {α : Type} {d : α} {cp : α → α}
theorem agn_len (off : Nat) : ∀ (n : Nat) (out : List α), (agn d cp out off n).length = out.length + n := by
  intro n
  induction n with
  | zero => intro out; rfl
  | succ n ih => intro out; simp only [agn, ih, List.length_append, List.length_singleton]; omega
theorem agn_snoc (off : Nat) : ∀ (n : Nat) (out : List α), agn d cp out off (n + 1) = agn d cp out off n ++ [cp ((agn d cp out off n).getD ((agn d cp out off n).length - off) d)] := by
  intro n
  induction n with
  | zero => intro out; rfl
  | succ n ih => intro out; rw [agn, ih, ← agn]
theorem getD_app (a b : List α) (p : Nat) : (a ++ b).getD p d = if p < a.length then a.getD p d else b.getD (p - a.length) d := by
  simp only [List.getD_eq_getElem?_getD, List.getElem?_append]
  split <;> rfl
theorem agn_get (off : Nat) (h1 : 1 ≤ off) : ∀ (n : Nat) (out : List α), off ≤ out.length → (∀ p, p < out.length → (agn d cp out off n).getD p d = out.getD p d) ∧ ∀ p, out.length ≤ p → p < out.length + n → (agn d cp out off n).getD p d = cp ((agn d cp out off n).getD (p - off) d) := by
  intro n
  induction n with
  | zero => intro out _; exact ⟨fun p _ => rfl, fun p h h' => by omega⟩
  | succ n ih =>
    intro out ho
    obtain ⟨i1, i2⟩ := ih out ho
    have hl := agn_len (d := d) (cp := cp) off n out
    rw [agn_snoc]
    refine ⟨fun p hp => ?_, fun p hp hp' => ?_⟩
    · rw [getD_app, if_pos (by omega)]; exact i1 p hp
    · have e : (agn d cp out off n ++ [cp ((agn d cp out off n).getD ((agn d cp out off n).length - off) d)]).getD (p - off) d = (agn d cp out off n).getD (p - off) d := by
        rw [getD_app, if_pos (by omega)]
      rw [e]
      by_cases hlt : p < out.length + n
      · rw [getD_app, if_pos (by omega)]; exact i2 p hp hlt
      · rw [getD_app, if_neg (by omega)]
        have e1 : p - (agn d cp out off n).length = 0 := by omega
        have e2 : p - off = (agn d cp out off n).length - off := by omega
        rw [e1, e2]; rfl
end
theorem again_agn (out : List Int) (off : Nat) : ∀ n, again out off n = agn 0 id out off n := by
  intro n
  induction n with
  | zero => rfl
  | succ n ih => rw [again_snoc, agn_snoc, ih]; rfl
def orgT (i : Nat) (t : Tk) : List (Int × Int) := (List.range t.lit.length).map fun (k : Nat) => ((i : Int), (k : Int))
/-- From where each byte came; through how many copies it went. -/
def orgW (i : Nat) (o : List (Int × Int)) (t : Tk) : List (Int × Int) := agn (0, 0) id (o ++ orgT i t) t.off.toNat t.len.toNat
def deepW (d : List Int) (t : Tk) : List Int := agn 0 (· + 1) (d ++ List.replicate t.lit.length 0) t.off.toNat t.len.toNat
def orgFrom : List Tk → Nat → List (Int × Int) → List (Int × Int)
  | [], _, o => o
  | t :: l, i, o => orgFrom l (i + 1) (orgW i o t)
def deepFrom : List Tk → List Int → List Int
  | [], d => d
  | t :: l, d => deepFrom l (deepW d t)
def goodFrom : List Tk → List Int → Bool
  | [], _ => true
  | t :: l, out => if wrongT t out.length 1048576 = 0 then goodFrom l (expW out t) else false
theorem orgT_len (i : Nat) (t : Tk) : (orgT i t).length = t.lit.length := by simp [orgT]
/-- What holds of the byte at a place: it is the k-th one of token i. -/
structure OFact (L : List Tk) (W : List Int) (O : List (Int × Int)) (D : List Int) (i k p : Nat) : Prop where
  lt : p < W.length
  t0 : 0 ≤ (O.getD p (0, 0)).1
  t1 : (O.getD p (0, 0)).1 ≤ i
  j0 : 0 ≤ (O.getD p (0, 0)).2
  j1 : (O.getD p (0, 0)).2 < (L.getD (O.getD p (0, 0)).1.toNat tk0).lit.length
  is : (L.getD (O.getD p (0, 0)).1.toNat tk0).lit.getD (O.getD p (0, 0)).2.toNat 0 = W.getD p 0
  run : (L.getD i tk0).run = true → O.getD p (0, 0) = ((i : Int), (k : Int)) ∧ D.getD p 0 = 0
  cpy : (L.getD i tk0).copy = true → (L.getD i tk0).off.toNat ≤ p ∧ O.getD p (0, 0) = O.getD (p - (L.getD i tk0).off.toNat) (0, 0) ∧ D.getD p 0 = D.getD (p - (L.getD i tk0).off.toNat) 0 + 1
  d0 : 0 ≤ D.getD p 0
  d1 : D.getD p 0 ≤ p
/-- What holds of the bytes made by the tokens ahead of the i-th. -/
structure OAll (L : List Tk) (i : Nat) (w : List Int) (o : List (Int × Int)) (d : List Int) : Prop where
  lo : o.length = w.length
  ld : d.length = w.length
  all : ∀ p, p < w.length → 0 ≤ (o.getD p (0, 0)).1 ∧ (o.getD p (0, 0)).1 < i ∧ 0 ≤ (o.getD p (0, 0)).2 ∧ (o.getD p (0, 0)).2 < (L.getD (o.getD p (0, 0)).1.toNat tk0).lit.length ∧
    (L.getD (o.getD p (0, 0)).1.toNat tk0).lit.getD (o.getD p (0, 0)).2.toNat 0 = w.getD p 0 ∧ 0 ≤ d.getD p 0 ∧ d.getD p 0 ≤ p
theorem OAll.step {L : List Tk} {i : Nat} {w : List Int} {o : List (Int × Int)} {d : List Int} (h : OAll L i w o d) {t : Tk} (ht : L.getD i tk0 = t) (hr : t.right = true) (hf : t.off ≤ w.length) :
    OAll L (i + 1) (expW w t) (orgW i o t) (deepW d t) ∧ ∀ k : Nat, (k : Int) < t.made → OFact L (expW w t) (orgW i o t) (deepW d t) i k (w.length + k) := by
  obtain ⟨lo, ld, al⟩ := h
  rcases right_iff.1 hr with hrun | hcp
  · obtain ⟨r1, r2, r3, r4⟩ := run_iff.1 hrun
    have hm : t.made = t.lit.length := by unfold Tk.made; rw [if_pos hrun]
    have ew : expW w t = w ++ t.lit := by unfold expW; rw [r2]; rfl
    have eo : orgW i o t = o ++ orgT i t := by unfold orgW; rw [r2]; rfl
    have ed : deepW d t = d ++ List.replicate t.lit.length 0 := by unfold deepW; rw [r2]; rfl
    have hncp := run_not_copy hrun
    have at_ : ∀ k, k < t.lit.length → (o ++ orgT i t).getD (w.length + k) (0, 0) = ((i : Int), (k : Int)) ∧ (w ++ t.lit).getD (w.length + k) 0 = t.lit.getD k 0 ∧ (d ++ List.replicate t.lit.length 0).getD (w.length + k) 0 = 0 := by
      intro k hk
      rw [getD_app, getD_app, getD_app, if_neg (by omega), if_neg (by omega), if_neg (by omega), lo, ld]
      have e : w.length + k - w.length = k := by omega
      rw [e]
      refine ⟨by simp [orgT, hk], rfl, by simp [hk]⟩
    rw [ew, eo, ed]
    refine ⟨⟨by simp [lo, orgT_len], by simp [ld], fun p hp => ?_⟩, fun k hk => ?_⟩
    · by_cases hlt : p < w.length
      · rw [getD_app, getD_app, getD_app, if_pos (by omega), if_pos hlt, if_pos (by omega)]
        obtain ⟨a1, a2, a3, a4, a5, a6, a7⟩ := al p hlt
        exact ⟨a1, by omega, a3, a4, a5, a6, a7⟩
      · rw [List.length_append] at hp
        obtain ⟨k, rfl⟩ : ∃ k, p = w.length + k := ⟨p - w.length, by omega⟩
        obtain ⟨b1, b2, b3⟩ := at_ k (by omega)
        rw [b1, b2, b3]
        simp only [Int.toNat_natCast, ht]
        exact ⟨by omega, by omega, by omega, by omega, trivial, by omega, by omega⟩
    · obtain ⟨b1, b2, b3⟩ := at_ k (by omega)
      refine ⟨by rw [List.length_append]; omega, ?_, ?_, ?_, ?_, ?_, ?_, ?_, ?_, ?_⟩
      · rw [b1]; simp only; omega
      · rw [b1]; simp only; omega
      · rw [b1]; simp only; omega
      · rw [b1]; simp only [Int.toNat_natCast, ht]; omega
      · rw [b1, b2]; simp only [Int.toNat_natCast, ht]
      · intro _; exact ⟨b1, b3⟩
      · intro hc; rw [ht, hncp] at hc; cases hc
      · rw [b3]; omega
      · rw [b3]; omega
  · obtain ⟨c1, c2, c3, c4, c5⟩ := copy_iff.1 hcp
    have hnr : t.run = false := by
      cases q : t.run with
      | false => rfl
      | true => rw [run_not_copy q] at hcp; cases hcp
    have hm : t.made = t.len := by unfold Tk.made; rw [hnr, if_neg (by simp), if_pos hcp]
    have ew : expW w t = agn 0 id w t.off.toNat t.len.toNat := by unfold expW; rw [c1, List.append_nil, again_agn]
    have eo : orgW i o t = agn (0, 0) id o t.off.toNat t.len.toNat := by unfold orgW orgT; rw [c1]; simp
    have ed : deepW d t = agn 0 (· + 1) d t.off.toNat t.len.toNat := by unfold deepW; rw [c1]; simp
    have hlw := agn_len (d := (0 : Int)) (cp := id) t.off.toNat t.len.toNat w
    have hlo := agn_len (d := ((0 : Int), (0 : Int))) (cp := id) t.off.toNat t.len.toNat o
    have hld := agn_len (d := (0 : Int)) (cp := (· + 1)) t.off.toNat t.len.toNat d
    obtain ⟨gw, gw'⟩ := agn_get (d := (0 : Int)) (cp := id) t.off.toNat (by omega) t.len.toNat w (by omega)
    obtain ⟨go, go'⟩ := agn_get (d := ((0 : Int), (0 : Int))) (cp := id) t.off.toNat (by omega) t.len.toNat o (by omega)
    obtain ⟨gd, gd'⟩ := agn_get (d := (0 : Int)) (cp := (· + 1)) t.off.toNat (by omega) t.len.toNat d (by omega)
    rw [ew, eo, ed]
    generalize agn 0 id w t.off.toNat t.len.toNat = w' at *
    generalize agn (0, 0) id o t.off.toNat t.len.toNat = o' at *
    generalize agn 0 (· + 1) d t.off.toNat t.len.toNat = d' at *
    have key : ∀ p, p < w'.length → 0 ≤ (o'.getD p (0, 0)).1 ∧ (o'.getD p (0, 0)).1 < i ∧ 0 ≤ (o'.getD p (0, 0)).2 ∧ (o'.getD p (0, 0)).2 < (L.getD (o'.getD p (0, 0)).1.toNat tk0).lit.length ∧
        (L.getD (o'.getD p (0, 0)).1.toNat tk0).lit.getD (o'.getD p (0, 0)).2.toNat 0 = w'.getD p 0 ∧ 0 ≤ d'.getD p 0 ∧ d'.getD p 0 ≤ p := by
      intro p
      induction p using Nat.strongRecOn with
      | _ p ih =>
        intro hp
        by_cases hlt : p < w.length
        · rw [gw p hlt, go p (by omega), gd p (by omega)]; exact al p hlt
        · have h1 := gw' p (by omega) (by omega)
          have h2 := go' p (by omega) (by omega)
          have h3 := gd' p (by omega) (by omega)
          obtain ⟨a1, a2, a3, a4, a5, a6, a7⟩ := ih (p - t.off.toNat) (by omega) (by omega)
          rw [h1, h2, h3]
          simp only [id] at *
          exact ⟨a1, a2, a3, a4, a5, by omega, by omega⟩
    refine ⟨⟨by omega, by omega, fun p hp => ?_⟩, fun k hk => ?_⟩
    · obtain ⟨a1, a2, a3, a4, a5, a6, a7⟩ := key p hp
      exact ⟨a1, by omega, a3, a4, a5, a6, a7⟩
    · have hp : w.length + k < w'.length := by omega
      obtain ⟨a1, a2, a3, a4, a5, a6, a7⟩ := key _ hp
      refine ⟨hp, a1, by omega, a3, a4, a5, ?_, ?_, a6, a7⟩
      · intro hc; rw [ht, hnr] at hc; cases hc
      · intro _
        rw [ht]
        exact ⟨by omega, go' _ (by omega) (by omega), gd' _ (by omega) (by omega)⟩
theorem OFact.more {L : List Tk} {w W : List Int} {o O : List (Int × Int)} {d D : List Int} {i k p : Nat} (h : OFact L w o d i k p) (hw : ∃ a, W = w ++ a) (ho : ∃ a, O = o ++ a) (hd : ∃ a, D = d ++ a) (lo : o.length = w.length) (ld : d.length = w.length) : OFact L W O D i k p := by
  obtain ⟨a, rfl⟩ := hw
  obtain ⟨b, rfl⟩ := ho
  obtain ⟨c, rfl⟩ := hd
  have hl := h.lt
  have e1 : ∀ q, q ≤ p → (w ++ a).getD q 0 = w.getD q 0 := fun q hq => by rw [getD_app, if_pos (by omega)]
  have e2 : ∀ q, q ≤ p → (o ++ b).getD q (0, 0) = o.getD q (0, 0) := fun q hq => by rw [getD_app, if_pos (by omega)]
  have e3 : ∀ q, q ≤ p → (d ++ c).getD q 0 = d.getD q 0 := fun q hq => by rw [getD_app, if_pos (by omega)]
  have p0 := e1 p (Nat.le_refl _)
  have p1 := e2 p (Nat.le_refl _)
  have p2 := e3 p (Nat.le_refl _)
  refine ⟨by rw [List.length_append]; omega, by rw [p1]; exact h.t0, by rw [p1]; exact h.t1, by rw [p1]; exact h.j0, by rw [p1]; exact h.j1, by rw [p0, p1]; exact h.is, by rw [p1, p2]; exact h.run, fun hc => ?_, by rw [p2]; exact h.d0, by rw [p2]; exact h.d1⟩
  obtain ⟨c1, c2, c3⟩ := h.cpy hc
  rw [p1, p2, e2 _ (by omega), e3 _ (by omega)]
  exact ⟨c1, c2, c3⟩
theorem orgW_pre (i : Nat) (o : List (Int × Int)) (t : Tk) : ∃ a, orgW i o t = o ++ a := by
  have key : ∀ (n : Nat) (x : List (Int × Int)), ∃ a, agn (0, 0) id x t.off.toNat n = x ++ a := by
    intro n
    induction n with
    | zero => intro x; exact ⟨[], by simp [agn]⟩
    | succ n ih => intro x; obtain ⟨a, ha⟩ := ih (x ++ [id (x.getD (x.length - t.off.toNat) (0, 0))]); exact ⟨_, by rw [agn, ha, List.append_assoc]⟩
  obtain ⟨a, ha⟩ := key t.len.toNat (o ++ orgT i t)
  exact ⟨_, by unfold orgW; rw [ha, List.append_assoc]⟩
theorem deepW_pre (d : List Int) (t : Tk) : ∃ a, deepW d t = d ++ a := by
  have key : ∀ (n : Nat) (x : List Int), ∃ a, agn 0 (· + 1) x t.off.toNat n = x ++ a := by
    intro n
    induction n with
    | zero => intro x; exact ⟨[], by simp [agn]⟩
    | succ n ih => intro x; obtain ⟨a, ha⟩ := ih (x ++ [x.getD (x.length - t.off.toNat) 0 + 1]); exact ⟨_, by rw [agn, ha, List.append_assoc]⟩
  obtain ⟨a, ha⟩ := key t.len.toNat (d ++ List.replicate t.lit.length 0)
  exact ⟨_, by unfold deepW; rw [ha, List.append_assoc]⟩
/-- All bytes that tokens make, from a token on. -/
theorem org_all {b0 : Int} {L : List Tk} {W : List Int} : ∀ (l : List Tk) (i : Nat) (w : List Int) (o : List (Int × Int)) (d : List Int), l = L.drop i → OAll L i w o d → (w.length : Int) = tsum (L.take i) → expFrom b0 l i w = (W, (0, 0)) →
    (∃ a, W = w ++ a) ∧ (∃ a, orgFrom l i o = o ++ a) ∧ (∃ a, deepFrom l d = d ++ a) ∧ (orgFrom l i o).length = W.length ∧ (deepFrom l d).length = W.length ∧
      ∀ j, i ≤ j → j < L.length → ∀ k : Nat, (k : Int) < (L.getD j tk0).made → OFact L W (orgFrom l i o) (deepFrom l d) j k ((tsum (L.take j)).toNat + k) := by
  intro l
  induction l with
  | nil =>
    intro i w o d hl ha hs he
    have hW : w = W := by injection he
    subst hW
    have hi : L.length ≤ i := by simpa using hl.symm
    exact ⟨⟨[], by simp⟩, ⟨[], by simp [orgFrom]⟩, ⟨[], by simp [deepFrom]⟩, ha.lo, ha.ld, fun j h1 h2 => by omega⟩
  | cons t l ih =>
    intro i w o d hl ha hs he
    have hi : i < L.length := by
      rcases Nat.lt_or_ge i L.length with h | h
      · exact h
      · rw [List.drop_eq_nil_of_le h] at hl; cases hl
    have e : L.drop i = L.getD i tk0 :: L.drop (i + 1) := by rw [List.drop_eq_getElem_cons hi]; simp [hi]
    rw [e] at hl
    injection hl with ht hl
    simp only [expFrom] at he
    by_cases hw : wrongT t w.length b0 = 0
    · rw [if_pos hw] at he
      obtain ⟨w1, w2, w3⟩ := wrongT_zero hw
      obtain ⟨s1, s2⟩ := ha.step ht.symm w1 w3
      have hs' : ((expW w t).length : Int) = tsum (L.take (i + 1)) := by
        rw [expW_len _ w1, hs, List.take_succ_eq_append_getElem hi, tsum_snoc]
        have : L[i] = t := by rw [ht]; simp [hi]
        rw [this]
      obtain ⟨k1, k2, k3, k4, k5, k6⟩ := ih (i + 1) (expW w t) (orgW i o t) (deepW d t) hl s1 hs' he
      obtain ⟨p1, hp1⟩ := again_pre t.off.toNat t.len.toNat (w ++ t.lit)
      have hp1' : expW w t = w ++ (t.lit ++ p1) := by unfold expW; rw [hp1, List.append_assoc]
      obtain ⟨p2, hp2⟩ := orgW_pre i o t
      obtain ⟨p3, hp3⟩ := deepW_pre d t
      simp only [orgFrom, deepFrom]
      refine ⟨?_, ?_, ?_, k4, k5, fun j h1 h2 k hk => ?_⟩
      · obtain ⟨a, ha⟩ := k1; exact ⟨_, by rw [ha, hp1', List.append_assoc]⟩
      · obtain ⟨a, ha⟩ := k2; exact ⟨_, by rw [ha, hp2, List.append_assoc]⟩
      · obtain ⟨a, ha⟩ := k3; exact ⟨_, by rw [ha, hp3, List.append_assoc]⟩
      · rcases Nat.lt_or_ge i j with h | h
        · exact k6 j h h2 k hk
        · obtain rfl : i = j := by omega
          rw [← ht] at hk
          have := (s2 k hk).more k1 k2 k3 s1.lo s1.ld
          have en : (tsum (L.take i)).toNat = w.length := by omega
          rw [en]; exact this
    · rw [if_neg hw] at he
      injection he with _ he
      injection he with he _
      exact absurd he hw
/-- May tokens be expanded here? -/
theorem good_of : ∀ (l : List Tk) (i : Nat) (out : List Int), ¬ (expFrom 5000 l i out).2.1 = 11 → (goodFrom l out = true ↔ (expFrom 5000 l i out).2.1 = 0) := by
  intro l
  induction l with
  | nil => intro i out _; simp [goodFrom, expFrom]
  | cons t l ih =>
    intro i out h
    by_cases hw : wrongT t out.length 5000 = 0
    · have e : expFrom 5000 (t :: l) i out = expFrom 5000 l (i + 1) (expW out t) := by simp only [expFrom]; rw [if_pos hw]
      rw [e] at h ⊢
      obtain ⟨w1, w2, w3⟩ := wrongT_zero hw
      have hw2 : wrongT t out.length 1048576 = 0 := by unfold wrongT; rw [if_neg (by simp [w1]), if_neg (by omega), if_neg (by omega)]
      have e2 : goodFrom (t :: l) out = goodFrom l (expW out t) := by simp only [goodFrom]; rw [if_pos hw2]
      rw [e2]
      exact ih _ _ h
    · have e : expFrom 5000 (t :: l) i out = ([], (wrongT t out.length 5000, (i : Int))) := by simp only [expFrom]; rw [if_neg hw]
      rw [e] at h ⊢
      simp only at h ⊢
      have hw2 : ¬ wrongT t out.length 1048576 = 0 := by
        intro hz
        obtain ⟨z1, z2, z3⟩ := wrongT_zero hz
        unfold wrongT at hw h
        rw [if_neg (by simp [z1])] at hw h
        by_cases hb : (5000 : Int) < out.length + t.made
        · rw [if_pos hb] at h; exact h rfl
        · rw [if_neg hb, if_neg (by omega)] at hw; exact hw rfl
      have e2 : goodFrom (t :: l) out = false := by simp only [goodFrom]; rw [if_neg hw2]
      rw [e2]
      simp [hw]
end Go.Proofs.Ytpjkmidjjodplaa
