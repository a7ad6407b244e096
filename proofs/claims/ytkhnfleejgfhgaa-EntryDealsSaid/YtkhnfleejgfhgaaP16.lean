/-
  Plain laws of chapter 23: links. No program.
-/
import Derived.Test.YtkhnfleejgfhgaaP3
set_option linter.all false
set_option linter.unusedSimpArgs false
set_option linter.unusedVariables false
set_option linter.unnecessarySimpa false
namespace Go.Proofs.Ytkhnfleejgfhgaa

/-- A link: a stream, and the entries of it ahead. -/
structure Lk where
  st : Int
  bk : List Int
  deriving DecidableEq
def lk0 : Lk := ⟨0, []⟩
structure Lk.ok (x : Lk) : Prop where
  s0 : 0 ≤ x.st
  s1 : x.st < 18446744073709551616
  b : U64s x.bk
def Lks (l : List Lk) : Prop := ∀ x ∈ l, x.ok
/-- The stream of the last of some links; -1: there is none. -/
def lst (acc : List Lk) : Int := (acc.getLastD ⟨-1, []⟩).st
theorem lst_nil : lst [] = -1 := rfl
theorem lst_snoc (acc : List Lk) (x : Lk) : lst (acc ++ [x]) = x.st := by simp [lst]
theorem lst_get (l : List Lk) (h : 0 < l.length) : lst l = (l.getD (l.length - 1) lk0).st := by
  rcases List.eq_nil_or_concat l with rfl | ⟨l, x, rfl⟩
  · simp at h
  · simp [lst]
theorem lst_take (l : List Lk) (i : Nat) (h : i ≤ l.length) : lst (l.take i) = if i = 0 then -1 else (l.getD (i - 1) lk0).st := by
  split
  · rename_i h0; subst h0; rfl
  · rw [lst_get _ (by simp; omega)]
    have : (l.take i).length = i := by simp; omega
    rw [this]
    simp [show i - 1 < i by omega]
def linkNx (pos : Int) (acc : List Lk) (x : Lk) : Prop := lst acc < x.st ∧ x.st < 18446744073709551616 ∧ U64s x.bk ∧ falls pos x.bk = true ∧ x.bk.length ≤ 4
/-- The reader behind a stream's number. -/
def RS.lkHead (s : RS) (acc : List Lk) : RS := if s.vint.1.code = 0 ∧ 18446744073709551616 ≤ lst acc + 1 + s.vint.2 then s.vint.1.fail 13 s.at_ else s.vint.1
def linkF (pos : Int) : Fmt Lk :=
  ⟨fun s acc => (((s.lkHead acc).fall pos 4).1, ⟨lst acc + 1 + s.vint.2, ((s.lkHead acc).fall pos 4).2⟩), fun acc x => vb (x.st - lst acc - 1) ++ fallB pos x.bk, linkNx pos⟩
theorem lst_ge {pos : Int} {acc : List Lk} (h : Wf (linkNx pos) [] acc) : -1 ≤ lst acc ∧ lst acc < 18446744073709551616 := by
  have gen : ∀ n, ∀ acc : List Lk, acc.length = n → Wf (linkNx pos) [] acc → -1 ≤ lst acc ∧ lst acc < 18446744073709551616 := by
    intro n
    induction n with
    | zero => intro acc h _; rw [List.eq_nil_of_length_eq_zero h]; exact ⟨Int.le_refl _, by decide⟩
    | succ n ih =>
      intro acc h hw
      rcases List.eq_nil_or_concat acc with rfl | ⟨l, x, rfl⟩
      · simp at h
      · rw [List.concat_eq_append] at h hw ⊢
        obtain ⟨h1, h2⟩ := wf_snoc.1 hw
        have := ih l (by simpa using h) h1
        rw [lst_snoc]
        have h3 : lst ([] ++ l) < x.st := h2.1
        simp only [List.nil_append] at h3
        exact ⟨by omega, h2.2.1⟩
  exact gen _ acc rfl h
theorem fall_keep {s : RS} {b : Int} (h : ROk s) (hb : b < 18446744073709551616) (m : Int) : ROk (s.fall b m).1 ∧ (s.fall b m).1.l = s.l := counted_keep (fallF_ok hb) h m
theorem fallB_bys {b : Int} {l : List Int} (hb : b < 18446744073709551616) (hl : U64s l) (hf : falls b l = true) (hn : l.length < 18446744073709551616) : Bys (fallB b l) := by
  unfold fallB
  intro y hy
  rcases List.mem_append.1 hy with hy | hy
  · exact vb_by (by omega) (by omega) y hy
  · exact vbs_bys (dsts_u64 hb hl hf (Nat.le_refl _)) y hy
theorem fall_is {s : RS} {b m : Int} (h : ROk s) (b0 : 0 ≤ b) (hb : b < 18446744073709551616) (hc : (s.fall b m).1.code = 0) : s.code = 0 ∧ U64s (s.fall b m).2 ∧ falls b (s.fall b m).2 = true ∧ ((s.fall b m).2.length : Int) ≤ m ∧ s.at_ < (s.fall b m).1.at_ ∧ s.l.take (s.fall b m).1.at_.toNat = s.l.take s.at_.toNat ++ fallB b (s.fall b m).2 := by
  obtain ⟨c1, c2, c3, c4, c5⟩ := counted_is (fallF_ok hb) h hc
  have hu : U64s (s.fall b m).2 := by
    intro x hx
    obtain ⟨i, hi, rfl⟩ := List.getElem_of_mem hx
    have hn := wf_get i hi c1
    have hw := wf_take i c1
    have hl := fall_le hw
    simp only [List.nil_append] at hn
    have hn1 : 0 ≤ (s.fall b m).2[i] ∧ (s.fall b m).2[i] < blw b ((s.fall b m).2.take i) := hn
    exact ⟨hn1.1, by have : blw b ((s.fall b m).2.take i) ≤ b := hl; omega⟩
  refine ⟨c3, hu, (falls_wf hu).2 c1, c2, c5, ?_⟩
  have e : encs (fallF b).enc [] ((fallF b).counted m s).2 = vbs (dsts b ((fallF b).counted m s).2 ((fallF b).counted m s).2.length) := fall_encs
  rw [e, List.append_assoc] at c4
  exact c4
theorem fall_own {s : RS} {b m : Int} {l r : List Int} (h : ROk s) (hc : s.code = 0) (hb : b < 18446744073709551616) (hl : U64s l) (hf : falls b l = true) (hm : (l.length : Int) ≤ m) (hn : l.length < 18446744073709551616) (hr : s.rest = fallB b l ++ r) : s.fall b m = (s.adv ((fallB b l).length : Int), l) := by
  have hw := (falls_wf hl).1 hf
  unfold fallB at hr ⊢
  rw [List.append_assoc] at hr
  have e : encs (fallF b).enc [] l = vbs (dsts b l l.length) := fall_encs
  have := counted_own (fallF_ok hb) h hc hm hw hn (r := r) (by rw [e]; exact hr)
  unfold RS.fall
  rw [this, e, List.length_append]
  rfl
theorem linkF_ok {pos : Int} (p0 : 0 ≤ pos) (p1 : pos < 18446744073709551616) : (linkF pos).Ok := by
  refine ⟨fun s acc h _ => ?_, fun s acc h hw hc => ?_, fun s acc x r h hc hw hx hr => ?_, fun acc x hw hx => ?_⟩
  · obtain ⟨a, c⟩ := h.vint
    have hk : ROk (s.lkHead acc) ∧ (s.lkHead acc).l = s.l := by
      unfold RS.lkHead
      split
      · exact ⟨a.fail _ _, by rw [fail_l]; exact c⟩
      · exact ⟨a, c⟩
    have hf := fall_keep hk.1 p1 4
    exact ⟨hf.1, hf.2.trans hk.2⟩
  · have hg := lst_ge hw
    have hv := vint_range (s := s) h.bys
    obtain ⟨a, c⟩ := h.vint
    have hkh : (s.lkHead acc).code = 0 ∧ ROk (s.lkHead acc) := by
      have hk : ROk (s.lkHead acc) := by
        unfold RS.lkHead
        split
        · exact a.fail _ _
        · exact a
      exact ⟨(fall_is hk p0 p1 hc).1, hk⟩
    have hno : ¬ (s.vint.1.code = 0 ∧ 18446744073709551616 ≤ lst acc + 1 + s.vint.2) := by
      intro hx
      have := hkh.1
      unfold RS.lkHead at this
      rw [if_pos hx] at this
      exact absurd this (fail_not0 _ _ hx.1 (by decide))
    have hke : s.lkHead acc = s.vint.1 := by unfold RS.lkHead; rw [if_neg hno]
    have hc' : ((s.lkHead acc).fall pos 4).1.code = 0 := hc
    rw [hke] at hkh hc'
    obtain ⟨f1, f2, f3, f4, f5, f6⟩ := fall_is hkh.2 p0 p1 hc'
    obtain ⟨v1, v2, v3⟩ := vint_bytes h hkh.1
    have ha := vint_adv h hkh.1
    have hlt : lst acc + 1 + s.vint.2 < 18446744073709551616 := by
      rcases Int.lt_or_le (lst acc + 1 + s.vint.2) 18446744073709551616 with h1 | h1
      · exact h1
      · exact absurd ⟨hkh.1, h1⟩ hno
    simp only [linkF]
    rw [hke]
    refine ⟨v3, ⟨by simp only; omega, hlt, f2, f3, by simp only; omega⟩, by omega, ?_⟩
    rw [c] at f6
    rw [f6, v1, List.append_assoc]
    have e : lst acc + 1 + s.vint.2 - lst acc - 1 = s.vint.2 := by omega
    rw [e]
  · have hg := lst_ge hw
    obtain ⟨x1, x2, x3, x4, x5⟩ := hx
    simp only [linkF] at hr ⊢
    rw [List.append_assoc] at hr
    have hv := vint_own hc (by omega) (by omega) hr
    have hok := adv_ok h hr
    have hke : s.lkHead acc = s.adv ((vb (x.st - lst acc - 1)).length : Int) := by
      unfold RS.lkHead; rw [hv]; simp only; rw [if_neg (by omega)]
    have hr2 : (s.adv ((vb (x.st - lst acc - 1)).length : Int)).rest = fallB pos x.bk ++ r := by rw [adv_rest h.at0, hr, List.drop_left]
    have hfo := fall_own (m := 4) hok (show (s.adv ((vb (x.st - lst acc - 1)).length : Int)).code = 0 from hc) p1 x3 x4 (by omega) (by omega) hr2
    rw [hke, hfo, hv, adv_adv]
    simp only [Prod.mk.injEq]
    refine ⟨by rw [List.length_append]; rfl, ?_⟩
    cases x
    simp only [Lk.mk.injEq, and_true]
    simp only at x1
    omega
  · have hg := lst_ge hw
    obtain ⟨x1, x2, x3, x4, x5⟩ := hx
    intro y hy
    rcases List.mem_append.1 hy with hy | hy
    · exact vb_by (by omega) (by omega) y hy
    · exact fallB_bys p1 x3 x4 (by omega) y hy
/-- Do links rise by their streams? -/
def risesL (l : List Lk) : Bool := (List.range l.length).all fun i => decide (i = 0 ∨ (l.getD (i - 1) lk0).st < (l.getD i lk0).st)
theorem risesL_iff {l : List Lk} : risesL l = true ↔ ∀ i, i < l.length → 0 < i → (l.getD (i - 1) lk0).st < (l.getD i lk0).st := by
  unfold risesL
  rw [List.all_eq_true]
  constructor
  · intro h i hi h0
    have := h i (List.mem_range.2 hi)
    simp only [decide_eq_true_eq] at this
    omega
  · intro h i hi
    simp only [decide_eq_true_eq]
    rcases Nat.eq_zero_or_pos i with h0 | h0
    · exact .inl h0
    · exact .inr (h i (List.mem_range.1 hi) h0)
def goodL (pos : Int) (x : Lk) : Bool := decide (x.bk.length ≤ 4) && falls pos x.bk
theorem goodL_iff {pos : Int} {x : Lk} : goodL pos x = true ↔ x.bk.length ≤ 4 ∧ falls pos x.bk = true := by simp [goodL]
/-- Are links well-formed? -/
def rightL (pos : Int) (l : List Lk) : Bool := decide (l.length ≤ 16) && risesL l && l.all (goodL pos)
theorem rightL_iff {pos : Int} {l : List Lk} : rightL pos l = true ↔ l.length ≤ 16 ∧ risesL l = true ∧ ∀ x ∈ l, goodL pos x = true := by
  simp [rightL, and_assoc]
theorem lk_mem (l : List Lk) (k : Nat) (h : k < l.length) : l.getD k lk0 ∈ l := by simp [h]
theorem rightL_wf {pos : Int} {l : List Lk} (hl : Lks l) : rightL pos l = true ↔ l.length ≤ 16 ∧ Wf (linkNx pos) [] l := by
  rw [rightL_iff]
  constructor
  · rintro ⟨h1, h2, h3⟩
    refine ⟨h1, wf_of fun k hk => ?_⟩
    have e : l[k] = l.getD k lk0 := by simp [hk]
    have hm := lk_mem l k hk
    rw [e, List.nil_append]
    obtain ⟨g1, g2⟩ := goodL_iff.1 (h3 _ hm)
    have ho := hl _ hm
    refine ⟨?_, ho.s1, ho.b, g2, g1⟩
    rw [lst_take l k (by omega)]
    split
    · have := ho.s0; omega
    · exact risesL_iff.1 h2 k hk (by omega)
  · rintro ⟨h1, h2⟩
    have key : ∀ k, k < l.length → linkNx pos (l.take k) (l.getD k lk0) := fun k hk => by
      have := wf_get k hk h2
      have e : l[k] = l.getD k lk0 := by simp [hk]
      rw [e, List.nil_append] at this
      exact this
    refine ⟨h1, risesL_iff.2 fun i hi h0 => ?_, fun x hx => ?_⟩
    · have := (key i hi).1
      rw [lst_take l i (by omega), if_neg (by omega)] at this
      exact this
    · obtain ⟨i, hi, rfl⟩ := List.getElem_of_mem hx
      have e : l[i] = l.getD i lk0 := by simp [hi]
      rw [e]
      obtain ⟨_, _, _, k4, k5⟩ := key i hi
      exact goodL_iff.2 ⟨k5, k4⟩
/-- How links are written. -/
def linksB (pos : Int) (l : List Lk) : List Int := vb l.length ++ encs (linkF pos).enc [] l
/-- The reader behind links, and these. -/
def RS.links (s : RS) (pos : Int) : RS × List Lk := (linkF pos).counted 16 s
theorem links_keep {s : RS} {pos : Int} (h : ROk s) (p0 : 0 ≤ pos) (p1 : pos < 18446744073709551616) : ROk (s.links pos).1 ∧ (s.links pos).1.l = s.l := counted_keep (linkF_ok p0 p1) h 16
theorem links_bad {s : RS} {pos : Int} (hc : ¬ (s.links pos).1.code = 0) : (s.links pos).2 = [] := counted_bad 16 hc
theorem links_is {s : RS} {pos : Int} (h : ROk s) (p0 : 0 ≤ pos) (p1 : pos < 18446744073709551616) (hc : (s.links pos).1.code = 0) : s.code = 0 ∧ Lks (s.links pos).2 ∧ rightL pos (s.links pos).2 = true ∧ s.at_ < (s.links pos).1.at_ ∧ s.l.take (s.links pos).1.at_.toNat = s.l.take s.at_.toNat ++ linksB pos (s.links pos).2 := by
  obtain ⟨c1, c2, c3, c4, c5⟩ := counted_is (linkF_ok p0 p1) h hc
  have hks : Lks (s.links pos).2 := by
    intro x hx
    obtain ⟨i, hi, rfl⟩ := List.getElem_of_mem hx
    have hn := wf_get i hi c1
    have hg := lst_ge (wf_take i c1)
    rw [List.nil_append] at hn
    obtain ⟨n1, n2, n3, n4, n5⟩ := hn
    exact ⟨by have : -1 ≤ lst ((s.links pos).2.take i) := hg.1; have n1' : lst ((s.links pos).2.take i) < ((s.links pos).2[i]).st := n1; omega, n2, n3⟩
  refine ⟨c3, hks, (rightL_wf hks).2 ⟨by have : ((s.links pos).2.length : Int) ≤ 16 := c2; omega, c1⟩, c5, ?_⟩
  rw [List.append_assoc] at c4
  exact c4
theorem links_own {s : RS} {pos : Int} {l : List Lk} {r : List Int} (h : ROk s) (hc : s.code = 0) (p0 : 0 ≤ pos) (p1 : pos < 18446744073709551616) (hl : Lks l) (hr : rightL pos l = true) (hrest : s.rest = linksB pos l ++ r) : s.links pos = (s.adv ((linksB pos l).length : Int), l) := by
  obtain ⟨h1, h2⟩ := (rightL_wf hl).1 hr
  unfold linksB at hrest ⊢
  rw [List.append_assoc] at hrest
  have := counted_own (linkF_ok p0 p1) h hc (m := 16) (by omega) h2 (by omega) hrest
  unfold RS.links
  rw [this, List.length_append]; rfl
theorem linksB_bys {pos : Int} {l : List Lk} (p0 : 0 ≤ pos) (p1 : pos < 18446744073709551616) (hl : Lks l) (hr : rightL pos l = true) : Bys (linksB pos l) := by
  obtain ⟨h1, h2⟩ := (rightL_wf hl).1 hr
  intro y hy
  rcases List.mem_append.1 hy with hy | hy
  · exact vb_by (by omega) (by omega) y hy
  · exact encs_bys (acc := []) (linkF_ok p0 p1) trivial h2 y hy
end Go.Proofs.Ytkhnfleejgfhgaa
