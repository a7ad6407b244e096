/-
  Plain laws of things that are read one behind the other. No program.
  Plain laws of chapters 6 and 22: bytes with their number, lists of numbers, falling lists. No program.
-/
import Derived.Test.YtkhnfleejgfhgaaP1
set_option linter.all false
set_option linter.unusedSimpArgs false
set_option linter.unusedVariables false
set_option linter.unnecessarySimpa false
section
namespace Go.Proofs.Ytkhnfleejgfhgaa

/-- How one thing more is read and written, behind those that are there, and which may stand there. -/
structure Fmt (β : Type) where
  f : RS → List β → RS × β
  enc : List β → β → List Int
  nx : List β → β → Prop
def Wf {β : Type} (nx : List β → β → Prop) : List β → List β → Prop
  | _, [] => True
  | acc, x :: r => nx acc x ∧ Wf nx (acc ++ [x]) r
def encs {β : Type} (enc : List β → β → List Int) : List β → List β → List Int
  | _, [] => []
  | acc, x :: r => enc acc x ++ encs enc (acc ++ [x]) r
theorem wf_snoc {β : Type} {nx : List β → β → Prop} : ∀ {r acc : List β} {x : β}, Wf nx acc (r ++ [x]) ↔ Wf nx acc r ∧ nx (acc ++ r) x := by
  intro r
  induction r with
  | nil => intro acc x; simp [Wf]
  | cons y r ih => intro acc x; simp only [List.cons_append, Wf, ih, List.append_assoc, List.nil_append, and_assoc]
theorem encs_snoc {β : Type} {enc : List β → β → List Int} : ∀ {r acc : List β} {x : β}, encs enc acc (r ++ [x]) = encs enc acc r ++ enc (acc ++ r) x := by
  intro r
  induction r with
  | nil => intro acc x; simp [encs]
  | cons y r ih => intro acc x; simp only [List.cons_append, encs, ih, List.append_assoc, List.nil_append]
theorem wf_take {β : Type} {nx : List β → β → Prop} : ∀ {r acc : List β} (k : Nat), Wf nx acc r → Wf nx acc (r.take k) := by
  intro r
  induction r with
  | nil => intro acc k h; simp [Wf]
  | cons y r ih =>
    intro acc k h
    cases k with
    | zero => simp [Wf]
    | succ k => exact ⟨h.1, ih k h.2⟩
theorem wf_get {β : Type} {nx : List β → β → Prop} : ∀ {r acc : List β} (k : Nat) (h : k < r.length), Wf nx acc r → nx (acc ++ r.take k) r[k] := by
  intro r
  induction r with
  | nil => intro acc k h; simp at h
  | cons y r ih =>
    intro acc k h hw
    cases k with
    | zero => simpa using hw.1
    | succ k =>
      have := ih (acc := acc ++ [y]) k (by simpa using h) hw.2
      simpa using this
theorem wf_of {β : Type} {nx : List β → β → Prop} : ∀ {r acc : List β}, (∀ (k : Nat) (h : k < r.length), nx (acc ++ r.take k) r[k]) → Wf nx acc r := by
  intro r
  induction r with
  | nil => intro acc h; trivial
  | cons y r ih =>
    intro acc h
    have h0 := h 0 (by simp)
    simp only [List.take_zero, List.append_nil, List.getElem_cons_zero] at h0
    refine ⟨h0, ih fun k hk => ?_⟩
    have := h (k + 1) (by simpa using hk)
    simpa using this
theorem wf_mono {β : Type} {nx nx' : List β → β → Prop} (hm : ∀ acc x, nx acc x → nx' acc x) : ∀ {r acc : List β}, Wf nx acc r → Wf nx' acc r := by
  intro r
  induction r with
  | nil => intro acc h; trivial
  | cons y r ih => intro acc h; exact ⟨hm _ _ h.1, ih h.2⟩
theorem encs_len {β : Type} {enc : List β → β → List Int} {nx : List β → β → Prop} (m : Nat) (he : ∀ acc x, nx acc x → (enc acc x).length ≤ m) : ∀ {r acc : List β}, Wf nx acc r → (encs enc acc r).length ≤ m * r.length := by
  intro r
  induction r with
  | nil => intro acc _; simp [encs]
  | cons y r ih =>
    intro acc h
    have h1 := he _ _ h.1
    have h2 := ih h.2
    simp only [encs, List.length_append, List.length_cons, Nat.mul_add, Nat.mul_one]
    omega
theorem encs_ge {β : Type} {enc : List β → β → List Int} {nx : List β → β → Prop} (he : ∀ acc x, nx acc x → 1 ≤ (enc acc x).length) : ∀ {r acc : List β}, Wf nx acc r → r.length ≤ (encs enc acc r).length := by
  intro r
  induction r with
  | nil => intro acc _; simp [encs]
  | cons y r ih =>
    intro acc h
    have h1 := he _ _ h.1
    have h2 := ih h.2
    simp only [encs, List.length_append, List.length_cons]
    omega

structure Fmt.Ok {β : Type} (F : Fmt β) : Prop where
  keep : ∀ s acc, ROk s → Wf F.nx [] acc → ROk (F.f s acc).1 ∧ (F.f s acc).1.l = s.l
  read : ∀ s acc, ROk s → Wf F.nx [] acc → (F.f s acc).1.code = 0 → s.code = 0 ∧ F.nx acc (F.f s acc).2 ∧ s.at_ < (F.f s acc).1.at_ ∧ s.l.take (F.f s acc).1.at_.toNat = s.l.take s.at_.toNat ++ F.enc acc (F.f s acc).2
  own : ∀ s acc x r, ROk s → s.code = 0 → Wf F.nx [] acc → F.nx acc x → s.rest = F.enc acc x ++ r → F.f s acc = (s.adv ((F.enc acc x).length : Int), x)
  byt : ∀ acc x, Wf F.nx [] acc → F.nx acc x → Bys (F.enc acc x)

section
variable {β : Type} {F : Fmt β}
theorem encs_bys (hF : F.Ok) : ∀ {r acc : List β}, Wf F.nx [] acc → Wf F.nx acc r → Bys (encs F.enc acc r) := by
  intro r
  induction r with
  | nil => intro acc _ _ y hy; simp [encs] at hy
  | cons y r ih =>
    intro acc ha h z hz
    rcases List.mem_append.1 hz with hz | hz
    · exact hF.byt _ _ ha h.1 z hz
    · exact ih (wf_snoc.2 ⟨ha, by simpa using h.1⟩) h.2 z hz
def Fmt.many (F : Fmt β) : Nat → RS → List β → RS × List β
  | 0, s, acc => (s, acc)
  | n + 1, s, acc => if (F.f s acc).1.code = 0 then F.many n (F.f s acc).1 (acc ++ [(F.f s acc).2]) else ((F.f s acc).1, [])
theorem many_good {s : RS} {acc : List β} {N : Nat} (h : acc.length < N) (hc : (F.f s acc).1.code = 0) : F.many (N - acc.length) s acc = F.many (N - (acc ++ [(F.f s acc).2]).length) (F.f s acc).1 (acc ++ [(F.f s acc).2]) := by
  obtain ⟨m, hm⟩ : ∃ m, N - acc.length = m + 1 := ⟨N - acc.length - 1, by omega⟩
  rw [hm, Fmt.many, if_pos hc]
  congr 1
  simp; omega
theorem many_bad {s : RS} {acc : List β} {N : Nat} (h : acc.length < N) (hc : ¬ (F.f s acc).1.code = 0) : F.many (N - acc.length) s acc = ((F.f s acc).1, []) := by
  obtain ⟨m, hm⟩ : ∃ m, N - acc.length = m + 1 := ⟨N - acc.length - 1, by omega⟩
  rw [hm, Fmt.many, if_neg hc]
theorem many_end {s : RS} {acc : List β} {N : Nat} (h : N ≤ acc.length) : F.many (N - acc.length) s acc = (s, acc) := by
  rw [show N - acc.length = 0 from by omega]; rfl
/-- What is borne at each round. -/
structure Fmt.On (F : Fmt β) (s : RS) (N : Nat) (a : RS × List β) : Prop where
  ok : ROk a.1
  l : a.1.l = s.l
  adv : (a.2.length : Int) ≤ a.1.at_
  le : a.2.length ≤ N
  wf : Wf F.nx [] a.2
  res : F.many (N - a.2.length) a.1 a.2 = F.many N s []
theorem Fmt.On.start {s : RS} (h : ROk s) (N : Nat) : F.On s N (s, []) := ⟨h, rfl, by simpa using h.at0, by simp, trivial, rfl⟩
theorem Fmt.On.next {s t : RS} {N : Nat} {acc : List β} (hF : F.Ok) (h : F.On s N (t, acc)) (hN : acc.length < N) (hc : (F.f t acc).1.code = 0) : F.On s N ((F.f t acc).1, acc ++ [(F.f t acc).2]) := by
  obtain ⟨h1, h2, h3, h4, h5, h6⟩ := h
  simp only at h1 h2 h3 h4 h5 h6
  obtain ⟨k1, k2⟩ := hF.keep t acc h1 h5
  obtain ⟨r1, r2, r3, r4⟩ := hF.read t acc h1 h5 hc
  refine ⟨k1, k2.trans h2, ?_, ?_, wf_snoc.2 ⟨h5, by simpa using r2⟩, ?_⟩
  · simp; omega
  · simp; omega
  · rw [← h6]; exact (many_good hN hc).symm
theorem Fmt.On.len {s t : RS} {N : Nat} {acc : List β} (h : F.On s N (t, acc)) : acc.length ≤ s.l.length := by
  have h1 := h.ok.at1
  have h2 := h.l
  have h3 := h.adv
  simp only at h1 h2 h3
  rw [h2] at h1
  omega
theorem many_keep (hF : F.Ok) : ∀ (N : Nat) (s : RS) (acc : List β), ROk s → Wf F.nx [] acc → ROk (F.many N s acc).1 ∧ (F.many N s acc).1.l = s.l := by
  intro N
  induction N with
  | zero => intro s acc h _; exact ⟨h, rfl⟩
  | succ N ih =>
    intro s acc h hw
    obtain ⟨k1, k2⟩ := hF.keep s acc h hw
    simp only [Fmt.many]
    split
    · rename_i hc
      obtain ⟨r1, r2, r3, r4⟩ := hF.read s acc h hw hc
      obtain ⟨q1, q2⟩ := ih _ (acc ++ [(F.f s acc).2]) k1 (wf_snoc.2 ⟨hw, by simpa using r2⟩)
      exact ⟨q1, q2.trans k2⟩
    · exact ⟨k1, k2⟩
/-- What has been read is well-formed, and is so written. -/
theorem many_is (hF : F.Ok) : ∀ (N : Nat) (s : RS) (acc : List β), ROk s → Wf F.nx [] acc → (F.many N s acc).1.code = 0 →
    ∃ r, (F.many N s acc).2 = acc ++ r ∧ r.length = N ∧ Wf F.nx [] (acc ++ r) ∧ s.l.take (F.many N s acc).1.at_.toNat = s.l.take s.at_.toNat ++ encs F.enc acc r ∧ s.code = 0 ∧ s.at_ ≤ (F.many N s acc).1.at_ := by
  intro N
  induction N with
  | zero => intro s acc h hw hc; exact ⟨[], by simp [Fmt.many], rfl, by simpa using hw, by simp [Fmt.many, encs], hc, Int.le_refl _⟩
  | succ N ih =>
    intro s acc h hw hc
    obtain ⟨k1, k2⟩ := hF.keep s acc h hw
    simp only [Fmt.many] at hc ⊢
    by_cases hn : (F.f s acc).1.code = 0
    · rw [if_pos hn] at hc ⊢
      obtain ⟨r1, r2, r3, r4⟩ := hF.read s acc h hw hn
      obtain ⟨r, q1, q2, q3, q4, q5, q6⟩ := ih (F.f s acc).1 (acc ++ [(F.f s acc).2]) k1 (wf_snoc.2 ⟨hw, by simpa using r2⟩) hc
      refine ⟨(F.f s acc).2 :: r, by rw [q1]; simp, by simp [q2], by simpa using q3, ?_, r1, by omega⟩
      rw [k2] at q4
      rw [q4, r4, encs, List.append_assoc]
    · rw [if_neg hn] at hc; exact absurd hc hn
theorem many_bad_nil : ∀ (N : Nat) (s : RS) (acc : List β), (s.code = 0 ∨ acc = []) → ¬ (F.many N s acc).1.code = 0 → (F.many N s acc).2 = [] := by
  intro N
  induction N with
  | zero => intro s acc h hc; rcases h with h | h; exact absurd h hc; exact h
  | succ N ih =>
    intro s acc h hc
    simp only [Fmt.many] at hc ⊢
    by_cases hn : (F.f s acc).1.code = 0
    · rw [if_pos hn] at hc ⊢; exact ih _ _ (.inl hn) hc
    · rw [if_neg hn]
theorem adv_ok {s : RS} (h : ROk s) {a r : List Int} (hr : s.rest = a ++ r) : ROk (s.adv (a.length : Int)) := by
  have := rest_len s h.at0 h.at1
  rw [hr, List.length_append] at this
  have h0 := h.at0
  exact ⟨by show 0 ≤ s.at_ + (a.length : Int); omega, by show s.at_ + (a.length : Int) ≤ s.l.length; omega, h.len, h.bys⟩
/-- What is written is read. -/
theorem many_own (hF : F.Ok) {m : List Int} : ∀ (l acc : List β) (s : RS), ROk s → s.code = 0 → Wf F.nx [] acc → Wf F.nx acc l → s.rest = encs F.enc acc l ++ m → F.many l.length s acc = (s.adv ((encs F.enc acc l).length : Int), acc ++ l) := by
  intro l
  induction l with
  | nil => intro acc s _ _ _ _ _; simp [Fmt.many, encs, RS.adv]
  | cons x l ih =>
    intro acc s hs hc hw hl hr
    simp only [encs, List.append_assoc] at hr
    have h1 := hF.own s acc x _ hs hc hw hl.1 hr
    have hs2 := adv_ok hs hr
    simp only [List.length_cons, Fmt.many]
    rw [h1]
    have hc2 : (s.adv ((F.enc acc x).length : Int)).code = 0 := hc
    rw [if_pos hc2, ih (acc ++ [x]) _ hs2 hc2 (wf_snoc.2 ⟨hw, by simpa using hl.1⟩) hl.2 (by rw [adv_rest hs.at0, hr, List.drop_left]), adv_adv, encs, List.length_append]
    simp
theorem many_len (hF : F.Ok) (N : Nat) (s : RS) (h : ROk s) : (F.many N s []).2.length ≤ s.l.length := by
  by_cases hc : (F.many N s []).1.code = 0
  · have gen : ∀ (N : Nat) (s : RS) (acc : List β), ROk s → Wf F.nx [] acc → (acc.length : Int) ≤ s.at_ → (F.many N s acc).1.code = 0 → (F.many N s acc).2.length ≤ s.l.length := by
      intro N
      induction N with
      | zero => intro s acc h _ ha _; have := h.at1; simp only [Fmt.many]; omega
      | succ N ih =>
        intro s acc h hw ha hc
        obtain ⟨k1, k2⟩ := hF.keep s acc h hw
        simp only [Fmt.many] at hc ⊢
        by_cases hn : (F.f s acc).1.code = 0
        · rw [if_pos hn] at hc ⊢
          obtain ⟨r1, r2, r3, r4⟩ := hF.read s acc h hw hn
          have := ih _ (acc ++ [(F.f s acc).2]) k1 (wf_snoc.2 ⟨hw, by simpa using r2⟩) (by simp; omega) hc
          rw [k2] at this; exact this
        · rw [if_neg hn] at hc; exact absurd hc hn
    exact gen N s [] h trivial (by simpa using h.at0) hc
  · rw [many_bad_nil N s [] (.inr rfl) hc]; simp
end

/-- What is borne where a thing that could not be read is laid behind the others, too. -/
def Fmt.On2 {β : Type} (F : Fmt β) (s : RS) (N : Nat) (a : RS × List β) : Prop :=
  F.On s N a ∨ (¬ a.1.code = 0 ∧ F.many N s [] = (a.1, []) ∧ ROk a.1 ∧ a.1.l = s.l ∧ a.2.length ≤ N ∧ a.2.length ≤ s.l.length + 1)
/-- A number of things, and these. -/
def Fmt.counted {β : Type} (F : Fmt β) (m : Int) (s : RS) : RS × List β := F.many (s.int m).2.toNat (s.int m).1 []
theorem most_code {s : RS} {m : Int} (h : (s.most m).1.code = 0) : s.vint.1.code = 0 ∧ s.vint.2 ≤ m ∧ s.most m = s.vint := by
  unfold RS.most at h ⊢
  by_cases hm : m < s.vint.2
  · rw [if_pos hm] at h
    unfold RS.fail at h
    split at h
    · simp [flt] at h
    · contradiction
  · rw [if_neg hm] at h ⊢; exact ⟨h, by omega, rfl⟩
theorem int_code {s : RS} {m : Int} (h : (s.int m).1.code = 0) : 0 ≤ m ∧ s.vint.1.code = 0 ∧ s.vint.2 ≤ m ∧ s.int m = s.vint := by
  unfold RS.int at h ⊢
  by_cases hm : 0 ≤ m
  · rw [if_pos hm] at h ⊢; obtain ⟨a, b, c⟩ := most_code h; exact ⟨hm, a, b, c⟩
  · rw [if_neg hm] at h
    unfold RS.fail at h
    split at h
    · simp [flt] at h
    · contradiction
theorem int_range {s : RS} {m : Int} (hb : Bys s.l) : 0 ≤ (s.int m).2 ∧ (s.int m).2 ≤ max m 0 := by
  unfold RS.int
  split
  · have := most_range (m := m) hb (by assumption); omega
  · simp; omega
theorem vint_zero {s : RS} (h : s.vint.1.code ≠ 0) : s.vint.2 = 0 := by
  unfold RS.vint at h ⊢
  split
  · rename_i hc
    rw [if_pos hc] at h
    split
    · rename_i h0; rw [if_pos h0] at h; exact absurd hc h
    · split <;> rfl
  · rfl
theorem int_zero {s : RS} {m : Int} (h : (s.int m).1.code ≠ 0) : (s.int m).2 = 0 := by
  unfold RS.int at h ⊢
  split
  · rename_i hm
    rw [if_pos hm] at h
    unfold RS.most at h ⊢
    split
    · rfl
    · rename_i h2; rw [if_neg h2] at h; exact vint_zero h
  · rfl
theorem vint_le {s : RS} (h : ROk s) : s.at_ ≤ s.vint.1.at_ := by
  by_cases hc : s.code = 0
  · obtain ⟨X, N, C, Af, hq⟩ : ∃ X N C Af, vGet s.rest = (X, N, (C, Af)) := ⟨_, _, _, _, rfl⟩
    obtain ⟨p1, p2, p3⟩ := vint_parts h hc hq
    by_cases c0 : C = 0
    · obtain ⟨e, h1, h2, _⟩ := p1 c0
      rw [e]; show s.at_ ≤ s.at_ + N; omega
    · by_cases c1 : C = 1
      · rw [p2 c1]; exact h.at1
      · obtain ⟨e, k1, _⟩ := p3 c0 c1
        rw [e]; show s.at_ ≤ s.at_ + Af + 1; omega
  · rw [vint_bad hc]; exact Int.le_refl _
section
variable {β : Type} {F : Fmt β}
theorem counted_keep (hF : F.Ok) {s : RS} (h : ROk s) (m : Int) : ROk (F.counted m s).1 ∧ (F.counted m s).1.l = s.l := by
  obtain ⟨a, b⟩ := h.int m
  obtain ⟨c, d⟩ := many_keep hF (s.int m).2.toNat (s.int m).1 [] a trivial
  exact ⟨c, d.trans b⟩
theorem counted_bad (m : Int) {s : RS} (hc : ¬ (F.counted m s).1.code = 0) : (F.counted m s).2 = [] := many_bad_nil _ _ _ (.inr rfl) hc
theorem counted_len (hF : F.Ok) {s : RS} (h : ROk s) (m : Int) : (F.counted m s).2.length ≤ s.l.length := by
  have := many_len hF (s.int m).2.toNat (s.int m).1 (h.int m).1
  rw [(h.int m).2] at this
  exact this
theorem counted_is (hF : F.Ok) {s : RS} (h : ROk s) {m : Int} (hc : (F.counted m s).1.code = 0) : Wf F.nx [] (F.counted m s).2 ∧ ((F.counted m s).2.length : Int) ≤ m ∧ s.code = 0 ∧
    s.l.take (F.counted m s).1.at_.toNat = s.l.take s.at_.toNat ++ vb (F.counted m s).2.length ++ encs F.enc [] (F.counted m s).2 ∧ s.at_ < (F.counted m s).1.at_ := by
  obtain ⟨r, q1, q2, q3, q4, q5, q6⟩ := many_is hF (s.int m).2.toNat (s.int m).1 [] (h.int m).1 trivial hc
  obtain ⟨i1, i2, i3, i4⟩ := int_code q5
  have hv := vint_range (s := s) h.bys
  unfold Fmt.counted
  rw [q1]
  obtain ⟨v1, v2, v3⟩ := vint_bytes h i2
  have ha := vint_adv h i2
  refine ⟨q3, ?_, v3, ?_, ?_⟩
  · simp only [List.nil_append]; rw [q2, i4]; omega
  · rw [(h.int m).2] at q4
    rw [q4]
    congr 1
    rw [i4, v1]
    congr 2
    simp only [List.nil_append]
    rw [q2, i4]; omega
  · rw [i4] at q6 ⊢; omega
theorem counted_own (hF : F.Ok) {s : RS} (h : ROk s) (hc : s.code = 0) {l : List β} {m : Int} {r : List Int} (hm : (l.length : Int) ≤ m) (hl : Wf F.nx [] l) (hn : l.length < 18446744073709551616) (hr : s.rest = vb l.length ++ (encs F.enc [] l ++ r)) :
    F.counted m s = (s.adv (((vb l.length).length : Int) + (encs F.enc [] l).length), l) := by
  have hv := vint_own hc (by omega : (0 : Int) ≤ (l.length : Int)) (by omega) hr
  have hi : s.int m = (s.adv ((vb (l.length : Int)).length : Int), (l.length : Int)) := by
    unfold RS.int RS.most
    rw [if_pos (by omega), hv, if_neg (by simp only; omega)]
  have hs2 := adv_ok h hr
  unfold Fmt.counted
  rw [hi]
  simp only [Int.toNat_natCast]
  rw [many_own hF l [] _ hs2 hc trivial hl (m := r) (by rw [adv_rest h.at0, hr, List.drop_left]), adv_adv]
  rfl
end
end Go.Proofs.Ytkhnfleejgfhgaa
end
section
namespace Go.Proofs.Ytkhnfleejgfhgaa

theorem int_bytes {s : RS} (h : ROk s) {m : Int} (hc : (s.int m).1.code = 0) : s.code = 0 ∧ 0 ≤ (s.int m).2 ∧ (s.int m).2 ≤ m ∧ s.at_ < (s.int m).1.at_ ∧ s.l.take (s.int m).1.at_.toNat = s.l.take s.at_.toNat ++ vb (s.int m).2 := by
  obtain ⟨i1, i2, i3, i4⟩ := int_code hc
  have hv := vint_range (s := s) h.bys
  obtain ⟨v1, v2, v3⟩ := vint_bytes h i2
  have ha := vint_adv h i2
  rw [i4]
  exact ⟨v3, hv.1, i3, by omega, v1⟩
theorem int_own {s : RS} {x m : Int} {r : List Int} (hc : s.code = 0) (h0 : 0 ≤ x) (h1 : x ≤ m) (h2 : x < 18446744073709551616) (hr : s.rest = vb x ++ r) : s.int m = (s.adv ((vb x).length : Int), x) := by
  have hv := vint_own hc h0 h2 hr
  unfold RS.int RS.most
  rw [if_pos (by omega), hv, if_neg (by simp only; omega)]
theorem int_adv {s : RS} (h : ROk s) {m : Int} (hc : (s.int m).1.code = 0) : s.at_ + 1 ≤ (s.int m).1.at_ := by
  obtain ⟨_, _, _, h4, _⟩ := int_bytes h hc
  omega
theorem vint_code {s : RS} (h : s.vint.1.code = 0) : s.code = 0 := by
  by_cases hc : s.code = 0
  · exact hc
  · rw [vint_bad hc] at h; exact absurd h hc

/-- A list of numbers. -/
def numF : Fmt Int := ⟨fun s _ => s.vint, fun _ x => vb x, fun _ x => 0 ≤ x ∧ x < 18446744073709551616⟩
theorem numF_ok : numF.Ok := by
  refine ⟨fun s acc h _ => h.vint, fun s acc h _ hc => ?_, fun s acc x r h hc _ hx hr => vint_own hc hx.1 hx.2 hr, fun acc x _ hx => vb_by hx.1 hx.2⟩
  obtain ⟨v1, v2, v3⟩ := vint_bytes h hc
  have ha := vint_adv h hc
  exact ⟨v3, vint_range h.bys, by show s.at_ < s.vint.1.at_; omega, v1⟩
theorem numF_wf {l : List Int} : ∀ {acc : List Int}, Wf numF.nx acc l ↔ U64s l := by
  induction l with
  | nil => intro acc; simp [Wf, U64s]
  | cons x l ih =>
    intro acc
    simp only [Wf, ih]
    simp [numF, U64s]
theorem numF_encs {l : List Int} : ∀ {acc : List Int}, encs numF.enc acc l = vbs l := by
  induction l with
  | nil => intro acc; rfl
  | cons x l ih =>
    intro acc
    simp only [encs, ih]
    simp [numF, vbs]
def RS.list (s : RS) (m : Int) : RS × List Int := numF.counted m s
/-- A blob. -/
def RS.blob (s : RS) (m : Int) : RS × List Int := (s.int m).1.take (s.int m).2
def blobB (b : List Int) : List Int := vb b.length ++ b
def listB (l : List Int) : List Int := vb l.length ++ vbs l

theorem RS.ok.blob {s : RS} (h : ROk s) (m : Int) : ROk (s.blob m).1 ∧ (s.blob m).1.l = s.l := by
  obtain ⟨a, b⟩ := h.int m
  exact ⟨a.take _, ((a.ok.take _).2).trans b⟩
theorem take_good {s : RS} {n : Int} (h : (s.take n).1.code = 0) : s.code = 0 ∧ 0 ≤ n ∧ n ≤ s.left ∧ s.take n = (s.adv n, (s.l.drop s.at_.toNat).take n.toNat) := by
  have hy : (s.skip n).2 = true := by
    cases hs : (s.skip n).2 with
    | true => rfl
    | false =>
      exfalso
      unfold RS.take at h
      rw [hs] at h
      simp only [Bool.false_eq_true, if_false] at h
      unfold RS.skip at h hs
      by_cases hc : s.code = 0
      · rw [if_pos hc] at h hs
        by_cases h2 : n < 0
        · rw [if_pos h2] at h; simp [RS.fail, hc, flt] at h
        · rw [if_neg h2] at h hs
          by_cases h3 : s.left < n
          · rw [if_pos h3] at h; simp [RS.fail, hc, flt] at h
          · rw [if_neg h3] at hs; simp at hs
      · rw [if_neg hc] at h; exact hc h
  obtain ⟨h1, h2, h3, h4⟩ := skip_yes hy
  refine ⟨h1, h2, h3, ?_⟩
  unfold RS.take
  rw [if_pos hy, h4]
  rfl
theorem take_own {s : RS} (h : ROk s) (hc : s.code = 0) {b r : List Int} (hr : s.rest = b ++ r) : s.take (b.length : Int) = (s.adv (b.length : Int), b) := by
  have hl := rest_len s h.at0 h.at1
  rw [hr, List.length_append] at hl
  have hs : s.skip (b.length : Int) = (s.adv (b.length : Int), true) := by
    unfold RS.skip RS.left
    rw [if_pos hc, if_neg (by omega), if_neg (by omega)]
    rfl
  unfold RS.take
  rw [hs]
  simp only [if_true]
  unfold RS.rest at hr
  rw [hr]
  simp
theorem take_bad {s : RS} {n : Int} (h : (s.take n).1.code ≠ 0) : (s.take n).2 = [] := by
  unfold RS.take at h ⊢
  split
  · rename_i hy
    rw [if_pos hy] at h
    obtain ⟨h1, _, _, h4⟩ := skip_yes hy
    rw [h4] at h
    exact absurd h1 h
  · rfl
theorem take_code {s : RS} {n : Int} (h : s.code ≠ 0) : s.take n = (s, []) := by
  have : s.skip n = (s, false) := by unfold RS.skip; rw [if_neg h]
  unfold RS.take; rw [this]; simp
theorem take_bytes {s : RS} (h : ROk s) {n : Int} (hc : (s.take n).1.code = 0) : s.code = 0 ∧ 0 ≤ n ∧ ((s.take n).2.length : Int) = n ∧ (s.take n).1.at_ = s.at_ + n ∧ s.l.take (s.take n).1.at_.toNat = s.l.take s.at_.toNat ++ (s.take n).2 := by
  obtain ⟨h1, h2, h3, h4⟩ := take_good hc
  have h0 := h.at0
  unfold RS.left at h3
  rw [h4]
  refine ⟨h1, h2, ?_, rfl, ?_⟩
  · simp; omega
  · show s.l.take (s.at_ + n).toNat = _
    rw [show (s.at_ + n).toNat = s.at_.toNat + n.toNat from by omega, List.take_add]
theorem blob_is {s : RS} (h : ROk s) {m : Int} (hc : (s.blob m).1.code = 0) : s.code = 0 ∧ ((s.blob m).2.length : Int) ≤ m ∧ s.at_ < (s.blob m).1.at_ ∧ s.l.take (s.blob m).1.at_.toNat = s.l.take s.at_.toNat ++ blobB (s.blob m).2 := by
  unfold RS.blob at hc ⊢
  obtain ⟨a, b⟩ := h.int m
  obtain ⟨h1, h2, h3, h4, h5⟩ := take_bytes a hc
  obtain ⟨i1, i2, i3, i4, i5⟩ := int_bytes h h1
  refine ⟨i1, by omega, by omega, ?_⟩
  rw [b] at h5
  rw [h5, i5, List.append_assoc]
  unfold blobB
  rw [h3]
theorem blob_own {s : RS} (h : ROk s) (hc : s.code = 0) {b r : List Int} {m : Int} (hm : (b.length : Int) ≤ m) (hn : b.length < 18446744073709551616) (hr : s.rest = blobB b ++ r) : s.blob m = (s.adv ((blobB b).length : Int), b) := by
  unfold blobB at hr
  rw [List.append_assoc] at hr
  have hi := int_own hc (by omega) hm (by omega) hr
  have hs2 := adv_ok h hr
  unfold RS.blob
  rw [hi]
  simp only
  rw [take_own hs2 hc (r := r) (by rw [adv_rest h.at0, hr, List.drop_left]), adv_adv]
  unfold blobB
  rw [List.length_append]
  simp
theorem blob_len {s : RS} (m : Int) : (s.blob m).2.length ≤ s.l.length ∨ True := .inr trivial
theorem blob_short {s : RS} (h : ROk s) (m : Int) : (s.blob m).2.length ≤ s.l.length ∧ Bys (s.blob m).2 := by
  obtain ⟨a, b⟩ := h.int m
  unfold RS.blob
  refine ⟨?_, take_bys a.bys _⟩
  have := take_len (s.int m).1 (s.int m).2
  rw [b] at this; exact this
theorem blob_bad {s : RS} {m : Int} (hc : (s.blob m).1.code ≠ 0) : (s.blob m).2 = [] := take_bad hc

/-- A fixed number out of bytes, the lowest first. -/
def fixOf : List Int → Int
  | [] => 0
  | c :: l => c + 256 * fixOf l
theorem fixOf_range : ∀ {l : List Int}, Bys l → 0 ≤ fixOf l ∧ fixOf l < 256 ^ l.length := by
  intro l
  induction l with
  | nil => intro _; simp [fixOf]
  | cons c l ih =>
    intro h
    have hc := h c (List.mem_cons_self ..)
    have := ih fun x hx => h x (List.mem_cons_of_mem _ hx)
    simp only [fixOf, List.length_cons, Int.pow_succ]
    omega
theorem fixOf_snoc (l : List Int) (c : Int) : fixOf (l ++ [c]) = fixOf l + 256 ^ l.length * c := by
  induction l with
  | nil => simp [fixOf]
  | cons x l ih =>
    simp only [List.cons_append, fixOf, ih, List.length_cons, Int.pow_succ, Int.mul_add]
    rw [Int.mul_comm (256 ^ l.length) 256, Int.mul_assoc, Int.add_assoc]
theorem fixOf_low (n : Nat) : ∀ x : Int, 0 ≤ x → x < 256 ^ n → fixOf (lowBytes n x) = x := by
  induction n with
  | zero => intro x h0 h1; simp [lowBytes, fixOf] at *; omega
  | succ n ih =>
    intro x h0 h1
    rw [Int.pow_succ] at h1
    simp only [lowBytes, fixOf]
    rw [ih (x / 256) (by omega) (by omega)]
    omega
theorem low_fixOf : ∀ {l : List Int}, Bys l → lowBytes l.length (fixOf l) = l := by
  intro l
  induction l with
  | nil => intro _; rfl
  | cons c l ih =>
    intro h
    have hc := h c (List.mem_cons_self ..)
    have := ih fun x hx => h x (List.mem_cons_of_mem _ hx)
    simp only [List.length_cons, lowBytes, fixOf]
    have e1 : (c + 256 * fixOf l) % 256 = c := by omega
    have e2 : (c + 256 * fixOf l) / 256 = fixOf l := by omega
    rw [e1, e2, this]
/-- A writer whose bound is small. -/
structure WS.fine (s : WS) : Prop where
  m0 : 0 ≤ s.most
  m1 : s.most ≤ 140737488355328
  le : s.l.length ≤ s.most
theorem WS.fine.ok {s : WS} (h : s.fine) : s.ok := ⟨h.m0, by have := h.m1; omega, h.le⟩
theorem WS.fine.new {n : Int} (h : n ≤ 140737488355328) : (WS.new n).fine := ⟨by simp [WS.new]; omega, by simp [WS.new]; omega, by simp [WS.new]; omega⟩
theorem WS.fine.put {s : WS} (h : s.fine) (m : List Int) : (s.put m).fine := ⟨by rw [put_most]; exact h.m0, by rw [put_most]; exact h.m1, (h.ok.put m).2.2⟩
theorem WS.fine.fail {s : WS} (h : s.fine) (c : Int) : (s.fail c).fine := by
  obtain ⟨a, b⟩ := fail_parts s c
  exact ⟨by rw [a]; exact h.m0, by rw [a]; exact h.m1, by rw [a, b]; exact h.le⟩
theorem WS.fine.puts {s : WS} (h : s.fine) (l : List Int) : (s.puts l).fine := by
  induction l generalizing s with
  | nil => exact h
  | cons x l ih => exact ih (s := s.put (vb x)) (h.put _)
theorem WS.fine.room {s : WS} (h : s.fine) (k : Nat) : (s.l.length : Int) + k ≤ s.most → s.l.length + k ≤ 140737488355328 := fun hk => by have := h.m1; omega
theorem WS.fine.len {s : WS} (h : s.fine) : s.l.length ≤ 140737488355328 := by have := h.m1; have := h.le; omega
theorem puts_append (s : WS) (l m : List Int) : s.puts (l ++ m) = (s.puts l).puts m := by simp [WS.puts]
theorem puts_one (s : WS) (x : Int) : s.puts [x] = s.put (vb x) := by simp [WS.puts]
theorem WS.new_l (n : Int) : (WS.new n).l = [] := rfl
def RS.fixed (s : RS) (n : Int) : RS × Int := ((s.take n).1, fixOf (s.take n).2)
end Go.Proofs.Ytkhnfleejgfhgaa
end
