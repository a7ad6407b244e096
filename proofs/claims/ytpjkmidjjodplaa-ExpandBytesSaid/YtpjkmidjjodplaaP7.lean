/-
  Plain laws of things that are read to the end; tokens and the bytes that they make. No program.
-/
import Derived.Test.YtpjkmidjjodplaaP5
set_option linter.all false
set_option linter.unusedSimpArgs false
set_option linter.unusedVariables false
set_option linter.unnecessarySimpa false
namespace Go.Proofs.Ytpjkmidjjodplaa

section
variable {β : Type} {F : Fmt β}
/-- Things read till nothing is left, or one can't be read. -/
def Fmt.all (F : Fmt β) : Nat → RS → List β → RS × List β
  | 0, s, acc => (s, acc)
  | n + 1, s, acc => if s.code = 0 ∧ 0 < s.left then (if (F.f s acc).1.code = 0 then F.all n (F.f s acc).1 (acc ++ [(F.f s acc).2]) else ((F.f s acc).1, [])) else (s, acc)
theorem left_ge {s : RS} (h : ROk s) : 0 ≤ s.left := by have := h.at1; unfold RS.left; omega
theorem all_done {n : Nat} {s : RS} {acc : List β} (h : ¬ (s.code = 0 ∧ 0 < s.left)) : F.all n s acc = (s, acc) := by
  cases n with
  | zero => rfl
  | succ n => rw [Fmt.all, if_neg h]
theorem all_more (hF : F.Ok) : ∀ (n m : Nat) (s : RS) (acc : List β), ROk s → Wf F.nx [] acc → s.left ≤ n → s.left ≤ m → F.all n s acc = F.all m s acc := by
  intro n
  induction n with
  | zero => intro m s acc h _ h1 h2; rw [all_done (n := m) (by omega)]; rfl
  | succ n ih =>
    intro m s acc h hw h1 h2
    by_cases hc : s.code = 0 ∧ 0 < s.left
    · obtain ⟨k, rfl⟩ : ∃ k, m = k + 1 := ⟨m - 1, by omega⟩
      rw [Fmt.all, Fmt.all, if_pos hc, if_pos hc]
      by_cases hn : (F.f s acc).1.code = 0
      · rw [if_pos hn, if_pos hn]
        obtain ⟨k1, k2⟩ := hF.keep s acc h hw
        obtain ⟨r1, r2, r3, r4⟩ := hF.read s acc h hw hn
        have hl : (F.f s acc).1.left < s.left := by unfold RS.left; rw [k2]; omega
        exact ih k _ _ k1 (wf_snoc.2 ⟨hw, by simpa using r2⟩) (by omega) (by omega)
      · rw [if_neg hn, if_neg hn]
    · rw [all_done hc, all_done hc]
/-- All that is left. -/
def Fmt.rest (F : Fmt β) (s : RS) (acc : List β) : RS × List β := F.all s.left.toNat s acc
theorem rest_step (hF : F.Ok) {s : RS} {acc : List β} (h : ROk s) (hw : Wf F.nx [] acc) (hc : s.code = 0) (hl : 0 < s.left) (hn : (F.f s acc).1.code = 0) : F.rest s acc = F.rest (F.f s acc).1 (acc ++ [(F.f s acc).2]) := by
  obtain ⟨k1, k2⟩ := hF.keep s acc h hw
  obtain ⟨r1, r2, r3, r4⟩ := hF.read s acc h hw hn
  have hl2 : (F.f s acc).1.left < s.left := by unfold RS.left; rw [k2]; omega
  have hge := left_ge k1
  unfold Fmt.rest
  obtain ⟨k, hk⟩ : ∃ k, s.left.toNat = k + 1 := ⟨s.left.toNat - 1, by omega⟩
  rw [hk, Fmt.all, if_pos ⟨hc, hl⟩, if_pos hn]
  exact all_more hF _ _ _ _ k1 (wf_snoc.2 ⟨hw, by simpa using r2⟩) (by omega) (by omega)
theorem rest_bad {s : RS} {acc : List β} (hc : s.code = 0) (hl : 0 < s.left) (hn : ¬ (F.f s acc).1.code = 0) : F.rest s acc = ((F.f s acc).1, []) := by
  unfold Fmt.rest
  obtain ⟨k, hk⟩ : ∃ k, s.left.toNat = k + 1 := ⟨s.left.toNat - 1, by omega⟩
  rw [hk, Fmt.all, if_pos ⟨hc, hl⟩, if_neg hn]
theorem rest_end {s : RS} {acc : List β} (h : ¬ (s.code = 0 ∧ 0 < s.left)) : F.rest s acc = (s, acc) := all_done h
/-- What is borne at each round. -/
structure Fmt.Al (F : Fmt β) (s : RS) (a : RS × List β) : Prop where
  ok : ROk a.1
  l : a.1.l = s.l
  adv : (a.2.length : Int) ≤ a.1.at_
  code : a.1.code = 0
  wf : Wf F.nx [] a.2
  res : F.rest a.1 a.2 = F.rest s []
  byt : s.l.take a.1.at_.toNat = s.l.take s.at_.toNat ++ encs F.enc [] a.2
theorem Fmt.Al.start {s : RS} (h : ROk s) (hc : s.code = 0) : F.Al s (s, []) := ⟨h, rfl, by simpa using h.at0, hc, trivial, rfl, by simp [encs]⟩
theorem Fmt.Al.next {s t : RS} {acc : List β} (hF : F.Ok) (h : F.Al s (t, acc)) (hl : 0 < t.left) (hc : (F.f t acc).1.code = 0) : F.Al s ((F.f t acc).1, acc ++ [(F.f t acc).2]) ∧ (F.f t acc).1.left < t.left := by
  obtain ⟨h1, h2, h3, h4, h5, h6, h7⟩ := h
  simp only at h1 h2 h3 h4 h5 h6 h7
  obtain ⟨k1, k2⟩ := hF.keep t acc h1 h5
  obtain ⟨r1, r2, r3, r4⟩ := hF.read t acc h1 h5 hc
  refine ⟨⟨k1, k2.trans h2, by simp; omega, hc, wf_snoc.2 ⟨h5, by simpa using r2⟩, ?_, ?_⟩, by unfold RS.left; rw [k2]; omega⟩
  · rw [← h6]; exact (rest_step hF h1 h5 h4 hl hc).symm
  · rw [h2] at r4
    rw [r4, h7, encs_snoc]
    simp
theorem Fmt.Al.len {s t : RS} {acc : List β} (h : F.Al s (t, acc)) : acc.length ≤ s.l.length := by
  have h1 := h.ok.at1
  have h2 := h.l
  have h3 := h.adv
  simp only at h1 h2 h3
  rw [h2] at h1
  omega
/-- What has been read to the end: it is well-formed, and is so written. -/
theorem rest_is (hF : F.Ok) {s : RS} (h : ROk s) (hc0 : s.code = 0) : (¬ (F.rest s []).1.code = 0 ∧ (F.rest s []).2 = []) ∨ ((F.rest s []).1.code = 0 ∧ Wf F.nx [] (F.rest s []).2 ∧ s.rest = encs F.enc [] (F.rest s []).2 ∧ (F.rest s []).2.length ≤ s.l.length) := by
  have gen : ∀ (n : Nat) (t : RS) (acc : List β), F.Al s (t, acc) → t.left ≤ n → (¬ (F.rest s []).1.code = 0 ∧ (F.rest s []).2 = []) ∨ ((F.rest s []).1.code = 0 ∧ Wf F.nx [] (F.rest s []).2 ∧ s.rest = encs F.enc [] (F.rest s []).2 ∧ (F.rest s []).2.length ≤ s.l.length) := by
    intro n
    induction n with
    | zero =>
      intro t acc ha hn
      have hr := ha.res
      simp only at hr
      rw [rest_end (by omega)] at hr
      right
      rw [← hr]
      refine ⟨ha.code, ha.wf, ?_, ha.len⟩
      have hb := ha.byt
      have h1 := ha.ok.at1
      have h2 := ha.l
      simp only at hb h1 h2
      have : t.at_.toNat = s.l.length := by unfold RS.left at hn; rw [h2] at hn h1; have := ha.ok.at0; simp only at this; omega
      rw [this, List.take_length] at hb
      have e := List.take_append_drop s.at_.toNat s.l
      exact List.append_cancel_left (e.trans hb)
    | succ n ih =>
      intro t acc ha hn
      by_cases hl : 0 < t.left
      · by_cases hc : (F.f t acc).1.code = 0
        · obtain ⟨h1, h2⟩ := ha.next hF hl hc
          exact ih _ _ h1 (by omega)
        · left
          have hr := ha.res
          simp only at hr
          rw [rest_bad ha.code hl hc] at hr
          rw [← hr]
          exact ⟨hc, rfl⟩
      · exact ih t acc ha (by have := left_ge ha.ok; simp only at this; omega)
  exact gen s.left.toNat s [] (Fmt.Al.start h hc0) (by have := left_ge h; omega)
theorem rest_own (hF : F.Ok) (hp : ∀ acc x, F.nx acc x → 0 < (F.enc acc x).length) : ∀ (l acc : List β) (s : RS), ROk s → s.code = 0 → Wf F.nx [] acc → Wf F.nx acc l → s.rest = encs F.enc acc l → F.rest s acc = (s.adv ((encs F.enc acc l).length : Int), acc ++ l) := by
  intro l
  induction l with
  | nil =>
    intro acc s hs hc hw _ hr
    have hl := rest_len s hs.at0 hs.at1
    rw [hr] at hl
    simp only [encs, List.length_nil] at hl
    rw [rest_end (by unfold RS.left; omega)]
    simp [encs, RS.adv]
  | cons x l ih =>
    intro acc s hs hc hw hl hr
    simp only [encs] at hr
    have h1 := hF.own s acc x _ hs hc hw hl.1 hr
    have hs2 := adv_ok hs hr
    have hpx := hp acc x hl.1
    have hlen := rest_len s hs.at0 hs.at1
    rw [hr, List.length_append] at hlen
    have hleft : 0 < s.left := by unfold RS.left; omega
    have hc2 : (s.adv ((F.enc acc x).length : Int)).code = 0 := hc
    rw [rest_step hF hs hw hc hleft (by rw [h1]; exact hc2), h1]
    simp only
    rw [ih (acc ++ [x]) _ hs2 hc2 (wf_snoc.2 ⟨hw, by simpa using hl.1⟩) hl.2 (by rw [adv_rest hs.at0, hr, List.drop_left]), adv_adv, encs, List.length_append]
    simp
end

def tokF : Fmt Tk := ⟨fun s _ => s.token, fun _ t => tokB t, fun _ t => t.right = true ∧ Bys t.lit⟩
theorem tokB_pos (t : Tk) : 0 < (tokB t).length := by
  unfold tokB
  split
  · have := (vb_len (2 * (t.lit.length : Int) - 2)).1; simp; omega
  · have := (vb_len (2 * t.len - 7)).1; simp; omega
theorem tokB_bys {t : Tk} (h : t.right = true) (hb : Bys t.lit) : Bys (tokB t) := by
  intro y hy
  unfold tokB at hy
  split at hy
  · rename_i hr
    have := run_iff.1 hr
    rcases List.mem_append.1 hy with hy | hy
    · exact vb_by (by omega) (by omega) y hy
    · exact hb y hy
  · rename_i hr
    rcases right_iff.1 h with h | h
    · exact absurd h hr
    · have := copy_iff.1 h
      rcases List.mem_append.1 hy with hy | hy
      · exact vb_by (by omega) (by omega) y hy
      · exact vb_by (by omega) (by omega) y hy
theorem tokF_ok : tokF.Ok := by
  refine ⟨fun s acc h _ => token_keep h, fun s acc h _ hc => ?_, fun s acc x r h hc _ hx hr => token_own h hc hx.1 hr, fun acc x _ hx => tokB_bys hx.1 hx.2⟩
  obtain ⟨h1, h2, h3, h4, h5⟩ := token_is h hc
  exact ⟨h1, ⟨h2, h3⟩, h4, h5⟩
def toksB (l : List Tk) : List Int := l.flatMap tokB
theorem tok_encs : ∀ (l acc : List Tk), encs tokF.enc acc l = toksB l := by
  intro l
  induction l with
  | nil => intro acc; rfl
  | cons x l ih => intro acc; simp only [encs, ih]; simp [tokF, toksB]
theorem tok_wf : ∀ {l acc : List Tk}, Wf tokF.nx acc l ↔ ∀ t ∈ l, t.right = true ∧ Bys t.lit := by
  intro l
  induction l with
  | nil => intro acc; simp [Wf]
  | cons x l ih =>
    intro acc
    simp only [Wf, ih]
    simp [tokF]
/-- The tokens of which bytes consist, and the fault. -/
def getT (b : List Int) : List Tk × (Int × Int) := if (tokF.rest (RS.new b) []).1.code = 0 then ((tokF.rest (RS.new b) []).2, (0, 0)) else ([], ((tokF.rest (RS.new b) []).1.code, (tokF.rest (RS.new b) []).1.fat))

/-- Bytes once more, from some back on. -/
def again (out : List Int) (off : Nat) : Nat → List Int
  | 0 => out
  | n + 1 => again (out ++ [out.getD (out.length - off) 0]) off n
theorem again_len (off : Nat) : ∀ (n : Nat) (out : List Int), (again out off n).length = out.length + n := by
  intro n
  induction n with
  | zero => intro out; rfl
  | succ n ih => intro out; simp only [again, ih, List.length_append, List.length_singleton]; omega
theorem again_pre (off : Nat) : ∀ (n : Nat) (out : List Int), ∃ r, again out off n = out ++ r := by
  intro n
  induction n with
  | zero => intro out; exact ⟨[], by simp [again]⟩
  | succ n ih =>
    intro out
    obtain ⟨r, hr⟩ := ih (out ++ [out.getD (out.length - off) 0])
    exact ⟨out.getD (out.length - off) 0 :: r, by rw [again, hr]; simp⟩
theorem again_bys (off : Nat) : ∀ (n : Nat) (out : List Int), Bys out → Bys (again out off n) := by
  intro n
  induction n with
  | zero => intro out h; exact h
  | succ n ih =>
    intro out h
    refine ih _ fun y hy => ?_
    rcases List.mem_append.1 hy with hy | hy
    · exact h y hy
    · simp only [List.mem_singleton] at hy
      subst hy
      rcases Nat.lt_or_ge (out.length - off) out.length with h1 | h1
      · exact h _ (getD_mem _ _ h1)
      · simp [List.getElem?_eq_none h1]
theorem again_snoc (off : Nat) : ∀ (n : Nat) (out : List Int), again out off (n + 1) = again out off n ++ [(again out off n).getD ((again out off n).length - off) 0] := by
  intro n
  induction n with
  | zero => intro out; rfl
  | succ n ih => intro out; rw [again, ih, ← again]
/-- Some bytes with a token's behind them. -/
def expW (out : List Int) (t : Tk) : List Int := again (out ++ t.lit) t.off.toNat t.len.toNat
theorem expW_len (out : List Int) {t : Tk} (h : t.right = true) : ((expW out t).length : Int) = out.length + t.made := by
  unfold expW
  rw [again_len, List.length_append]
  unfold Tk.made
  rcases right_iff.1 h with h | h
  · rw [if_pos h]; have := run_iff.1 h; omega
  · have hn : t.run = false := by
      cases q : t.run with
      | false => rfl
      | true => rw [run_not_copy q] at h; cases h
    have := copy_iff.1 h
    rw [hn, if_neg (by simp), if_pos h, this.1]
    simp
    omega
theorem made_pos {t : Tk} (h : t.right = true) : 1 ≤ t.made ∧ t.made ≤ 1048576 := by
  unfold Tk.made
  rcases right_iff.1 h with h | h
  · rw [if_pos h]; have := run_iff.1 h; omega
  · have hn : t.run = false := by
      cases q : t.run with
      | false => rfl
      | true => rw [run_not_copy q] at h; cases h
    have := copy_iff.1 h
    rw [hn, if_neg (by simp), if_pos h]; omega
theorem made_zero {t : Tk} (h : t.right = false) : t.made = 0 := by
  have h1 : t.run = false ∧ t.copy = false := by simpa [Tk.right] using h
  unfold Tk.made; rw [h1.1, h1.2]; simp
theorem made_ge {t : Tk} : 0 ≤ t.made := by
  cases h : t.right with
  | false => rw [made_zero h]; simp
  | true => have := made_pos h; omega
/-- What is wrong with a token behind so many bytes. -/
def wrongT (t : Tk) (made bound : Int) : Int := if t.right = false then 3 else if bound < made + t.made then 11 else if made < t.off then 10 else 0
/-- The bytes of tokens behind some, the fault (its place: the token's). -/
def expFrom (bound : Int) : List Tk → Nat → List Int → List Int × (Int × Int)
  | [], _, out => (out, (0, 0))
  | t :: l, i, out => if wrongT t out.length bound = 0 then expFrom bound l (i + 1) (expW out t) else ([], (wrongT t out.length bound, (i : Int)))
def expT (l : List Tk) (bound : Int) : List Int × (Int × Int) := expFrom bound l 0 []
theorem exp_step {l : List Tk} {bound : Int} {k : Nat} {out : List Int} (h : k < l.length) (hw : wrongT (l.getD k tk0) out.length bound = 0) : expFrom bound (l.drop k) k out = expFrom bound (l.drop (k + 1)) (k + 1) (expW out (l.getD k tk0)) := by
  have e : l.drop k = l.getD k tk0 :: l.drop (k + 1) := by rw [List.drop_eq_getElem_cons h]; simp [h]
  rw [e, expFrom, if_pos hw]
theorem exp_stop {l : List Tk} {bound : Int} {k : Nat} {out : List Int} (h : k < l.length) (hw : ¬ wrongT (l.getD k tk0) out.length bound = 0) : expFrom bound (l.drop k) k out = ([], (wrongT (l.getD k tk0) out.length bound, (k : Int))) := by
  have e : l.drop k = l.getD k tk0 :: l.drop (k + 1) := by rw [List.drop_eq_getElem_cons h]; simp [h]
  rw [e, expFrom, if_neg hw]
theorem wrongT_zero {t : Tk} {made bound : Int} (h : wrongT t made bound = 0) : t.right = true ∧ made + t.made ≤ bound ∧ t.off ≤ made := by
  unfold wrongT at h
  split at h
  · simp at h
  · rename_i h1
    split at h
    · simp at h
    · split at h
      · simp at h
      · exact ⟨by simpa using h1, by omega, by omega⟩
end Go.Proofs.Ytpjkmidjjodplaa
