/-
  Plain laws of chapter 32: marks. No program.
-/
import Derived.Test.YtgphhganepjaiaaP3
set_option linter.all false
set_option linter.unusedSimpArgs false
set_option linter.unusedVariables false
set_option linter.unnecessarySimpa false
section
namespace Go.Proofs.Ytgphhganepjaiaa

structure Mk where
  pos : Int
  cnt : Int
  at_ : Int
deriving DecidableEq
def Mk.fin (m : Mk) : Int := m.pos + m.cnt
def Mk.ok (m : Mk) : Prop := 0 ≤ m.pos ∧ m.pos < 18446744073709551616 ∧ -9223372036854775808 ≤ m.cnt ∧ m.cnt < 9223372036854775808 ∧ -9223372036854775808 ≤ m.at_ ∧ m.at_ < 9223372036854775808
def mk0 : Mk := ⟨0, 0, 0⟩
/-- May a mark stand behind a position and a place? -/
def Mk.fits (m : Mk) (pos at_ : Int) : Prop := 1 ≤ m.cnt ∧ m.cnt ≤ 16 ∧ pos ≤ m.pos ∧ m.pos + m.cnt ≤ 4611686018427387904 ∧ at_ < m.at_ ∧ m.at_ ≤ 1099511627775
instance (m : Mk) (pos at_ : Int) : Decidable (m.fits pos at_) := by unfold Mk.fits; infer_instance
def lastM (acc : List Mk) : Mk := acc.getLastD mk0
theorem lastM_nil : lastM [] = mk0 := rfl
theorem lastM_snoc (acc : List Mk) (m : Mk) : lastM (acc ++ [m]) = m := by simp [lastM]
def markNx (acc : List Mk) (m : Mk) : Prop := m.fits (lastM acc).fin (lastM acc).at_
def markEnc (acc : List Mk) (m : Mk) : List Int := vb (m.pos - (lastM acc).fin) ++ (vb m.cnt ++ vb (m.at_ - (lastM acc).at_ - 1))
/-- The readers behind the three numbers of a mark, and these. -/
def RS.m3 (s : RS) : RS := ((s.vint.1.int 16).1.int 1099511627775).1
def RS.mBy (s : RS) : Int := s.vint.2
def RS.mCnt (s : RS) : Int := (s.vint.1.int 16).2
def RS.mOn (s : RS) : Int := ((s.vint.1.int 16).1.int 1099511627775).2
def RS.mark (s : RS) (p : Mk) : Mk := ⟨p.fin + s.mBy, s.mCnt, p.at_ + s.mOn + 1⟩
def markF : Fmt Mk :=
  ⟨fun s acc => if s.m3.code = 0 ∧ ¬ (s.mark (lastM acc)).fits (lastM acc).fin (lastM acc).at_ then (s.m3.fail 3 s.at_, mk0) else (s.m3, s.mark (lastM acc)), markEnc, markNx⟩
theorem m3_keep {s : RS} (h : ROk s) : ROk s.m3 ∧ s.m3.l = s.l := by
  obtain ⟨a, b⟩ := h.vint
  obtain ⟨c, d⟩ := a.int 16
  obtain ⟨e, f⟩ := c.int 1099511627775
  exact ⟨e, f.trans (d.trans b)⟩
theorem mark_last {acc : List Mk} (h : Wf markNx [] acc) : 0 ≤ (lastM acc).fin ∧ (lastM acc).fin ≤ 4611686018427387904 ∧ 0 ≤ (lastM acc).at_ ∧ (lastM acc).at_ ≤ 1099511627775 ∧ 0 ≤ (lastM acc).pos ∧ 0 ≤ (lastM acc).cnt := by
  have gen : ∀ n, ∀ acc : List Mk, acc.length = n → Wf markNx [] acc → 0 ≤ (lastM acc).fin ∧ (lastM acc).fin ≤ 4611686018427387904 ∧ 0 ≤ (lastM acc).at_ ∧ (lastM acc).at_ ≤ 1099511627775 ∧ 0 ≤ (lastM acc).pos ∧ 0 ≤ (lastM acc).cnt := by
    intro n
    induction n with
    | zero => intro acc h _; rw [List.eq_nil_of_length_eq_zero h]; decide
    | succ n ih =>
      intro acc h hw
      rcases List.eq_nil_or_concat acc with rfl | ⟨l, x, rfl⟩
      · simp at h
      · rw [List.concat_eq_append] at h hw ⊢
        obtain ⟨h1, h2⟩ := wf_snoc.1 hw
        have := ih l (by simpa using h) h1
        rw [lastM_snoc]
        have h3 : x.fits (lastM ([] ++ l)).fin (lastM ([] ++ l)).at_ := h2
        simp only [List.nil_append] at h3
        obtain ⟨q1, q2, q3, q4, q5, q6⟩ := h3
        unfold Mk.fin at *
        omega
  exact gen _ acc rfl h
theorem mark_num {s : RS} (h : ROk s) : 0 ≤ s.mBy ∧ s.mBy < 18446744073709551616 ∧ 0 ≤ s.mCnt ∧ s.mCnt ≤ 16 ∧ 0 ≤ s.mOn ∧ s.mOn ≤ 1099511627775 := by
  have a := vint_range (s := s) h.bys
  have b := int_range (s := s.vint.1) (m := 16) h.vint.1.bys
  have c := int_range (s := (s.vint.1.int 16).1) (m := 1099511627775) (h.vint.1.int 16).1.bys
  unfold RS.mBy RS.mCnt RS.mOn
  omega
theorem m3_code {s : RS} (h : ROk s) (hc : s.m3.code = 0) : s.code = 0 ∧ s.vint.1.code = 0 ∧ (s.vint.1.int 16).1.code = 0 ∧ s.at_ < s.m3.at_ ∧ s.l.take s.m3.at_.toNat = s.l.take s.at_.toNat ++ (vb s.mBy ++ (vb s.mCnt ++ vb s.mOn)) := by
  obtain ⟨a, b⟩ := h.vint
  obtain ⟨c, d⟩ := a.int 16
  obtain ⟨i1, i2, i3, i4, i5⟩ := int_bytes c hc
  obtain ⟨j1, j2, j3, j4, j5⟩ := int_bytes a i1
  obtain ⟨v1, v2, v3⟩ := vint_bytes h j1
  have ha := vint_adv h j1
  refine ⟨v3, j1, i1, by unfold RS.m3; omega, ?_⟩
  rw [d, b] at i5
  rw [b] at j5
  unfold RS.m3 RS.mBy RS.mCnt RS.mOn
  rw [i5, j5, v1]
  simp
theorem markF_ok : markF.Ok := by
  refine ⟨fun s acc h _ => ?_, fun s acc h hw hc => ?_, fun s acc x r h hc hw hx hr => ?_, fun acc x hw hx => ?_⟩
  · obtain ⟨a, c⟩ := m3_keep h
    simp only [markF]
    split
    · exact ⟨a.fail _ _, by rw [fail_l]; exact c⟩
    · exact ⟨a, c⟩
  · simp only [markF] at hc ⊢
    by_cases hf : s.m3.code = 0 ∧ ¬ (s.mark (lastM acc)).fits (lastM acc).fin (lastM acc).at_
    · rw [if_pos hf] at hc; exact absurd hc (fail_not0 _ _ hf.1 (by decide))
    · rw [if_neg hf] at hc ⊢
      obtain ⟨v1, v2, v3, v4, v5⟩ := m3_code h hc
      have hfit : (s.mark (lastM acc)).fits (lastM acc).fin (lastM acc).at_ := by
        by_cases hq : (s.mark (lastM acc)).fits (lastM acc).fin (lastM acc).at_
        · exact hq
        · exact absurd ⟨hc, hq⟩ hf
      refine ⟨v1, hfit, v4, ?_⟩
      simp only
      rw [v5]
      congr 1
      unfold markEnc RS.mark
      simp only
      rw [show (lastM acc).fin + s.mBy - (lastM acc).fin = s.mBy from by omega, show (lastM acc).at_ + s.mOn + 1 - (lastM acc).at_ - 1 = s.mOn from by omega]
  · have hl := mark_last hw
    have hx' := hx
    obtain ⟨q1, q2, q3, q4, q5, q6⟩ := hx'
    simp only [markF, markEnc, List.append_assoc] at hr ⊢
    have v := vint_own hc (by omega) (by omega) hr
    have a := adv_ok h hr
    have hr2 : (s.adv ((vb (x.pos - (lastM acc).fin)).length : Int)).rest = vb x.cnt ++ (vb (x.at_ - (lastM acc).at_ - 1) ++ r) := by rw [adv_rest h.at0, hr, List.drop_left]
    have i := int_own (m := 16) (show (s.adv ((vb (x.pos - (lastM acc).fin)).length : Int)).code = 0 from hc) (by omega) (by omega) (by omega) hr2
    have b := adv_ok a hr2
    have hr3 : ((s.adv ((vb (x.pos - (lastM acc).fin)).length : Int)).adv ((vb x.cnt).length : Int)).rest = vb (x.at_ - (lastM acc).at_ - 1) ++ r := by rw [adv_rest a.at0, hr2, List.drop_left]
    have j := int_own (m := 1099511627775) (show ((s.adv ((vb (x.pos - (lastM acc).fin)).length : Int)).adv ((vb x.cnt).length : Int)).code = 0 from hc) (by omega) (by omega) (by omega) hr3
    have e3 : s.m3 = s.adv ((vb (x.pos - (lastM acc).fin) ++ (vb x.cnt ++ vb (x.at_ - (lastM acc).at_ - 1))).length : Int) := by
      unfold RS.m3; rw [v]; simp only; rw [i]; simp only; rw [j]; simp only [adv_adv, List.length_append]; congr 1; omega
    have eb : s.mark (lastM acc) = x := by
      unfold RS.mark RS.mBy RS.mCnt RS.mOn
      rw [v]; simp only; rw [i]; simp only; rw [j]
      cases x
      simp only [Mk.mk.injEq]
      refine ⟨by omega, trivial, by omega⟩
    rw [eb, e3, if_neg (fun hh => hh.2 hx)]
  · have hl := mark_last hw
    obtain ⟨q1, q2, q3, q4, q5, q6⟩ := hx
    intro y hy
    simp only [markF, markEnc, List.mem_append] at hy
    rcases hy with hy | hy | hy
    · exact vb_by (by omega) (by omega) y hy
    · exact vb_by (by omega) (by omega) y hy
    · exact vb_by (by omega) (by omega) y hy
/-- Are marks well-formed, behind a position and a place? -/
def rightFrom : Int → Int → List Mk → Bool
  | _, _, [] => true
  | pos, at_, m :: r => decide (m.fits pos at_) && rightFrom m.fin m.at_ r
theorem rightFrom_wf : ∀ {l acc : List Mk}, rightFrom (lastM acc).fin (lastM acc).at_ l = true ↔ Wf markNx acc l := by
  intro l
  induction l with
  | nil => intro acc; simp [rightFrom, Wf]
  | cons m l ih =>
    intro acc
    have := ih (acc := acc ++ [m])
    rw [lastM_snoc] at this
    simp only [rightFrom, Wf, Bool.and_eq_true, decide_eq_true_eq, this]
    rfl
def rightM (l : List Mk) : Bool := rightFrom 0 0 l && decide (l.length ≤ 16)
theorem rightM_wf {l : List Mk} : rightM l = true ↔ Wf markNx [] l ∧ l.length ≤ 16 := by
  unfold rightM
  rw [Bool.and_eq_true, decide_eq_true_eq]
  have := rightFrom_wf (l := l) (acc := [])
  rw [show (lastM []).fin = 0 from rfl, show (lastM []).at_ = 0 from rfl] at this
  rw [this]
def marksB (l : List Mk) : List Int := vb l.length ++ encs markEnc [] l
def RS.marks (s : RS) : RS × List Mk := markF.counted 16 s
theorem lastM_take (l : List Mk) (k : Nat) (h : k ≤ l.length) : lastM (l.take k) = if k = 0 then mk0 else l.getD (k - 1) mk0 := by
  cases k with
  | zero => rfl
  | succ k =>
    rw [List.take_succ_eq_append_getElem (show k < l.length from by omega), lastM_snoc]
    simp [show k < l.length from by omega]
/-- The numbers by which a mark is written. -/
def markN (acc : List Mk) (m : Mk) : List Int := [m.pos - (lastM acc).fin, m.cnt, m.at_ - (lastM acc).at_ - 1]
theorem vbs_markN : ∀ (l acc : List Mk), vbs (encs markN acc l) = encs markEnc acc l := by
  intro l
  induction l with
  | nil => intro acc; rfl
  | cons x l ih =>
    intro acc
    simp only [encs]
    rw [← ih (acc ++ [x])]
    simp [vbs, markN, markEnc]
theorem markN_len : ∀ (l acc : List Mk), (encs markN acc l).length = 3 * l.length := by
  intro l
  induction l with
  | nil => intro acc; rfl
  | cons x l ih => intro acc; simp only [encs, List.length_append, ih, markN, List.length_cons, List.length_nil]; omega
theorem marksB_len (l : List Mk) : (marksB l).length ≤ 10 + 30 * l.length ∧ l.length < (marksB l).length := by
  have h1 := vbs_len (encs markN [] l)
  have h2 := vbs_ge (encs markN [] l)
  rw [vbs_markN, markN_len] at h1 h2
  have h3 := vb_len (l.length : Int)
  unfold marksB; rw [List.length_append]; omega
theorem marksB_bys {l : List Mk} (h : Wf markNx [] l) (hn : l.length < 18446744073709551616) : Bys (marksB l) := by
  intro y hy
  rcases List.mem_append.1 hy with hy | hy
  · exact vb_by (by omega) (by omega) y hy
  · exact encs_bys (F := markF) (acc := []) markF_ok trivial h y hy
theorem marks_own {s : RS} {l : List Mk} {r : List Int} (h : ROk s) (hc : s.code = 0) (hl : rightM l = true) (hr : s.rest = marksB l ++ r) : s.marks = (s.adv ((marksB l).length : Int), l) := by
  obtain ⟨h1, h2⟩ := rightM_wf.1 hl
  have := counted_own markF_ok h hc (l := l) (m := 16) (r := r) (by omega) h1 (by omega) (by rw [hr]; unfold marksB; simp only [List.append_assoc]; rfl)
  unfold RS.marks
  rw [this]
  have e : ((vb (l.length : Int)).length : Int) + ((encs markF.enc [] l).length : Int) = (marksB l).length := by unfold marksB; rw [List.length_append]; show _ + ((encs markEnc [] l).length : Int) = _; omega
  rw [e]
theorem mk_nx {p x : Mk} : x.fits p.fin p.at_ ↔ 1 ≤ x.cnt ∧ x.cnt ≤ 16 ∧ p.fin ≤ x.pos ∧ x.pos + x.cnt ≤ 4611686018427387904 ∧ p.at_ < x.at_ ∧ x.at_ ≤ 1099511627775 := Iff.rfl
theorem right_not {l : List Mk} {k : Nat} (h : k < l.length) (hf : ¬ (l.getD k mk0).fits (lastM (l.take k)).fin (lastM (l.take k)).at_) : rightM l = false := by
  cases hr : rightM l with
  | false => rfl
  | true =>
    have h2 := wf_get k h (rightM_wf.1 hr).1
    have h3 : l[k] = l.getD k mk0 := by simp [h]
    rw [h3] at h2
    simp only [List.nil_append] at h2
    exact absurd h2 hf
end Go.Proofs.Ytgphhganepjaiaa
end
