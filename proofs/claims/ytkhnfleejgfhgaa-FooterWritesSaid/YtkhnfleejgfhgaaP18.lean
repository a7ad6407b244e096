/-
  Plain laws of chapter 31: headers. No program.
-/
import Derived.Test.YtkhnfleejgfhgaaP15
import Derived.Test.YtkhnfleejgfhgaaP17
import Derived.Test.YtkhnfleejgfhgaaP3
set_option linter.all false
set_option linter.unusedSimpArgs false
set_option linter.unusedVariables false
set_option linter.unnecessarySimpa false
namespace Go.Proofs.Ytkhnfleejgfhgaa

theorem Cl.epo {s : RS} (h : Cl s) (ok : Int → Bool) : Cl (s.epo ok).1 := by
  unfold RS.epo
  repeat' split
  · exact h.vint
  · exact h.vint.fail _ _
  · exact h.vint
/-- A header. -/
structure Hd where
  ver : Int
  ep : Int
  base : Int
  deriving DecidableEq
def hd0 : Hd := ⟨0, 0, 0⟩
structure Hd.ok (h : Hd) : Prop where
  v0 : -9223372036854775808 ≤ h.ver
  v1 : h.ver < 9223372036854775808
  e0 : 0 ≤ h.ep
  e1 : h.ep < 18446744073709551616
  b0 : 0 ≤ h.base
  b1 : h.base < 18446744073709551616
def rightH (h : Hd) : Bool := decide (1 ≤ h.ver ∧ h.ver ≤ 3) && epRight h.ep && epPos h.base && (decide (h.ver = 1) || decide (h.base = 0))
theorem rightH_iff {h : Hd} : rightH h = true ↔ (1 ≤ h.ver ∧ h.ver ≤ 3) ∧ (1 ≤ h.ep ∧ h.ep < 4611686018427387904) ∧ h.base < 4611686018427387904 ∧ (h.ver = 1 ∨ h.base = 0) := by
  simp [rightH, epRight_iff, epPos_iff, and_assoc]
def thol : List Int := [84, 72, 79, 76]
/-- A header but for its sum. -/
def plainB (h : Hd) : List Int := thol ++ [h.ver] ++ vb h.ep ++ (if h.ver = 1 then vb h.base else [])
def headerB (h : Hd) : List Int := plainB h ++ lowBytes 4 (crcI (plainB h))
/-- The reader behind the letters; behind the version, and that. -/
def RS.lets (s : RS) : RS := if (s.take 4).1.code = 0 ∧ (s.take 4).2 ≠ thol then (s.take 4).1.fail 14 s.at_ else (s.take 4).1
def RS.vers (s : RS) : RS × Int :=
  if (s.take 1).1.code = 0 then (if 1 ≤ (s.take 1).2.getD 0 0 ∧ (s.take 1).2.getD 0 0 ≤ 3 then ((s.take 1).1, (s.take 1).2.getD 0 0) else ((s.take 1).1.fail 8 s.at_, 0)) else ((s.take 1).1, 0)
def RS.hbegin (s : RS) : RS × Int := s.lets.vers
def RS.hbase (s : RS) (v : Int) : RS × Int := if v = 1 then s.epo epPos else (s, 0)
/-- The reader behind a header but for its sum. -/
def RS.hplain (s : RS) : RS × Hd := (((s.hbegin.1.epo epRight).1.hbase s.hbegin.2).1, ⟨s.hbegin.2, (s.hbegin.1.epo epRight).2, ((s.hbegin.1.epo epRight).1.hbase s.hbegin.2).2⟩)
/-- The bytes between two places. -/
def RS.from (s t : RS) : List Int := (s.l.drop s.at_.toNat).take (t.at_.toNat - s.at_.toNat)
def RS.header (s : RS) : RS × Hd :=
  if (s.hplain.1.fixed 4).1.code = 0 then (if (s.hplain.1.fixed 4).2 = crcI (s.from s.hplain.1) then ((s.hplain.1.fixed 4).1, s.hplain.2) else ((s.hplain.1.fixed 4).1.fail 6 s.hplain.1.at_, hd0)) else ((s.hplain.1.fixed 4).1, hd0)
theorem Cl.lets {s : RS} (h : Cl s) : Cl s.lets := by
  unfold RS.lets; split
  · exact (h.take 4).fail _ _
  · exact h.take 4
theorem Cl.vers {s : RS} (h : Cl s) : Cl s.vers.1 := by
  unfold RS.vers
  repeat' split
  · exact h.take 1
  · exact (h.take 1).fail _ _
  · exact h.take 1
theorem Cl.hbase {s : RS} (h : Cl s) (v : Int) : Cl (s.hbase v).1 := by
  unfold RS.hbase; split
  · exact h.epo _
  · exact h
theorem Cl.hplain {s : RS} (h : Cl s) : Cl s.hplain.1 := ((h.lets.vers).epo epRight).hbase _
theorem Cl.header {s : RS} (h : Cl s) : Cl s.header.1 := by
  unfold RS.header
  repeat' split
  · exact h.hplain.fixed 4
  · exact (h.hplain.fixed 4).fail _ _
  · exact h.hplain.fixed 4
theorem lets_keep {s : RS} (h : ROk s) : ROk s.lets ∧ s.lets.l = s.l := by
  have a := h.take 4
  have b := (h.ok.take 4).2
  unfold RS.lets; split
  · exact ⟨a.fail _ _, by rw [fail_l]; exact b⟩
  · exact ⟨a, b⟩
theorem vers_keep {s : RS} (h : ROk s) : ROk s.vers.1 ∧ s.vers.1.l = s.l := by
  have a := h.take 1
  have b := (h.ok.take 1).2
  unfold RS.vers
  repeat' split
  · exact ⟨a, b⟩
  · exact ⟨a.fail _ _, by rw [fail_l]; exact b⟩
  · exact ⟨a, b⟩
theorem hbegin_keep {s : RS} (h : ROk s) : ROk s.hbegin.1 ∧ s.hbegin.1.l = s.l := by
  obtain ⟨a, b⟩ := lets_keep h
  obtain ⟨c, d⟩ := vers_keep a
  exact ⟨c, d.trans b⟩
theorem hbase_keep {s : RS} (h : ROk s) (v : Int) : ROk (s.hbase v).1 ∧ (s.hbase v).1.l = s.l := by
  unfold RS.hbase; split
  · exact epo_keep h _
  · exact ⟨h, rfl⟩
theorem hplain_keep {s : RS} (h : ROk s) : ROk s.hplain.1 ∧ s.hplain.1.l = s.l := by
  obtain ⟨a, b⟩ := hbegin_keep h
  obtain ⟨c, d⟩ := epo_keep a epRight
  obtain ⟨e, f⟩ := hbase_keep c s.hbegin.2
  exact ⟨e, f.trans (d.trans b)⟩
theorem header_keep {s : RS} (h : ROk s) : ROk s.header.1 ∧ s.header.1.l = s.l := by
  obtain ⟨a, b⟩ := hplain_keep h
  obtain ⟨c, d⟩ := fixed_keep a 4
  unfold RS.header
  repeat' split
  · exact ⟨c, d.trans b⟩
  · exact ⟨c.fail _ _, by rw [fail_l]; exact d.trans b⟩
  · exact ⟨c, d.trans b⟩
theorem lets_is {s : RS} (h : ROk s) (hc : s.lets.code = 0) : s.code = 0 ∧ s.lets.at_ = s.at_ + 4 ∧ s.l.take s.lets.at_.toNat = s.l.take s.at_.toNat ++ thol := by
  unfold RS.lets at hc ⊢
  by_cases hx : (s.take 4).1.code = 0 ∧ (s.take 4).2 ≠ thol
  · rw [if_pos hx] at hc; exact absurd hc (fail_not0 _ _ hx.1 (by decide))
  · rw [if_neg hx] at hc ⊢
    obtain ⟨t1, t2, t3, t4, t5⟩ := take_bytes h hc
    have e : (s.take 4).2 = thol := by
      by_cases he : (s.take 4).2 = thol
      · exact he
      · exact absurd ⟨hc, he⟩ hx
    rw [e] at t5
    exact ⟨t1, t4, t5⟩
theorem vers_is {s : RS} (h : ROk s) (hc : s.vers.1.code = 0) : s.code = 0 ∧ 1 ≤ s.vers.2 ∧ s.vers.2 ≤ 3 ∧ s.vers.1.at_ = s.at_ + 1 ∧ s.l.take s.vers.1.at_.toNat = s.l.take s.at_.toNat ++ [s.vers.2] := by
  unfold RS.vers at hc ⊢
  by_cases h1 : (s.take 1).1.code = 0
  · rw [if_pos h1] at hc ⊢
    by_cases h2 : 1 ≤ (s.take 1).2.getD 0 0 ∧ (s.take 1).2.getD 0 0 ≤ 3
    · rw [if_pos h2]
      obtain ⟨t1, t2, t3, t4, t5⟩ := take_bytes h h1
      have e : (s.take 1).2 = [(s.take 1).2.getD 0 0] := by
        match hx : (s.take 1).2, t3 with
        | [x], _ => rfl
        | [], t3 => simp at t3
        | x :: y :: z, t3 => simp only [List.length_cons] at t3; omega
      exact ⟨t1, h2.1, h2.2, t4, by rw [t5]; congr 1⟩
    · rw [if_neg h2] at hc; exact absurd hc (fail_not0 _ _ h1 (by decide))
  · rw [if_neg h1] at hc; exact absurd hc h1
theorem vers_bad {s : RS} (hc : ¬ s.vers.1.code = 0) : s.vers.2 = 0 := by
  unfold RS.vers at hc ⊢
  repeat' split
  · rename_i h1 h2; rw [if_pos h1, if_pos h2] at hc; exact absurd h1 hc
  · rfl
  · rfl
theorem hbase_is {s : RS} (h : ROk s) {v : Int} (hc : (s.hbase v).1.code = 0) : s.code = 0 ∧ 0 ≤ (s.hbase v).2 ∧ (s.hbase v).2 < 4611686018427387904 ∧ (v = 1 ∨ (s.hbase v).2 = 0) ∧ s.at_ ≤ (s.hbase v).1.at_ ∧ s.l.take (s.hbase v).1.at_.toNat = s.l.take s.at_.toNat ++ (if v = 1 then vb (s.hbase v).2 else []) := by
  unfold RS.hbase at hc ⊢
  by_cases hv : v = 1
  · rw [if_pos hv] at hc ⊢
    obtain ⟨e1, e2, e3, e4, e5, e6⟩ := epo_is h hc
    rw [if_pos hv]
    exact ⟨e1, e2, epPos_iff.1 e4, .inl hv, by omega, e6⟩
  · rw [if_neg hv] at hc ⊢
    rw [if_neg hv]
    exact ⟨hc, Int.le_refl _, by show (0 : Int) < 4611686018427387904; decide, .inr rfl, Int.le_refl _, by simp⟩
/-- What was read of a header but for its sum. -/
theorem hplain_is {s : RS} (h : ROk s) (hc : s.hplain.1.code = 0) : s.code = 0 ∧ rightH s.hplain.2 = true ∧ 0 ≤ s.hplain.2.base ∧ s.at_ + 6 ≤ s.hplain.1.at_ ∧ s.l.take s.hplain.1.at_.toNat = s.l.take s.at_.toNat ++ plainB s.hplain.2 := by
  obtain ⟨a1, a2⟩ := lets_keep h
  obtain ⟨b1, b2⟩ := vers_keep a1
  obtain ⟨c1, c2⟩ := epo_keep b1 epRight
  obtain ⟨d1, d2, d3, d4, d5, d6⟩ := hbase_is c1 hc
  obtain ⟨e1, e2, e3, e4, e5, e6⟩ := epo_is b1 d1
  obtain ⟨f1, f2, f3, f4, f5⟩ := vers_is a1 e1
  obtain ⟨g1, g2, g3⟩ := lets_is h f1
  have er := epRight_iff.1 e4
  refine ⟨g1, rightH_iff.2 ⟨⟨f2, f3⟩, er, d3, d4⟩, d2, ?_, ?_⟩
  · have x1 : s.hplain.1.at_ = ((s.hbegin.1.epo epRight).1.hbase s.hbegin.2).1.at_ := rfl
    rw [x1]
    have x2 : s.hbegin.1.at_ = s.lets.at_ + 1 := f4
    have x3 : s.hbegin.1.at_ < (s.hbegin.1.epo epRight).1.at_ := e5
    have x4 : (s.hbegin.1.epo epRight).1.at_ ≤ ((s.hbegin.1.epo epRight).1.hbase s.hbegin.2).1.at_ := d5
    omega
  · rw [c2, b2, a2] at d6
    rw [b2, a2] at e6
    rw [a2] at f5
    have y1 : s.l.take s.hplain.1.at_.toNat = s.l.take (s.lets.vers.1.epo epRight).1.at_.toNat ++ (if s.hbegin.2 = 1 then vb s.hplain.2.base else []) := d6
    rw [y1, e6, f5, g3]
    simp only [List.append_assoc]
    rfl
theorem from_take {s t : RS} (h0 : 0 ≤ s.at_) (h1 : s.at_ ≤ t.at_) {x : List Int} (hx : s.l.take t.at_.toNat = s.l.take s.at_.toNat ++ x) (hl : s.at_ ≤ s.l.length) : s.from t = x := by
  unfold RS.from
  have hA : (s.l.take s.at_.toNat).length = s.at_.toNat := by rw [List.length_take]; omega
  have e := congrArg (List.drop s.at_.toNat) hx
  rw [List.drop_take] at e
  exact e.trans (List.drop_left' hA)
theorem plainB_bys {h : Hd} (hr : rightH h = true) (hb : 0 ≤ h.base) : Bys (plainB h) := by
  obtain ⟨h1, h2, h3, h4⟩ := rightH_iff.1 hr
  intro y hy
  unfold plainB at hy
  rcases List.mem_append.1 hy with hy | hy
  · rcases List.mem_append.1 hy with hy | hy
    · simp only [thol, List.cons_append, List.nil_append, List.mem_cons, List.not_mem_nil, or_false] at hy
      omega
    · exact vb_by (by omega) (by omega) y hy
  · split at hy
    · exact vb_by hb (by omega) y hy
    · simp at hy
theorem plainB_len (h : Hd) : 6 ≤ (plainB h).length ∧ (plainB h).length ≤ 25 := by
  unfold plainB
  have h1 := vb_len h.ep
  have h2 := vb_len h.base
  simp only [List.length_append, thol, List.length_cons, List.length_nil]
  split
  · omega
  · simp only [List.length_nil]; omega
theorem headerB_len (h : Hd) : (headerB h).length = (plainB h).length + 4 := by unfold headerB; rw [List.length_append, lowBytes_len]
theorem headerB_bys {h : Hd} (hr : rightH h = true) (hb : 0 ≤ h.base) : Bys (headerB h) := by
  intro y hy
  rcases List.mem_append.1 hy with hy | hy
  · exact plainB_bys hr hb y hy
  · exact lowBytes_bys 4 _ y hy
/-- What was read of a header. -/
theorem header_is {s : RS} (h : ROk s) (hc : s.header.1.code = 0) : s.code = 0 ∧ rightH s.header.2 = true ∧ 0 ≤ s.header.2.base ∧ s.at_ + 10 ≤ s.header.1.at_ ∧ s.l.take s.header.1.at_.toNat = s.l.take s.at_.toNat ++ headerB s.header.2 := by
  unfold RS.header at hc ⊢
  by_cases h1 : (s.hplain.1.fixed 4).1.code = 0
  · rw [if_pos h1] at hc ⊢
    by_cases h2 : (s.hplain.1.fixed 4).2 = crcI (s.from s.hplain.1)
    · rw [if_pos h2]
      obtain ⟨a, b⟩ := hplain_keep h
      obtain ⟨t1, t2, t3, t4, t5⟩ := take_bytes a (n := 4) h1
      obtain ⟨p1, p2, p3, p4, p5⟩ := hplain_is h t1
      have hfr := from_take h.at0 (by omega) p5 h.at1
      have hfix : (s.hplain.1.fixed 4).1.at_ = s.hplain.1.at_ + 4 := t4
      refine ⟨p1, p2, p3, by simp only; omega, ?_⟩
      rw [b] at t5
      show s.l.take (s.hplain.1.take 4).1.at_.toNat = _
      rw [t5, p5, List.append_assoc]
      unfold headerB
      congr 2
      have hb : Bys (s.hplain.1.take 4).2 := take_bys a.bys 4
      have hl := low_fixOf hb
      have hlen : (s.hplain.1.take 4).2.length = 4 := by omega
      rw [hlen] at hl
      have h2' : fixOf (s.hplain.1.take 4).2 = crcI (plainB s.hplain.2) := by rw [← hfr]; exact h2
      rw [← h2']; exact hl.symm
    · rw [if_neg h2] at hc; exact absurd hc (fail_not0 _ _ h1 (by decide))
  · rw [if_neg h1] at hc; exact absurd hc h1
theorem header_bad {s : RS} (hc : ¬ s.header.1.code = 0) : s.header.2 = hd0 := by
  unfold RS.header at hc ⊢
  repeat' split
  · rename_i h1 h2; rw [if_pos h1, if_pos h2] at hc; exact absurd h1 hc
  · rfl
  · rfl
/-- A header that is written is read so. -/
theorem hplain_own {s : RS} {h : Hd} {r : List Int} (hs : ROk s) (hc : s.code = 0) (hr : rightH h = true) (hb : 0 ≤ h.base) (hrest : s.rest = plainB h ++ r) : s.hplain = (s.adv ((plainB h).length : Int), h) := by
  obtain ⟨h1, h2, h3, h4⟩ := rightH_iff.1 hr
  have e1 : s.rest = thol ++ ([h.ver] ++ (vb h.ep ++ ((if h.ver = 1 then vb h.base else []) ++ r))) := by rw [hrest]; unfold plainB; simp only [List.append_assoc]
  have t1 := take_own hs hc e1
  have t1' : s.take 4 = (s.adv 4, thol) := t1
  have hl : s.lets = s.adv 4 := by unfold RS.lets; rw [t1']; simp
  have hs1 : ROk (s.adv 4) := adv_ok hs e1
  have e2 : (s.adv 4).rest = [h.ver] ++ (vb h.ep ++ ((if h.ver = 1 then vb h.base else []) ++ r)) := by
    have := adv_rest (s := s) hs.at0 4
    have e : s.adv ((4 : Nat) : Int) = s.adv 4 := rfl
    rw [e, e1] at this; exact this
  have t2 := take_own hs1 (show (s.adv 4).code = 0 from hc) e2
  have t2' : (s.adv 4).take 1 = ((s.adv 4).adv 1, [h.ver]) := t2
  have hv : s.hbegin = (s.adv 5, h.ver) := by
    unfold RS.hbegin RS.vers
    rw [hl, t2']
    simp only [List.getD_cons_zero]
    rw [if_pos (show ((s.adv 4).adv 1).code = 0 from hc), if_pos h1, adv_adv]; rfl
  have hs2 : ROk (s.adv 5) := by have := adv_ok hs1 e2; rw [adv_adv] at this; exact this
  have e3 : (s.adv 5).rest = vb h.ep ++ ((if h.ver = 1 then vb h.base else []) ++ r) := by
    have := adv_rest (s := s.adv 4) hs1.at0 1
    have e : (s.adv 4).adv ((1 : Nat) : Int) = s.adv 5 := by rw [adv_adv]; rfl
    rw [e, e2] at this; exact this
  have hep := epo_own (ok := epRight) (show (s.adv 5).code = 0 from hc) (by omega) (by omega) (epRight_iff.2 h2) e3
  have hs3 := adv_ok hs2 e3
  have e4 : ((s.adv 5).adv ((vb h.ep).length : Int)).rest = (if h.ver = 1 then vb h.base else []) ++ r := by rw [adv_rest hs2.at0, e3, List.drop_left]
  have hlen : ((plainB h).length : Int) = 5 + (vb h.ep).length + (if h.ver = 1 then vb h.base else []).length := by
    unfold plainB; simp only [List.length_append, thol, List.length_cons, List.length_nil]; omega
  have hba : ((s.adv 5).adv ((vb h.ep).length : Int)).hbase h.ver = (s.adv ((plainB h).length : Int), h.base) := by
    unfold RS.hbase
    by_cases hv1 : h.ver = 1
    · rw [if_pos hv1]
      rw [if_pos hv1] at e4 hlen
      have := epo_own (ok := epPos) (show ((s.adv 5).adv ((vb h.ep).length : Int)).code = 0 from hc) hb (by omega) (epPos_iff.2 h3) e4
      rw [this, adv_adv, adv_adv, hlen, Int.add_assoc]
    · rw [if_neg hv1]
      rw [if_neg hv1] at hlen
      have hb0 : h.base = 0 := by omega
      rw [adv_adv, hlen, hb0]
      simp
  unfold RS.hplain
  rw [hv]; simp only
  rw [hep]; simp only
  rw [hba]
theorem header_own {s : RS} {h : Hd} {r : List Int} (hs : ROk s) (hc : s.code = 0) (hr : rightH h = true) (hb : 0 ≤ h.base) (hrest : s.rest = headerB h ++ r) : s.header = (s.adv ((headerB h).length : Int), h) := by
  have e1 : s.rest = plainB h ++ (lowBytes 4 (crcI (plainB h)) ++ r) := by rw [hrest]; unfold headerB; rw [List.append_assoc]
  have hp := hplain_own hs hc hr hb e1
  have hs1 := adv_ok hs e1
  have e2 : (s.adv ((plainB h).length : Int)).rest = lowBytes 4 (crcI (plainB h)) ++ r := by rw [adv_rest hs.at0, e1, List.drop_left]
  have ht := take_own hs1 (show (s.adv ((plainB h).length : Int)).code = 0 from hc) e2
  rw [lowBytes_len] at ht
  have hcr := crcI_range (plainB_bys hr hb)
  have hf : (s.adv ((plainB h).length : Int)).fixed 4 = (s.adv ((headerB h).length : Int), crcI (plainB h)) := by
    unfold RS.fixed
    have ht' : (s.adv ((plainB h).length : Int)).take 4 = ((s.adv ((plainB h).length : Int)).adv 4, lowBytes 4 (crcI (plainB h))) := ht
    rw [ht', fixOf_low 4 _ hcr.1 (by simpa using hcr.2), adv_adv, headerB_len]
    rfl
  have hfr : s.from (s.adv ((plainB h).length : Int)) = plainB h := by
    unfold RS.from
    have h0 := hs.at0
    have e3 : (s.adv ((plainB h).length : Int)).at_.toNat - s.at_.toNat = (plainB h).length := by
      show (s.at_ + ((plainB h).length : Int)).toNat - s.at_.toNat = _; omega
    rw [e3]
    show s.rest.take _ = _
    rw [e1, List.take_left]
  unfold RS.header
  rw [hp]; simp only
  rw [hf]; simp only
  rw [if_pos (show (s.adv ((headerB h).length : Int)).code = 0 from hc), hfr, if_pos rfl]
end Go.Proofs.Ytkhnfleejgfhgaa
