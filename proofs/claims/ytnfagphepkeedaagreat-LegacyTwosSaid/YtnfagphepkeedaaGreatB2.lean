/-
  Plain laws of chapter 31: headers. No program.
  Plain laws of chapter 23: links. No program.
  Plain laws of chapter 24: entries. No program.
  Plain laws: a reader of bytes that stand behind others reads the same, at other places. No program.
  Plain laws of chapter 33: footers. No program.
  Plain laws of chapter 35: segments of the version 1. No program.
  Plain laws of chapter 33: the footer with which bytes end. No program.
  Plain: where a reader's fault may stand. No program.
  Plain laws of chapter 35: batches as the version 2 writes them. No program.
  The codes of the seat's functions over abstract values, each shown to be its function's own (by program: wip/tools/codes.py).
  The codes of the seat's functions over abstract values, each shown to be its function's own (by program: wip/tools/codes.py).
  The codes of the seat's functions over abstract values, each shown to be its function's own (by program: wip/tools/codes.py).
  The codes of the seat's functions over abstract values, each shown to be its function's own (by program: wip/tools/codes.py).
-/
import Derived.Test.YtnfagphepkeedaaGreatB1
import Derived.Test.YtnfagphepkeedaaGreatProg
import Derived.KernelRfl
set_option linter.all false
set_option linter.unusedSimpArgs false
set_option linter.unusedVariables false
set_option linter.unnecessarySimpa false
section
namespace Go.Proofs.YtnfagphepkeedaaGreat

theorem Cl.epo {s : RS} (h : Cl s) (ok : Int → Bool) : Cl (s.epo ok).1 := by
  unfold RS.epo
  repeat' split
  · exact h.vint
  · exact h.vint.fail _ _
  · exact h.vint
/-- A header. -/
structure Hd where
  ver : Int
  ep : Int
  base : Int
  deriving DecidableEq
def hd0 : Hd := ⟨0, 0, 0⟩
structure Hd.ok (h : Hd) : Prop where
  v0 : -9223372036854775808 ≤ h.ver
  v1 : h.ver < 9223372036854775808
  e0 : 0 ≤ h.ep
  e1 : h.ep < 18446744073709551616
  b0 : 0 ≤ h.base
  b1 : h.base < 18446744073709551616
def rightH (h : Hd) : Bool := decide (1 ≤ h.ver ∧ h.ver ≤ 3) && epRight h.ep && epPos h.base && (decide (h.ver = 1) || decide (h.base = 0))
theorem rightH_iff {h : Hd} : rightH h = true ↔ (1 ≤ h.ver ∧ h.ver ≤ 3) ∧ (1 ≤ h.ep ∧ h.ep < 4611686018427387904) ∧ h.base < 4611686018427387904 ∧ (h.ver = 1 ∨ h.base = 0) := by
  simp [rightH, epRight_iff, epPos_iff, and_assoc]
def thol : List Int := [84, 72, 79, 76]
/-- A header but for its sum. -/
def plainB (h : Hd) : List Int := thol ++ [h.ver] ++ vb h.ep ++ (if h.ver = 1 then vb h.base else [])
def headerB (h : Hd) : List Int := plainB h ++ lowBytes 4 (crcI (plainB h))
/-- The reader behind the letters; behind the version, and that. -/
def RS.lets (s : RS) : RS := if (s.take 4).1.code = 0 ∧ (s.take 4).2 ≠ thol then (s.take 4).1.fail 14 s.at_ else (s.take 4).1
def RS.vers (s : RS) : RS × Int :=
  if (s.take 1).1.code = 0 then (if 1 ≤ (s.take 1).2.getD 0 0 ∧ (s.take 1).2.getD 0 0 ≤ 3 then ((s.take 1).1, (s.take 1).2.getD 0 0) else ((s.take 1).1.fail 8 s.at_, 0)) else ((s.take 1).1, 0)
def RS.hbegin (s : RS) : RS × Int := s.lets.vers
def RS.hbase (s : RS) (v : Int) : RS × Int := if v = 1 then s.epo epPos else (s, 0)
/-- The reader behind a header but for its sum. -/
def RS.hplain (s : RS) : RS × Hd := (((s.hbegin.1.epo epRight).1.hbase s.hbegin.2).1, ⟨s.hbegin.2, (s.hbegin.1.epo epRight).2, ((s.hbegin.1.epo epRight).1.hbase s.hbegin.2).2⟩)
/-- The bytes between two places. -/
def RS.from (s t : RS) : List Int := (s.l.drop s.at_.toNat).take (t.at_.toNat - s.at_.toNat)
def RS.header (s : RS) : RS × Hd :=
  if (s.hplain.1.fixed 4).1.code = 0 then (if (s.hplain.1.fixed 4).2 = crcI (s.from s.hplain.1) then ((s.hplain.1.fixed 4).1, s.hplain.2) else ((s.hplain.1.fixed 4).1.fail 6 s.hplain.1.at_, hd0)) else ((s.hplain.1.fixed 4).1, hd0)
theorem Cl.lets {s : RS} (h : Cl s) : Cl s.lets := by
  unfold RS.lets; split
  · exact (h.take 4).fail _ _
  · exact h.take 4
theorem Cl.vers {s : RS} (h : Cl s) : Cl s.vers.1 := by
  unfold RS.vers
  repeat' split
  · exact h.take 1
  · exact (h.take 1).fail _ _
  · exact h.take 1
theorem Cl.hbase {s : RS} (h : Cl s) (v : Int) : Cl (s.hbase v).1 := by
  unfold RS.hbase; split
  · exact h.epo _
  · exact h
theorem Cl.hplain {s : RS} (h : Cl s) : Cl s.hplain.1 := ((h.lets.vers).epo epRight).hbase _
theorem Cl.header {s : RS} (h : Cl s) : Cl s.header.1 := by
  unfold RS.header
  repeat' split
  · exact h.hplain.fixed 4
  · exact (h.hplain.fixed 4).fail _ _
  · exact h.hplain.fixed 4
theorem lets_keep {s : RS} (h : ROk s) : ROk s.lets ∧ s.lets.l = s.l := by
  have a := h.take 4
  have b := (h.ok.take 4).2
  unfold RS.lets; split
  · exact ⟨a.fail _ _, by rw [fail_l]; exact b⟩
  · exact ⟨a, b⟩
theorem vers_keep {s : RS} (h : ROk s) : ROk s.vers.1 ∧ s.vers.1.l = s.l := by
  have a := h.take 1
  have b := (h.ok.take 1).2
  unfold RS.vers
  repeat' split
  · exact ⟨a, b⟩
  · exact ⟨a.fail _ _, by rw [fail_l]; exact b⟩
  · exact ⟨a, b⟩
theorem hbegin_keep {s : RS} (h : ROk s) : ROk s.hbegin.1 ∧ s.hbegin.1.l = s.l := by
  obtain ⟨a, b⟩ := lets_keep h
  obtain ⟨c, d⟩ := vers_keep a
  exact ⟨c, d.trans b⟩
theorem hbase_keep {s : RS} (h : ROk s) (v : Int) : ROk (s.hbase v).1 ∧ (s.hbase v).1.l = s.l := by
  unfold RS.hbase; split
  · exact epo_keep h _
  · exact ⟨h, rfl⟩
theorem hplain_keep {s : RS} (h : ROk s) : ROk s.hplain.1 ∧ s.hplain.1.l = s.l := by
  obtain ⟨a, b⟩ := hbegin_keep h
  obtain ⟨c, d⟩ := epo_keep a epRight
  obtain ⟨e, f⟩ := hbase_keep c s.hbegin.2
  exact ⟨e, f.trans (d.trans b)⟩
theorem header_keep {s : RS} (h : ROk s) : ROk s.header.1 ∧ s.header.1.l = s.l := by
  obtain ⟨a, b⟩ := hplain_keep h
  obtain ⟨c, d⟩ := fixed_keep a 4
  unfold RS.header
  repeat' split
  · exact ⟨c, d.trans b⟩
  · exact ⟨c.fail _ _, by rw [fail_l]; exact d.trans b⟩
  · exact ⟨c, d.trans b⟩
theorem lets_is {s : RS} (h : ROk s) (hc : s.lets.code = 0) : s.code = 0 ∧ s.lets.at_ = s.at_ + 4 ∧ s.l.take s.lets.at_.toNat = s.l.take s.at_.toNat ++ thol := by
  unfold RS.lets at hc ⊢
  by_cases hx : (s.take 4).1.code = 0 ∧ (s.take 4).2 ≠ thol
  · rw [if_pos hx] at hc; exact absurd hc (fail_not0 _ _ hx.1 (by decide))
  · rw [if_neg hx] at hc ⊢
    obtain ⟨t1, t2, t3, t4, t5⟩ := take_bytes h hc
    have e : (s.take 4).2 = thol := by
      by_cases he : (s.take 4).2 = thol
      · exact he
      · exact absurd ⟨hc, he⟩ hx
    rw [e] at t5
    exact ⟨t1, t4, t5⟩
theorem vers_is {s : RS} (h : ROk s) (hc : s.vers.1.code = 0) : s.code = 0 ∧ 1 ≤ s.vers.2 ∧ s.vers.2 ≤ 3 ∧ s.vers.1.at_ = s.at_ + 1 ∧ s.l.take s.vers.1.at_.toNat = s.l.take s.at_.toNat ++ [s.vers.2] := by
  unfold RS.vers at hc ⊢
  by_cases h1 : (s.take 1).1.code = 0
  · rw [if_pos h1] at hc ⊢
    by_cases h2 : 1 ≤ (s.take 1).2.getD 0 0 ∧ (s.take 1).2.getD 0 0 ≤ 3
    · rw [if_pos h2]
      obtain ⟨t1, t2, t3, t4, t5⟩ := take_bytes h h1
      have e : (s.take 1).2 = [(s.take 1).2.getD 0 0] := by
        match hx : (s.take 1).2, t3 with
        | [x], _ => rfl
        | [], t3 => simp at t3
        | x :: y :: z, t3 => simp only [List.length_cons] at t3; omega
      exact ⟨t1, h2.1, h2.2, t4, by rw [t5]; congr 1⟩
    · rw [if_neg h2] at hc; exact absurd hc (fail_not0 _ _ h1 (by decide))
  · rw [if_neg h1] at hc; exact absurd hc h1
theorem hbase_is {s : RS} (h : ROk s) {v : Int} (hc : (s.hbase v).1.code = 0) : s.code = 0 ∧ 0 ≤ (s.hbase v).2 ∧ (s.hbase v).2 < 4611686018427387904 ∧ (v = 1 ∨ (s.hbase v).2 = 0) ∧ s.at_ ≤ (s.hbase v).1.at_ ∧ s.l.take (s.hbase v).1.at_.toNat = s.l.take s.at_.toNat ++ (if v = 1 then vb (s.hbase v).2 else []) := by
  unfold RS.hbase at hc ⊢
  by_cases hv : v = 1
  · rw [if_pos hv] at hc ⊢
    obtain ⟨e1, e2, e3, e4, e5, e6⟩ := epo_is h hc
    rw [if_pos hv]
    exact ⟨e1, e2, epPos_iff.1 e4, .inl hv, by omega, e6⟩
  · rw [if_neg hv] at hc ⊢
    rw [if_neg hv]
    exact ⟨hc, Int.le_refl _, by show (0 : Int) < 4611686018427387904; decide, .inr rfl, Int.le_refl _, by simp⟩
/-- What was read of a header but for its sum. -/
theorem hplain_is {s : RS} (h : ROk s) (hc : s.hplain.1.code = 0) : s.code = 0 ∧ rightH s.hplain.2 = true ∧ 0 ≤ s.hplain.2.base ∧ s.at_ + 6 ≤ s.hplain.1.at_ ∧ s.l.take s.hplain.1.at_.toNat = s.l.take s.at_.toNat ++ plainB s.hplain.2 := by
  obtain ⟨a1, a2⟩ := lets_keep h
  obtain ⟨b1, b2⟩ := vers_keep a1
  obtain ⟨c1, c2⟩ := epo_keep b1 epRight
  obtain ⟨d1, d2, d3, d4, d5, d6⟩ := hbase_is c1 hc
  obtain ⟨e1, e2, e3, e4, e5, e6⟩ := epo_is b1 d1
  obtain ⟨f1, f2, f3, f4, f5⟩ := vers_is a1 e1
  obtain ⟨g1, g2, g3⟩ := lets_is h f1
  have er := epRight_iff.1 e4
  refine ⟨g1, rightH_iff.2 ⟨⟨f2, f3⟩, er, d3, d4⟩, d2, ?_, ?_⟩
  · have x1 : s.hplain.1.at_ = ((s.hbegin.1.epo epRight).1.hbase s.hbegin.2).1.at_ := rfl
    rw [x1]
    have x2 : s.hbegin.1.at_ = s.lets.at_ + 1 := f4
    have x3 : s.hbegin.1.at_ < (s.hbegin.1.epo epRight).1.at_ := e5
    have x4 : (s.hbegin.1.epo epRight).1.at_ ≤ ((s.hbegin.1.epo epRight).1.hbase s.hbegin.2).1.at_ := d5
    omega
  · rw [c2, b2, a2] at d6
    rw [b2, a2] at e6
    rw [a2] at f5
    have y1 : s.l.take s.hplain.1.at_.toNat = s.l.take (s.lets.vers.1.epo epRight).1.at_.toNat ++ (if s.hbegin.2 = 1 then vb s.hplain.2.base else []) := d6
    rw [y1, e6, f5, g3]
    simp only [List.append_assoc]
    rfl
theorem from_take {s t : RS} (h0 : 0 ≤ s.at_) (h1 : s.at_ ≤ t.at_) {x : List Int} (hx : s.l.take t.at_.toNat = s.l.take s.at_.toNat ++ x) (hl : s.at_ ≤ s.l.length) : s.from t = x := by
  unfold RS.from
  have hA : (s.l.take s.at_.toNat).length = s.at_.toNat := by rw [List.length_take]; omega
  have e := congrArg (List.drop s.at_.toNat) hx
  rw [List.drop_take] at e
  exact e.trans (List.drop_left' hA)
theorem plainB_bys {h : Hd} (hr : rightH h = true) (hb : 0 ≤ h.base) : Bys (plainB h) := by
  obtain ⟨h1, h2, h3, h4⟩ := rightH_iff.1 hr
  intro y hy
  unfold plainB at hy
  rcases List.mem_append.1 hy with hy | hy
  · rcases List.mem_append.1 hy with hy | hy
    · simp only [thol, List.cons_append, List.nil_append, List.mem_cons, List.not_mem_nil, or_false] at hy
      omega
    · exact vb_by (by omega) (by omega) y hy
  · split at hy
    · exact vb_by hb (by omega) y hy
    · simp at hy
theorem plainB_len (h : Hd) : 6 ≤ (plainB h).length ∧ (plainB h).length ≤ 25 := by
  unfold plainB
  have h1 := vb_len h.ep
  have h2 := vb_len h.base
  simp only [List.length_append, thol, List.length_cons, List.length_nil]
  split
  · omega
  · simp only [List.length_nil]; omega
theorem headerB_len (h : Hd) : (headerB h).length = (plainB h).length + 4 := by unfold headerB; rw [List.length_append, lowBytes_len]
theorem headerB_bys {h : Hd} (hr : rightH h = true) (hb : 0 ≤ h.base) : Bys (headerB h) := by
  intro y hy
  rcases List.mem_append.1 hy with hy | hy
  · exact plainB_bys hr hb y hy
  · exact lowBytes_bys 4 _ y hy
/-- What was read of a header. -/
theorem header_is {s : RS} (h : ROk s) (hc : s.header.1.code = 0) : s.code = 0 ∧ rightH s.header.2 = true ∧ 0 ≤ s.header.2.base ∧ s.at_ + 10 ≤ s.header.1.at_ ∧ s.l.take s.header.1.at_.toNat = s.l.take s.at_.toNat ++ headerB s.header.2 := by
  unfold RS.header at hc ⊢
  by_cases h1 : (s.hplain.1.fixed 4).1.code = 0
  · rw [if_pos h1] at hc ⊢
    by_cases h2 : (s.hplain.1.fixed 4).2 = crcI (s.from s.hplain.1)
    · rw [if_pos h2]
      obtain ⟨a, b⟩ := hplain_keep h
      obtain ⟨t1, t2, t3, t4, t5⟩ := take_bytes a (n := 4) h1
      obtain ⟨p1, p2, p3, p4, p5⟩ := hplain_is h t1
      have hfr := from_take h.at0 (by omega) p5 h.at1
      have hfix : (s.hplain.1.fixed 4).1.at_ = s.hplain.1.at_ + 4 := t4
      refine ⟨p1, p2, p3, by simp only; omega, ?_⟩
      rw [b] at t5
      show s.l.take (s.hplain.1.take 4).1.at_.toNat = _
      rw [t5, p5, List.append_assoc]
      unfold headerB
      congr 2
      have hb : Bys (s.hplain.1.take 4).2 := take_bys a.bys 4
      have hl := low_fixOf hb
      have hlen : (s.hplain.1.take 4).2.length = 4 := by omega
      rw [hlen] at hl
      have h2' : fixOf (s.hplain.1.take 4).2 = crcI (plainB s.hplain.2) := by rw [← hfr]; exact h2
      rw [← h2']; exact hl.symm
    · rw [if_neg h2] at hc; exact absurd hc (fail_not0 _ _ h1 (by decide))
  · rw [if_neg h1] at hc; exact absurd hc h1
theorem header_bad {s : RS} (hc : ¬ s.header.1.code = 0) : s.header.2 = hd0 := by
  unfold RS.header at hc ⊢
  repeat' split
  · rename_i h1 h2; rw [if_pos h1, if_pos h2] at hc; exact absurd h1 hc
  · rfl
  · rfl
/-- A header that is written is read so. -/
theorem hplain_own {s : RS} {h : Hd} {r : List Int} (hs : ROk s) (hc : s.code = 0) (hr : rightH h = true) (hb : 0 ≤ h.base) (hrest : s.rest = plainB h ++ r) : s.hplain = (s.adv ((plainB h).length : Int), h) := by
  obtain ⟨h1, h2, h3, h4⟩ := rightH_iff.1 hr
  have e1 : s.rest = thol ++ ([h.ver] ++ (vb h.ep ++ ((if h.ver = 1 then vb h.base else []) ++ r))) := by rw [hrest]; unfold plainB; simp only [List.append_assoc]
  have t1 := take_own hs hc e1
  have t1' : s.take 4 = (s.adv 4, thol) := t1
  have hl : s.lets = s.adv 4 := by unfold RS.lets; rw [t1']; simp
  have hs1 : ROk (s.adv 4) := adv_ok hs e1
  have e2 : (s.adv 4).rest = [h.ver] ++ (vb h.ep ++ ((if h.ver = 1 then vb h.base else []) ++ r)) := by
    have := adv_rest (s := s) hs.at0 4
    have e : s.adv ((4 : Nat) : Int) = s.adv 4 := rfl
    rw [e, e1] at this; exact this
  have t2 := take_own hs1 (show (s.adv 4).code = 0 from hc) e2
  have t2' : (s.adv 4).take 1 = ((s.adv 4).adv 1, [h.ver]) := t2
  have hv : s.hbegin = (s.adv 5, h.ver) := by
    unfold RS.hbegin RS.vers
    rw [hl, t2']
    simp only [List.getD_cons_zero]
    rw [if_pos (show ((s.adv 4).adv 1).code = 0 from hc), if_pos h1, adv_adv]; rfl
  have hs2 : ROk (s.adv 5) := by have := adv_ok hs1 e2; rw [adv_adv] at this; exact this
  have e3 : (s.adv 5).rest = vb h.ep ++ ((if h.ver = 1 then vb h.base else []) ++ r) := by
    have := adv_rest (s := s.adv 4) hs1.at0 1
    have e : (s.adv 4).adv ((1 : Nat) : Int) = s.adv 5 := by rw [adv_adv]; rfl
    rw [e, e2] at this; exact this
  have hep := epo_own (ok := epRight) (show (s.adv 5).code = 0 from hc) (by omega) (by omega) (epRight_iff.2 h2) e3
  have hs3 := adv_ok hs2 e3
  have e4 : ((s.adv 5).adv ((vb h.ep).length : Int)).rest = (if h.ver = 1 then vb h.base else []) ++ r := by rw [adv_rest hs2.at0, e3, List.drop_left]
  have hlen : ((plainB h).length : Int) = 5 + (vb h.ep).length + (if h.ver = 1 then vb h.base else []).length := by
    unfold plainB; simp only [List.length_append, thol, List.length_cons, List.length_nil]; omega
  have hba : ((s.adv 5).adv ((vb h.ep).length : Int)).hbase h.ver = (s.adv ((plainB h).length : Int), h.base) := by
    unfold RS.hbase
    by_cases hv1 : h.ver = 1
    · rw [if_pos hv1]
      rw [if_pos hv1] at e4 hlen
      have := epo_own (ok := epPos) (show ((s.adv 5).adv ((vb h.ep).length : Int)).code = 0 from hc) hb (by omega) (epPos_iff.2 h3) e4
      rw [this, adv_adv, adv_adv, hlen, Int.add_assoc]
    · rw [if_neg hv1]
      rw [if_neg hv1] at hlen
      have hb0 : h.base = 0 := by omega
      rw [adv_adv, hlen, hb0]
      simp
  unfold RS.hplain
  rw [hv]; simp only
  rw [hep]; simp only
  rw [hba]
theorem header_own {s : RS} {h : Hd} {r : List Int} (hs : ROk s) (hc : s.code = 0) (hr : rightH h = true) (hb : 0 ≤ h.base) (hrest : s.rest = headerB h ++ r) : s.header = (s.adv ((headerB h).length : Int), h) := by
  have e1 : s.rest = plainB h ++ (lowBytes 4 (crcI (plainB h)) ++ r) := by rw [hrest]; unfold headerB; rw [List.append_assoc]
  have hp := hplain_own hs hc hr hb e1
  have hs1 := adv_ok hs e1
  have e2 : (s.adv ((plainB h).length : Int)).rest = lowBytes 4 (crcI (plainB h)) ++ r := by rw [adv_rest hs.at0, e1, List.drop_left]
  have ht := take_own hs1 (show (s.adv ((plainB h).length : Int)).code = 0 from hc) e2
  rw [lowBytes_len] at ht
  have hcr := crcI_range (plainB_bys hr hb)
  have hf : (s.adv ((plainB h).length : Int)).fixed 4 = (s.adv ((headerB h).length : Int), crcI (plainB h)) := by
    unfold RS.fixed
    have ht' : (s.adv ((plainB h).length : Int)).take 4 = ((s.adv ((plainB h).length : Int)).adv 4, lowBytes 4 (crcI (plainB h))) := ht
    rw [ht', fixOf_low 4 _ hcr.1 (by simpa using hcr.2), adv_adv, headerB_len]
    rfl
  have hfr : s.from (s.adv ((plainB h).length : Int)) = plainB h := by
    unfold RS.from
    have h0 := hs.at0
    have e3 : (s.adv ((plainB h).length : Int)).at_.toNat - s.at_.toNat = (plainB h).length := by
      show (s.at_ + ((plainB h).length : Int)).toNat - s.at_.toNat = _; omega
    rw [e3]
    show s.rest.take _ = _
    rw [e1, List.take_left]
  unfold RS.header
  rw [hp]; simp only
  rw [hf]; simp only
  rw [if_pos (show (s.adv ((headerB h).length : Int)).code = 0 from hc), hfr, if_pos rfl]
end Go.Proofs.YtnfagphepkeedaaGreat
end
section
namespace Go.Proofs.YtnfagphepkeedaaGreat

/-- A link: a stream, and the entries of it ahead. -/
structure Lk where
  st : Int
  bk : List Int
  deriving DecidableEq
def lk0 : Lk := ⟨0, []⟩
structure Lk.ok (x : Lk) : Prop where
  s0 : 0 ≤ x.st
  s1 : x.st < 18446744073709551616
  b : U64s x.bk
def Lks (l : List Lk) : Prop := ∀ x ∈ l, x.ok
/-- The stream of the last of some links; -1: there is none. -/
def lst (acc : List Lk) : Int := (acc.getLastD ⟨-1, []⟩).st
theorem lst_nil : lst [] = -1 := rfl
theorem lst_snoc (acc : List Lk) (x : Lk) : lst (acc ++ [x]) = x.st := by simp [lst]
theorem lst_get (l : List Lk) (h : 0 < l.length) : lst l = (l.getD (l.length - 1) lk0).st := by
  rcases List.eq_nil_or_concat l with rfl | ⟨l, x, rfl⟩
  · simp at h
  · simp [lst]
theorem lst_take (l : List Lk) (i : Nat) (h : i ≤ l.length) : lst (l.take i) = if i = 0 then -1 else (l.getD (i - 1) lk0).st := by
  split
  · rename_i h0; subst h0; rfl
  · rw [lst_get _ (by simp; omega)]
    have : (l.take i).length = i := by simp; omega
    rw [this]
    simp [show i - 1 < i by omega]
def linkNx (pos : Int) (acc : List Lk) (x : Lk) : Prop := lst acc < x.st ∧ x.st < 18446744073709551616 ∧ U64s x.bk ∧ falls pos x.bk = true ∧ x.bk.length ≤ 4
/-- The reader behind a stream's number. -/
def RS.lkHead (s : RS) (acc : List Lk) : RS := if s.vint.1.code = 0 ∧ 18446744073709551616 ≤ lst acc + 1 + s.vint.2 then s.vint.1.fail 13 s.at_ else s.vint.1
def linkF (pos : Int) : Fmt Lk :=
  ⟨fun s acc => (((s.lkHead acc).fall pos 4).1, ⟨lst acc + 1 + s.vint.2, ((s.lkHead acc).fall pos 4).2⟩), fun acc x => vb (x.st - lst acc - 1) ++ fallB pos x.bk, linkNx pos⟩
theorem lst_ge {pos : Int} {acc : List Lk} (h : Wf (linkNx pos) [] acc) : -1 ≤ lst acc ∧ lst acc < 18446744073709551616 := by
  have gen : ∀ n, ∀ acc : List Lk, acc.length = n → Wf (linkNx pos) [] acc → -1 ≤ lst acc ∧ lst acc < 18446744073709551616 := by
    intro n
    induction n with
    | zero => intro acc h _; rw [List.eq_nil_of_length_eq_zero h]; exact ⟨Int.le_refl _, by decide⟩
    | succ n ih =>
      intro acc h hw
      rcases List.eq_nil_or_concat acc with rfl | ⟨l, x, rfl⟩
      · simp at h
      · rw [List.concat_eq_append] at h hw ⊢
        obtain ⟨h1, h2⟩ := wf_snoc.1 hw
        have := ih l (by simpa using h) h1
        rw [lst_snoc]
        have h3 : lst ([] ++ l) < x.st := h2.1
        simp only [List.nil_append] at h3
        exact ⟨by omega, h2.2.1⟩
  exact gen _ acc rfl h
theorem fall_keep {s : RS} {b : Int} (h : ROk s) (hb : b < 18446744073709551616) (m : Int) : ROk (s.fall b m).1 ∧ (s.fall b m).1.l = s.l := counted_keep (fallF_ok hb) h m
theorem fallB_bys {b : Int} {l : List Int} (hb : b < 18446744073709551616) (hl : U64s l) (hf : falls b l = true) (hn : l.length < 18446744073709551616) : Bys (fallB b l) := by
  unfold fallB
  intro y hy
  rcases List.mem_append.1 hy with hy | hy
  · exact vb_by (by omega) (by omega) y hy
  · exact vbs_bys (dsts_u64 hb hl hf (Nat.le_refl _)) y hy
theorem fall_is {s : RS} {b m : Int} (h : ROk s) (b0 : 0 ≤ b) (hb : b < 18446744073709551616) (hc : (s.fall b m).1.code = 0) : s.code = 0 ∧ U64s (s.fall b m).2 ∧ falls b (s.fall b m).2 = true ∧ ((s.fall b m).2.length : Int) ≤ m ∧ s.at_ < (s.fall b m).1.at_ ∧ s.l.take (s.fall b m).1.at_.toNat = s.l.take s.at_.toNat ++ fallB b (s.fall b m).2 := by
  obtain ⟨c1, c2, c3, c4, c5⟩ := counted_is (fallF_ok hb) h hc
  have hu : U64s (s.fall b m).2 := by
    intro x hx
    obtain ⟨i, hi, rfl⟩ := List.getElem_of_mem hx
    have hn := wf_get i hi c1
    have hw := wf_take i c1
    have hl := fall_le hw
    simp only [List.nil_append] at hn
    have hn1 : 0 ≤ (s.fall b m).2[i] ∧ (s.fall b m).2[i] < blw b ((s.fall b m).2.take i) := hn
    exact ⟨hn1.1, by have : blw b ((s.fall b m).2.take i) ≤ b := hl; omega⟩
  refine ⟨c3, hu, (falls_wf hu).2 c1, c2, c5, ?_⟩
  have e : encs (fallF b).enc [] ((fallF b).counted m s).2 = vbs (dsts b ((fallF b).counted m s).2 ((fallF b).counted m s).2.length) := fall_encs
  rw [e, List.append_assoc] at c4
  exact c4
theorem fall_own {s : RS} {b m : Int} {l r : List Int} (h : ROk s) (hc : s.code = 0) (hb : b < 18446744073709551616) (hl : U64s l) (hf : falls b l = true) (hm : (l.length : Int) ≤ m) (hn : l.length < 18446744073709551616) (hr : s.rest = fallB b l ++ r) : s.fall b m = (s.adv ((fallB b l).length : Int), l) := by
  have hw := (falls_wf hl).1 hf
  unfold fallB at hr ⊢
  rw [List.append_assoc] at hr
  have e : encs (fallF b).enc [] l = vbs (dsts b l l.length) := fall_encs
  have := counted_own (fallF_ok hb) h hc hm hw hn (r := r) (by rw [e]; exact hr)
  unfold RS.fall
  rw [this, e, List.length_append]
  rfl
theorem linkF_ok {pos : Int} (p0 : 0 ≤ pos) (p1 : pos < 18446744073709551616) : (linkF pos).Ok := by
  refine ⟨fun s acc h _ => ?_, fun s acc h hw hc => ?_, fun s acc x r h hc hw hx hr => ?_, fun acc x hw hx => ?_⟩
  · obtain ⟨a, c⟩ := h.vint
    have hk : ROk (s.lkHead acc) ∧ (s.lkHead acc).l = s.l := by
      unfold RS.lkHead
      split
      · exact ⟨a.fail _ _, by rw [fail_l]; exact c⟩
      · exact ⟨a, c⟩
    have hf := fall_keep hk.1 p1 4
    exact ⟨hf.1, hf.2.trans hk.2⟩
  · have hg := lst_ge hw
    have hv := vint_range (s := s) h.bys
    obtain ⟨a, c⟩ := h.vint
    have hkh : (s.lkHead acc).code = 0 ∧ ROk (s.lkHead acc) := by
      have hk : ROk (s.lkHead acc) := by
        unfold RS.lkHead
        split
        · exact a.fail _ _
        · exact a
      exact ⟨(fall_is hk p0 p1 hc).1, hk⟩
    have hno : ¬ (s.vint.1.code = 0 ∧ 18446744073709551616 ≤ lst acc + 1 + s.vint.2) := by
      intro hx
      have := hkh.1
      unfold RS.lkHead at this
      rw [if_pos hx] at this
      exact absurd this (fail_not0 _ _ hx.1 (by decide))
    have hke : s.lkHead acc = s.vint.1 := by unfold RS.lkHead; rw [if_neg hno]
    have hc' : ((s.lkHead acc).fall pos 4).1.code = 0 := hc
    rw [hke] at hkh hc'
    obtain ⟨f1, f2, f3, f4, f5, f6⟩ := fall_is hkh.2 p0 p1 hc'
    obtain ⟨v1, v2, v3⟩ := vint_bytes h hkh.1
    have ha := vint_adv h hkh.1
    have hlt : lst acc + 1 + s.vint.2 < 18446744073709551616 := by
      rcases Int.lt_or_le (lst acc + 1 + s.vint.2) 18446744073709551616 with h1 | h1
      · exact h1
      · exact absurd ⟨hkh.1, h1⟩ hno
    simp only [linkF]
    rw [hke]
    refine ⟨v3, ⟨by simp only; omega, hlt, f2, f3, by simp only; omega⟩, by omega, ?_⟩
    rw [c] at f6
    rw [f6, v1, List.append_assoc]
    have e : lst acc + 1 + s.vint.2 - lst acc - 1 = s.vint.2 := by omega
    rw [e]
  · have hg := lst_ge hw
    obtain ⟨x1, x2, x3, x4, x5⟩ := hx
    simp only [linkF] at hr ⊢
    rw [List.append_assoc] at hr
    have hv := vint_own hc (by omega) (by omega) hr
    have hok := adv_ok h hr
    have hke : s.lkHead acc = s.adv ((vb (x.st - lst acc - 1)).length : Int) := by
      unfold RS.lkHead; rw [hv]; simp only; rw [if_neg (by omega)]
    have hr2 : (s.adv ((vb (x.st - lst acc - 1)).length : Int)).rest = fallB pos x.bk ++ r := by rw [adv_rest h.at0, hr, List.drop_left]
    have hfo := fall_own (m := 4) hok (show (s.adv ((vb (x.st - lst acc - 1)).length : Int)).code = 0 from hc) p1 x3 x4 (by omega) (by omega) hr2
    rw [hke, hfo, hv, adv_adv]
    simp only [Prod.mk.injEq]
    refine ⟨by rw [List.length_append]; rfl, ?_⟩
    cases x
    simp only [Lk.mk.injEq, and_true]
    simp only at x1
    omega
  · have hg := lst_ge hw
    obtain ⟨x1, x2, x3, x4, x5⟩ := hx
    intro y hy
    rcases List.mem_append.1 hy with hy | hy
    · exact vb_by (by omega) (by omega) y hy
    · exact fallB_bys p1 x3 x4 (by omega) y hy
/-- Do links rise by their streams? -/
def risesL (l : List Lk) : Bool := (List.range l.length).all fun i => decide (i = 0 ∨ (l.getD (i - 1) lk0).st < (l.getD i lk0).st)
theorem risesL_iff {l : List Lk} : risesL l = true ↔ ∀ i, i < l.length → 0 < i → (l.getD (i - 1) lk0).st < (l.getD i lk0).st := by
  unfold risesL
  rw [List.all_eq_true]
  constructor
  · intro h i hi h0
    have := h i (List.mem_range.2 hi)
    simp only [decide_eq_true_eq] at this
    omega
  · intro h i hi
    simp only [decide_eq_true_eq]
    rcases Nat.eq_zero_or_pos i with h0 | h0
    · exact .inl h0
    · exact .inr (h i (List.mem_range.1 hi) h0)
def goodL (pos : Int) (x : Lk) : Bool := decide (x.bk.length ≤ 4) && falls pos x.bk
theorem goodL_iff {pos : Int} {x : Lk} : goodL pos x = true ↔ x.bk.length ≤ 4 ∧ falls pos x.bk = true := by simp [goodL]
/-- Are links well-formed? -/
def rightL (pos : Int) (l : List Lk) : Bool := decide (l.length ≤ 16) && risesL l && l.all (goodL pos)
theorem rightL_iff {pos : Int} {l : List Lk} : rightL pos l = true ↔ l.length ≤ 16 ∧ risesL l = true ∧ ∀ x ∈ l, goodL pos x = true := by
  simp [rightL, and_assoc]
theorem lk_mem (l : List Lk) (k : Nat) (h : k < l.length) : l.getD k lk0 ∈ l := by simp [h]
theorem rightL_wf {pos : Int} {l : List Lk} (hl : Lks l) : rightL pos l = true ↔ l.length ≤ 16 ∧ Wf (linkNx pos) [] l := by
  rw [rightL_iff]
  constructor
  · rintro ⟨h1, h2, h3⟩
    refine ⟨h1, wf_of fun k hk => ?_⟩
    have e : l[k] = l.getD k lk0 := by simp [hk]
    have hm := lk_mem l k hk
    rw [e, List.nil_append]
    obtain ⟨g1, g2⟩ := goodL_iff.1 (h3 _ hm)
    have ho := hl _ hm
    refine ⟨?_, ho.s1, ho.b, g2, g1⟩
    rw [lst_take l k (by omega)]
    split
    · have := ho.s0; omega
    · exact risesL_iff.1 h2 k hk (by omega)
  · rintro ⟨h1, h2⟩
    have key : ∀ k, k < l.length → linkNx pos (l.take k) (l.getD k lk0) := fun k hk => by
      have := wf_get k hk h2
      have e : l[k] = l.getD k lk0 := by simp [hk]
      rw [e, List.nil_append] at this
      exact this
    refine ⟨h1, risesL_iff.2 fun i hi h0 => ?_, fun x hx => ?_⟩
    · have := (key i hi).1
      rw [lst_take l i (by omega), if_neg (by omega)] at this
      exact this
    · obtain ⟨i, hi, rfl⟩ := List.getElem_of_mem hx
      have e : l[i] = l.getD i lk0 := by simp [hi]
      rw [e]
      obtain ⟨_, _, _, k4, k5⟩ := key i hi
      exact goodL_iff.2 ⟨k5, k4⟩
/-- How links are written. -/
def linksB (pos : Int) (l : List Lk) : List Int := vb l.length ++ encs (linkF pos).enc [] l
/-- The reader behind links, and these. -/
def RS.links (s : RS) (pos : Int) : RS × List Lk := (linkF pos).counted 16 s
theorem links_keep {s : RS} {pos : Int} (h : ROk s) (p0 : 0 ≤ pos) (p1 : pos < 18446744073709551616) : ROk (s.links pos).1 ∧ (s.links pos).1.l = s.l := counted_keep (linkF_ok p0 p1) h 16
theorem links_bad {s : RS} {pos : Int} (hc : ¬ (s.links pos).1.code = 0) : (s.links pos).2 = [] := counted_bad 16 hc
theorem links_is {s : RS} {pos : Int} (h : ROk s) (p0 : 0 ≤ pos) (p1 : pos < 18446744073709551616) (hc : (s.links pos).1.code = 0) : s.code = 0 ∧ Lks (s.links pos).2 ∧ rightL pos (s.links pos).2 = true ∧ s.at_ < (s.links pos).1.at_ ∧ s.l.take (s.links pos).1.at_.toNat = s.l.take s.at_.toNat ++ linksB pos (s.links pos).2 := by
  obtain ⟨c1, c2, c3, c4, c5⟩ := counted_is (linkF_ok p0 p1) h hc
  have hks : Lks (s.links pos).2 := by
    intro x hx
    obtain ⟨i, hi, rfl⟩ := List.getElem_of_mem hx
    have hn := wf_get i hi c1
    have hg := lst_ge (wf_take i c1)
    rw [List.nil_append] at hn
    obtain ⟨n1, n2, n3, n4, n5⟩ := hn
    exact ⟨by have : -1 ≤ lst ((s.links pos).2.take i) := hg.1; have n1' : lst ((s.links pos).2.take i) < ((s.links pos).2[i]).st := n1; omega, n2, n3⟩
  refine ⟨c3, hks, (rightL_wf hks).2 ⟨by have : ((s.links pos).2.length : Int) ≤ 16 := c2; omega, c1⟩, c5, ?_⟩
  rw [List.append_assoc] at c4
  exact c4
theorem links_own {s : RS} {pos : Int} {l : List Lk} {r : List Int} (h : ROk s) (hc : s.code = 0) (p0 : 0 ≤ pos) (p1 : pos < 18446744073709551616) (hl : Lks l) (hr : rightL pos l = true) (hrest : s.rest = linksB pos l ++ r) : s.links pos = (s.adv ((linksB pos l).length : Int), l) := by
  obtain ⟨h1, h2⟩ := (rightL_wf hl).1 hr
  unfold linksB at hrest ⊢
  rw [List.append_assoc] at hrest
  have := counted_own (linkF_ok p0 p1) h hc (m := 16) (by omega) h2 (by omega) hrest
  unfold RS.links
  rw [this, List.length_append]; rfl
theorem linksB_bys {pos : Int} {l : List Lk} (p0 : 0 ≤ pos) (p1 : pos < 18446744073709551616) (hl : Lks l) (hr : rightL pos l = true) : Bys (linksB pos l) := by
  obtain ⟨h1, h2⟩ := (rightL_wf hl).1 hr
  intro y hy
  rcases List.mem_append.1 hy with hy | hy
  · exact vb_by (by omega) (by omega) y hy
  · exact encs_bys (acc := []) (linkF_ok p0 p1) trivial h2 y hy
end Go.Proofs.YtnfagphepkeedaaGreat
end
section
namespace Go.Proofs.YtnfagphepkeedaaGreat

/-- An entry: its links, its data. -/
structure En where
  lk : List Lk
  data : List Int
def en0 : En := ⟨[], []⟩
structure En.ok (e : En) : Prop where
  lk : Lks e.lk
  data : Bys e.data
def Ens (l : List En) : Prop := ∀ e ∈ l, e.ok
def rightE (pos : Int) (e : En) : Bool := rightL pos e.lk && decide (e.data.length ≤ 1048576)
theorem rightE_iff {pos : Int} {e : En} : rightE pos e = true ↔ rightL pos e.lk = true ∧ e.data.length ≤ 1048576 := by simp [rightE]
/-- How an entry's head is written. -/
def headE (pos : Int) (e : En) : List Int := linksB pos e.lk ++ vb e.data.length
theorem Cl.many {β : Type} {F : Fmt β} (hF : ∀ s acc, Cl s → Cl (F.f s acc).1) : ∀ (n : Nat) (s : RS) (acc : List β), Cl s → Cl (F.many n s acc).1 := by
  intro n
  induction n with
  | zero => intro s acc h; exact h
  | succ n ih =>
    intro s acc h
    unfold Fmt.many
    split
    · exact ih _ _ (hF s acc h)
    · exact hF s acc h
theorem Cl.counted {β : Type} {F : Fmt β} (hF : ∀ s acc, Cl s → Cl (F.f s acc).1) {s : RS} (h : Cl s) (m : Int) : Cl (F.counted m s).1 := Cl.many hF _ _ _ (h.int m)
theorem Cl.fall {s : RS} (h : Cl s) (b m : Int) : Cl (s.fall b m).1 := by
  refine Cl.counted (F := fallF b) (fun s acc h => ?_) h m
  simp only [fallF]
  split
  · exact h.vint.fail _ _
  · exact h.vint
theorem Cl.links {s : RS} (h : Cl s) (pos : Int) : Cl (s.links pos).1 := by
  refine Cl.counted (F := linkF pos) (fun s acc h => ?_) h 16
  simp only [linkF]
  refine Cl.fall ?_ _ _
  unfold RS.lkHead
  split
  · exact h.vint.fail _ _
  · exact h.vint
/-- Entries' data, one behind the other. -/
def joinE (l : List En) : List Int := l.flatMap (·.data)
theorem joinE_snoc (l : List En) (e : En) : joinE (l ++ [e]) = joinE l ++ e.data := by simp [joinE]
end Go.Proofs.YtnfagphepkeedaaGreat
end
section
namespace Go.Proofs.YtnfagphepkeedaaGreat

section
variable {pre : List Int}
end
end Go.Proofs.YtnfagphepkeedaaGreat
end
section
namespace Go.Proofs.YtnfagphepkeedaaGreat

/-- A footer. -/
structure Ft where
  ep : Int
  bat : Int
  ent : Int
  fst : Int
  fin : Int
  at_ : Int
  size : Int
  deriving DecidableEq
structure Ft.ok (f : Ft) : Prop where
  ep : 0 ≤ f.ep ∧ f.ep < 18446744073709551616
  bat : -9223372036854775808 ≤ f.bat ∧ f.bat < 9223372036854775808
  ent : -9223372036854775808 ≤ f.ent ∧ f.ent < 9223372036854775808
  fst : 0 ≤ f.fst ∧ f.fst < 18446744073709551616
  fin : 0 ≤ f.fin ∧ f.fin < 18446744073709551616
  at_ : -9223372036854775808 ≤ f.at_ ∧ f.at_ < 9223372036854775808
  size : -9223372036854775808 ≤ f.size ∧ f.size < 9223372036854775808
def RS.rest9 (s : RS) : RS := if 0 < s.left then s.fail 9 s.at_ else s
theorem rest9_code {s : RS} (h : s.rest9.code = 0) : s.code = 0 ∧ s.left ≤ 0 ∧ s.rest9 = s := by
  unfold RS.rest9 at h ⊢
  by_cases hl : 0 < s.left
  · rw [if_pos hl] at h
    by_cases hc : s.code = 0
    · exact absurd h (fail_not0 _ _ hc (by decide))
    · unfold RS.fail at h; rw [if_neg hc] at h; exact absurd h hc
  · rw [if_neg hl] at h ⊢; exact ⟨h, by omega, rfl⟩
end Go.Proofs.YtnfagphepkeedaaGreat
end
section
namespace Go.Proofs.YtnfagphepkeedaaGreat

/-- An entry of the version 1. -/
structure O1 where
  st : Int
  bk : Int
  hb : Bool
  data : List Int
  deriving DecidableEq
def o10 : O1 := ⟨0, 0, false, []⟩
structure O1.ok (x : O1) : Prop where
  s0 : 0 ≤ x.st
  s1 : x.st < 18446744073709551616
  b0 : 0 ≤ x.bk
  b1 : x.bk < 18446744073709551616
  data : Bys x.data
def O1s (l : List O1) : Prop := ∀ x ∈ l, x.ok
/-- A segment of the version 1. -/
structure Sg1 where
  ep : Int
  base : Int
  en : List O1
  deriving DecidableEq
def sg10 : Sg1 := ⟨0, 0, []⟩
def sumO (l : List O1) : Int := ((l.flatMap (·.data)).length : Int)
theorem sumO_nil : sumO [] = 0 := rfl
theorem sumO_ge (l : List O1) : 0 ≤ sumO l := by unfold sumO; omega
theorem sumO_snoc (l : List O1) (x : O1) : sumO (l ++ [x]) = sumO l + x.data.length := by simp [sumO]
theorem o1_take (l : List O1) (k : Nat) (h : k < l.length) : l.take (k + 1) = l.take k ++ [l.getD k o10] := by
  rw [List.take_succ_eq_append_getElem h]; simp [h]
theorem o1_mem (l : List O1) (k : Nat) (h : k < l.length) : l.getD k o10 ∈ l := by simp [h]
theorem sumO_take (l : List O1) (k : Nat) (h : k < l.length) : sumO (l.take (k + 1)) = sumO (l.take k) + (l.getD k o10).data.length := by rw [o1_take l k h, sumO_snoc]
theorem sumO_le (l : List O1) (k : Nat) : sumO (l.take k) ≤ sumO l := by
  have e : l.flatMap (·.data) = (l.take k).flatMap (·.data) ++ (l.drop k).flatMap (·.data) := by rw [← List.flatMap_append, List.take_append_drop]
  unfold sumO
  rw [e, List.length_append]; omega
/-- Are so many positions some, from one on? -/
def fitsB (base n : Int) : Bool := decide (base < 4611686018427387904) && decide (base + n ≤ 4611686018427387904)
theorem fitsB_iff {base n : Int} : fitsB base n = true ↔ base < 4611686018427387904 ∧ base + n ≤ 4611686018427387904 := by simp [fitsB]
def goodO (pos : Int) (x : O1) : Bool := if x.hb = true then decide (x.bk < pos) else decide (x.bk = 0)
/-- Is a segment of the version 1 well-formed? -/
def right1 (u : Sg1) : Bool := epRight u.ep && decide (u.en.length ≤ 400) && fitsB u.base u.en.length && decide (sumO u.en ≤ 1048576) && (List.range u.en.length).all fun i => goodO (u.base + i) (u.en.getD i o10)
theorem right1_iff {u : Sg1} : right1 u = true ↔ (1 ≤ u.ep ∧ u.ep < 4611686018427387904) ∧ u.en.length ≤ 400 ∧ (u.base < 4611686018427387904 ∧ u.base + u.en.length ≤ 4611686018427387904) ∧ sumO u.en ≤ 1048576 ∧ ∀ i, i < u.en.length → goodO (u.base + i) (u.en.getD i o10) = true := by
  unfold right1
  simp only [Bool.and_eq_true, decide_eq_true_eq, epRight_iff, fitsB_iff, List.all_eq_true, List.mem_range, and_assoc]
/-- By how much the entry ahead is ahead; 0: there is none. -/
def backO (pos : Int) (x : O1) : Int := if x.hb = true then pos - x.bk else 0
theorem fail_badc {s : RS} {c : Int} (a : Int) (h : ¬ c = 0) : ¬ (s.fail c a).code = 0 := by
  unfold RS.fail
  by_cases hc : s.code = 0
  · rw [if_pos hc]; simp only [flt, if_neg h]; exact h
  · rw [if_neg hc]; exact hc
theorem fail_stays {s : RS} {c a : Int} (h : ¬ s.code = 0) : s.fail c a = s := by unfold RS.fail; rw [if_neg h]
/-- The reader behind a stream's number and the way back. -/
def RS.oback (s : RS) (pos : Int) : RS := if s.vint.1.vint.1.code = 0 ∧ pos < s.vint.1.vint.2 then s.vint.1.vint.1.fail 3 s.vint.1.at_ else s.vint.1.vint.1
def oldV (s : RS) (pos : Int) (d : List Int) : O1 := if 0 < s.vint.1.vint.2 ∧ (s.oback pos).code = 0 then ⟨s.vint.2, pos - s.vint.1.vint.2, true, d⟩ else ⟨s.vint.2, 0, false, d⟩
structure oldNx (base : Int) (acc : List O1) (x : O1) : Prop where
  s0 : 0 ≤ x.st
  s1 : x.st < 18446744073709551616
  b0 : 0 ≤ x.bk
  good : goodO (base + acc.length) x = true
  data : Bys x.data
  sum : sumO acc + x.data.length ≤ 1048576
  pos : base + acc.length < 4611686018427387904
def oldF (base : Int) : Fmt O1 := ⟨fun s acc => if base + acc.length < 4611686018427387904 then (((s.oback (base + acc.length)).blob (1048576 - sumO acc)).1, oldV s (base + acc.length) ((s.oback (base + acc.length)).blob (1048576 - sumO acc)).2) else (s.fail 3 0, o10),
  fun acc x => vb x.st ++ (vb (backO (base + acc.length) x) ++ blobB x.data), fun acc x => oldNx base acc x⟩
theorem oldF_f {base : Int} {s : RS} {acc : List O1} (h : base + acc.length < 4611686018427387904) : (oldF base).f s acc = (((s.oback (base + acc.length)).blob (1048576 - sumO acc)).1, oldV s (base + acc.length) ((s.oback (base + acc.length)).blob (1048576 - sumO acc)).2) := by
  simp only [oldF]; rw [if_pos h]
theorem oback_keep {s : RS} (h : ROk s) (pos : Int) : ROk (s.oback pos) ∧ (s.oback pos).l = s.l := by
  obtain ⟨a, b⟩ := h.vint
  obtain ⟨c, d⟩ := a.vint
  unfold RS.oback
  split
  · exact ⟨c.fail _ _, by rw [fail_l]; exact d.trans b⟩
  · exact ⟨c, d.trans b⟩
theorem oback_is {s : RS} {pos : Int} (hc : (s.oback pos).code = 0) : s.vint.1.vint.1.code = 0 ∧ s.vint.1.vint.2 ≤ pos ∧ s.oback pos = s.vint.1.vint.1 := by
  unfold RS.oback at hc ⊢
  by_cases h : s.vint.1.vint.1.code = 0 ∧ pos < s.vint.1.vint.2
  · rw [if_pos h] at hc; exact absurd hc (fail_badc _ (by decide))
  · rw [if_neg h] at hc ⊢
    exact ⟨hc, by omega, rfl⟩
theorem blobB_bys {b : List Int} (h : Bys b) (hn : b.length < 18446744073709551616) : Bys (blobB b) := by
  intro y hy
  rcases List.mem_append.1 hy with hy | hy
  · exact vb_by (by omega) (by omega) y hy
  · exact h y hy
theorem backO_range {pos : Int} {x : O1} (h : goodO pos x = true) (b0 : 0 ≤ x.bk) : 0 ≤ backO pos x ∧ (0 ≤ pos → backO pos x ≤ pos) ∧ (0 < backO pos x ↔ x.hb = true) ∧ (x.hb = false → x.bk = 0) := by
  unfold goodO at h
  unfold backO
  cases hb : x.hb with
  | true => rw [hb] at h; simp at h ⊢; omega
  | false => rw [hb] at h; simp at h ⊢; exact h
theorem oldF_ok {base : Int} (b0 : 0 ≤ base) : (oldF base).Ok := by
  refine ⟨fun s acc h _ => ?_, fun s acc h hw hc => ?_, fun s acc x r h hc hw hx hr => ?_, fun acc x hw hx => ?_⟩
  · by_cases hp : base + acc.length < 4611686018427387904
    · rw [oldF_f hp]
      obtain ⟨a, b⟩ := oback_keep h (base + acc.length)
      obtain ⟨c, d⟩ := RS.ok.blob a (1048576 - sumO acc)
      exact ⟨c, d.trans b⟩
    · simp only [oldF]; rw [if_neg hp]; exact ⟨h.fail _ _, fail_l _ _ _⟩
  · by_cases hp : base + acc.length < 4611686018427387904
    · rw [oldF_f hp] at hc ⊢
      simp only at hc ⊢
      obtain ⟨a, b⟩ := oback_keep h (base + acc.length)
      obtain ⟨d1, d2, d3, d4⟩ := blob_is a hc
      obtain ⟨o1, o2, o3⟩ := oback_is d1
      obtain ⟨v1, v2⟩ := h.vint
      have c1 := vint_code o1
      have r1 := vint_range (s := s) h.bys
      have r2 := vint_range (s := s.vint.1) v1.bys
      obtain ⟨x1, x2, x3⟩ := vint_bytes h c1
      obtain ⟨y1, y2, y3⟩ := vint_bytes v1 o1
      have xa := vint_adv h c1
      have ya := vint_adv v1 o1
      have hsh := blob_short a (1048576 - sumO acc)
      have hV : oldV s (base + acc.length) ((s.oback (base + acc.length)).blob (1048576 - sumO acc)).2 = if 0 < s.vint.1.vint.2 then ⟨s.vint.2, base + acc.length - s.vint.1.vint.2, true, ((s.oback (base + acc.length)).blob (1048576 - sumO acc)).2⟩ else ⟨s.vint.2, 0, false, ((s.oback (base + acc.length)).blob (1048576 - sumO acc)).2⟩ := by
        unfold oldV; rw [d1]; simp
      have hbk : backO (base + acc.length) (oldV s (base + acc.length) ((s.oback (base + acc.length)).blob (1048576 - sumO acc)).2) = s.vint.1.vint.2 := by
        rw [hV]; unfold backO
        split
        · simp; omega
        · simp; omega
      have hst : (oldV s (base + acc.length) ((s.oback (base + acc.length)).blob (1048576 - sumO acc)).2).st = s.vint.2 := by rw [hV]; split <;> rfl
      have hda : (oldV s (base + acc.length) ((s.oback (base + acc.length)).blob (1048576 - sumO acc)).2).data = ((s.oback (base + acc.length)).blob (1048576 - sumO acc)).2 := by rw [hV]; split <;> rfl
      rw [o3] at d3
      refine ⟨x3, ⟨by rw [hst]; omega, by rw [hst]; omega, ?_, ?_, by rw [hda]; exact hsh.2, by rw [hda]; omega, hp⟩, by rw [o3]; omega, ?_⟩
      · rw [hV]; split <;> simp; omega
      · rw [hV]; unfold goodO; split <;> simp; omega
      · simp only [oldF]
        rw [hbk, hst, hda]
        rw [b, o3] at d4
        rw [o3, d4]
        rw [x2] at y1
        rw [y1, x1]
        simp only [List.append_assoc]
    · simp only [oldF] at hc; rw [if_neg hp] at hc; exact absurd hc (fail_badc _ (by decide))
  · obtain ⟨x1, x2, x3, x4, x5, x6, x7⟩ := hx
    have hbr := backO_range x4 x3
    rw [oldF_f x7]
    simp only [oldF] at hr ⊢
    rw [List.append_assoc, List.append_assoc] at hr
    have hs0 := sumO_ge acc
    have h1 := vint_own hc x1 x2 hr
    have k1 := adv_ok h hr
    have e2 : (s.adv ((vb x.st).length : Int)).rest = vb (backO (base + acc.length) x) ++ (blobB x.data ++ r) := by rw [adv_rest h.at0, hr, List.drop_left]
    have h2 := vint_own (show (s.adv ((vb x.st).length : Int)).code = 0 from hc) hbr.1 (by have := hbr.2.1 (by omega); omega) e2
    have k2 := adv_ok k1 e2
    have e3 : ((s.adv ((vb x.st).length : Int)).adv ((vb (backO (base + acc.length) x)).length : Int)).rest = blobB x.data ++ r := by rw [adv_rest k1.at0, e2, List.drop_left]
    have ho : s.oback (base + acc.length) = (s.adv ((vb x.st).length : Int)).adv ((vb (backO (base + acc.length) x)).length : Int) := by
      unfold RS.oback
      rw [h1]; simp only
      rw [h2]; simp only
      rw [if_neg (by have := hbr.2.1 (by omega); omega)]
    have h3 := blob_own (m := 1048576 - sumO acc) k2 (show ((s.adv ((vb x.st).length : Int)).adv ((vb (backO (base + acc.length) x)).length : Int)).code = 0 from hc) (by omega) (by omega) e3
    rw [ho, h3]
    simp only [Prod.mk.injEq]
    refine ⟨by rw [adv_adv, adv_adv, List.length_append, List.length_append]; congr 1, ?_⟩
    unfold oldV
    rw [ho, h1]; simp only
    rw [h2]; simp only
    have hcc : ((s.adv ((vb x.st).length : Int)).adv ((vb (backO (base + acc.length) x)).length : Int)).code = 0 := hc
    cases hb : x.hb with
    | true =>
      rw [if_pos ⟨hbr.2.2.1.2 hb, hcc⟩]
      have e : base + ↑acc.length - backO (base + ↑acc.length) x = x.bk := by unfold backO; rw [if_pos hb]; omega
      rw [e]
      cases x
      simp only at hb
      subst hb
      rfl
    | false =>
      have hno : ¬ 0 < backO (base + acc.length) x := fun hh => by have := hbr.2.2.1.1 hh; rw [hb] at this; cases this
      rw [if_neg (by intro hh; exact hno hh.1)]
      have h0 := hbr.2.2.2 hb
      cases x
      simp only at hb h0
      subst hb h0
      rfl
  · obtain ⟨x1, x2, x3, x4, x5, x6, x7⟩ := hx
    have hbr := backO_range x4 x3
    have hs0 := sumO_ge acc
    intro y hy
    simp only [oldF] at hy
    rcases List.mem_append.1 hy with hy | hy
    · exact vb_by x1 x2 y hy
    · rcases List.mem_append.1 hy with hy | hy
      · exact vb_by hbr.1 (by have := hbr.2.1 (by omega); omega) y hy
      · exact blobB_bys x5 (by omega) y hy
theorem old_sum {base : Int} : ∀ {l : List O1}, Wf (oldF base).nx [] l → sumO l ≤ 1048576 := by
  intro l h
  rcases List.eq_nil_or_concat l with rfl | ⟨l, x, rfl⟩
  · rw [sumO_nil]; decide
  · rw [List.concat_eq_append] at h ⊢
    have := (wf_snoc.1 h).2
    rw [sumO_snoc]
    exact this.sum
theorem right1_wf {u : Sg1} (hl : O1s u.en) : right1 u = true ↔ (1 ≤ u.ep ∧ u.ep < 4611686018427387904) ∧ u.en.length ≤ 400 ∧ (u.base < 4611686018427387904 ∧ u.base + u.en.length ≤ 4611686018427387904) ∧ Wf (oldF u.base).nx [] u.en := by
  rw [right1_iff]
  constructor
  · rintro ⟨h1, h2, h3, h4, h5⟩
    refine ⟨h1, h2, h3, wf_of fun k hk => ?_⟩
    have e : u.en[k] = u.en.getD k o10 := by simp [hk]
    rw [e, List.nil_append]
    have ho := hl _ (o1_mem u.en k hk)
    have el : (u.en.take k).length = k := by simp; omega
    refine ⟨ho.s0, ho.s1, ho.b0, by rw [el]; exact h5 k hk, ho.data, ?_, by rw [el]; omega⟩
    have := sumO_le u.en (k + 1)
    rw [sumO_take u.en k hk] at this
    omega
  · rintro ⟨h1, h2, h3, h4⟩
    refine ⟨h1, h2, h3, old_sum h4, fun i hi => ?_⟩
    have := wf_get i hi h4
    have e : u.en[i] = u.en.getD i o10 := by simp [hi]
    have el : (u.en.take i).length = i := by simp; omega
    rw [e, List.nil_append] at this
    have hg := this.good
    rw [el] at hg
    exact hg
/-- How a segment of the version 1 is written: what the sum is of; all. -/
def bodyB (u : Sg1) : List Int := vb u.en.length ++ encs (oldF u.base).enc [] u.en
def seg1B (u : Sg1) : List Int := headerB ⟨1, u.ep, u.base⟩ ++ (bodyB u ++ lowBytes 4 (crcI (bodyB u)))
/-- The reader behind the header of a version. -/
def RS.begin (s : RS) (v : Int) : RS := if s.header.1.code = 0 ∧ ¬ s.header.2.ver = v then s.header.1.fail 8 4 else s.header.1
def RS.cnt (s : RS) (base least most : Int) : RS × Int := if (s.int most).1.code = 0 ∧ ((s.int most).2 < least ∨ fitsB base (s.int most).2 = false) then ((s.int most).1.fail 3 s.at_, (s.int most).2) else s.int most
def RS.olds (s : RS) (base : Int) : RS × List O1 := (oldF base).many (s.cnt base 0 400).2.toNat (s.cnt base 0 400).1 []
/-- The reader behind the sum of what stands between two places. -/
def RS.sum4 (s t : RS) : RS := if (t.fixed 4).1.code = 0 ∧ ¬ (t.fixed 4).2 = crcI (s.from t) then (t.fixed 4).1.fail 6 t.at_ else (t.fixed 4).1
def RS.dec1 (s : RS) : RS × Sg1 := (((s.begin 1).sum4 ((s.begin 1).olds s.header.2.base).1).rest9, ⟨s.header.2.ep, s.header.2.base, ((s.begin 1).olds s.header.2.base).2⟩)
def dec1 (b : List Int) : Sg1 × (Int × Int) := if (RS.new b).dec1.1.code = 0 then ((RS.new b).dec1.2, (0, 0)) else (sg10, ((RS.new b).dec1.1.code, (RS.new b).dec1.1.fat))
theorem begin_keep {s : RS} (h : ROk s) (v : Int) : ROk (s.begin v) ∧ (s.begin v).l = s.l := by
  obtain ⟨a, b⟩ := header_keep h
  unfold RS.begin
  split
  · exact ⟨a.fail _ _, by rw [fail_l]; exact b⟩
  · exact ⟨a, b⟩
theorem cnt_keep {s : RS} (h : ROk s) (base least most : Int) : ROk (s.cnt base least most).1 ∧ (s.cnt base least most).1.l = s.l := by
  obtain ⟨a, b⟩ := h.int most
  unfold RS.cnt
  split
  · exact ⟨a.fail _ _, by simp only; rw [fail_l]; exact b⟩
  · exact ⟨a, b⟩
theorem cnt_snd (s : RS) (base least most : Int) : (s.cnt base least most).2 = (s.int most).2 := by unfold RS.cnt; split <;> rfl
theorem cnt_is {s : RS} (h : ROk s) {base least most : Int} (hc : (s.cnt base least most).1.code = 0) : s.code = 0 ∧ least ≤ (s.cnt base least most).2 ∧ 0 ≤ (s.cnt base least most).2 ∧ (s.cnt base least most).2 ≤ most ∧ base < 4611686018427387904 ∧ base + (s.cnt base least most).2 ≤ 4611686018427387904 ∧ s.at_ < (s.cnt base least most).1.at_ ∧ s.l.take (s.cnt base least most).1.at_.toNat = s.l.take s.at_.toNat ++ vb (s.cnt base least most).2 := by
  unfold RS.cnt at hc ⊢
  by_cases hh : (s.int most).1.code = 0 ∧ ((s.int most).2 < least ∨ fitsB base (s.int most).2 = false)
  · rw [if_pos hh] at hc; exact absurd hc (fail_badc _ (by decide))
  · rw [if_neg hh] at hc ⊢
    obtain ⟨i1, i2, i3, i4, i5⟩ := int_bytes h hc
    have hf : fitsB base (s.int most).2 = true := by
      cases hf : fitsB base (s.int most).2 with
      | true => rfl
      | false => exact absurd ⟨hc, .inr hf⟩ hh
    have hl : ¬ (s.int most).2 < least := fun hx => hh ⟨hc, .inl hx⟩
    obtain ⟨f1, f2⟩ := fitsB_iff.1 hf
    exact ⟨i1, by omega, i2, i3, f1, f2, i4, i5⟩
theorem cnt_own {s : RS} {base least most x : Int} {r : List Int} (hc : s.code = 0) (h0 : 0 ≤ x) (hl : least ≤ x) (h1 : x ≤ most) (h2 : x < 18446744073709551616) (hf : fitsB base x = true) (hr : s.rest = vb x ++ r) : s.cnt base least most = (s.adv ((vb x).length : Int), x) := by
  have hi := int_own hc h0 h1 h2 hr
  unfold RS.cnt
  rw [hi]; simp only
  rw [if_neg]
  rw [hf]
  rintro ⟨_, hh | hh⟩
  · omega
  · cases hh
theorem int_stays {s : RS} {m : Int} (hc : ¬ s.code = 0) : (s.int m).1 = s := by
  unfold RS.int RS.most
  rw [vint_bad hc]
  simp only
  repeat' split
  all_goals first | rfl | exact fail_stays hc
theorem cnt_code {s : RS} {base least most : Int} (hc : ¬ s.code = 0) : (s.cnt base least most).1 = s := by
  have hi := int_stays (m := most) hc
  unfold RS.cnt
  rw [hi, if_neg (fun hh => hc hh.1)]; exact hi
theorem olds_keep {s : RS} (h : ROk s) {base : Int} (b0 : 0 ≤ base) : ROk (s.olds base).1 ∧ (s.olds base).1.l = s.l := by
  obtain ⟨a, b⟩ := cnt_keep h base 0 400
  obtain ⟨c, d⟩ := many_keep (oldF_ok b0) (s.cnt base 0 400).2.toNat (s.cnt base 0 400).1 [] a trivial
  exact ⟨c, d.trans b⟩
theorem begin_own {s : RS} {h : Hd} {r : List Int} (hs : ROk s) (hc : s.code = 0) (hr : rightH h = true) (hb : 0 ≤ h.base) (hrest : s.rest = headerB h ++ r) : s.begin h.ver = s.adv ((headerB h).length : Int) ∧ s.header.2 = h := by
  have := header_own hs hc hr hb hrest
  unfold RS.begin
  rw [this]
  simp
/-- Of another version nothing else is told. -/
theorem begin_other {s : RS} {v : Int} (hcl : Cl s) (hc : s.header.1.code = 0) (hv : ¬ s.header.2.ver = v) : (s.begin v).code = 8 ∧ (s.begin v).fat = 4 := by
  unfold RS.begin
  rw [if_pos ⟨hc, hv⟩]
  unfold RS.fail
  rw [if_pos hc]
  exact ⟨rfl, rfl⟩
theorem sum4_keep {s t : RS} (ht : ROk t) : ROk (s.sum4 t) ∧ (s.sum4 t).l = t.l := by
  have a := ht.take 4
  have b := (ht.ok.take 4).2
  unfold RS.sum4
  split
  · exact ⟨a.fail _ _, by rw [fail_l]; exact b⟩
  · exact ⟨a, b⟩
theorem many_code {β : Type} {F : Fmt β} (hF : ∀ s acc, ¬ s.code = 0 → (F.f s acc).1 = s) {N : Nat} {s : RS} (hc : ¬ s.code = 0) : F.many N s [] = (s, []) := by
  cases N with
  | zero => rfl
  | succ N =>
    have h := hF s [] hc
    simp only [Fmt.many]
    rw [h, if_neg hc]
theorem blob_code {s : RS} {m : Int} (hc : ¬ s.code = 0) : (s.blob m).1 = s := by
  have hi := int_stays (m := m) hc
  unfold RS.blob
  rw [hi, take_code hc]
theorem oldF_code (base : Int) : ∀ s acc, ¬ s.code = 0 → ((oldF base).f s acc).1 = s := by
  intro s acc hc
  have ho : ∀ pos, s.oback pos = s := fun pos => by
    unfold RS.oback
    rw [vint_bad hc]; simp only
    rw [vint_bad hc]; simp only
    rw [if_neg (fun h => hc h.1)]
  simp only [oldF]
  split
  · simp only; rw [ho, blob_code hc]
  · exact fail_stays hc
theorem olds_code {s : RS} {base : Int} (hc : ¬ s.code = 0) : s.olds base = (s, []) := by
  have h : (s.cnt base 0 400).1 = s := cnt_code hc
  unfold RS.olds
  rw [h]
  exact many_code (oldF_code base) hc
theorem rest9_bad {s : RS} (hc : ¬ s.code = 0) : s.rest9 = s := by
  unfold RS.rest9
  split
  · exact fail_stays hc
  · rfl
theorem sum4_code {s t : RS} (hc : ¬ t.code = 0) : s.sum4 t = t := by
  have h : t.fixed 4 = (t, fixOf []) := by unfold RS.fixed; rw [take_code hc]
  unfold RS.sum4
  rw [h]; simp only
  rw [if_neg (fun h => hc h.1)]
theorem dec1_code {s : RS} (hc : ¬ (s.begin 1).code = 0) : s.dec1.1 = s.begin 1 := by
  unfold RS.dec1
  rw [olds_code hc]
  simp only
  rw [sum4_code hc, rest9_bad hc]
theorem dec1_other {b : List Int} (hc : (RS.new b).header.1.code = 0) (hv : ¬ (RS.new b).header.2.ver = 1) : dec1 b = (sg10, (8, 4)) := by
  obtain ⟨h1, h2⟩ := begin_other (Cl.new b) hc hv
  have hd := dec1_code (s := RS.new b) (by rw [h1]; decide)
  unfold dec1
  rw [hd, h1, h2]; rfl
theorem body_bys {u : Sg1} (hl : O1s u.en) (hb : 0 ≤ u.base) (hr : right1 u = true) : Bys (bodyB u) := by
  obtain ⟨h1, h2, h3, h4⟩ := (right1_wf hl).1 hr
  intro y hy
  rcases List.mem_append.1 hy with hy | hy
  · exact vb_by (by omega) (by omega) y hy
  · exact encs_bys (acc := []) (oldF_ok hb) trivial h4 y hy
theorem encs_olds {base : Int} : ∀ {l : List O1}, Wf (oldF base).nx [] l → ((encs (oldF base).enc [] l).length : Int) ≤ 30 * l.length + sumO l := by
  intro l
  induction hn : l.length generalizing l with
  | zero => intro _; rw [List.eq_nil_of_length_eq_zero hn]; simp [encs, sumO]
  | succ n ih =>
    intro h
    rcases List.eq_nil_or_concat l with rfl | ⟨l, x, rfl⟩
    · simp at hn
    · rw [List.concat_eq_append] at h hn ⊢
      obtain ⟨h1, h2⟩ := wf_snoc.1 h
      have := ih (l := l) (by simpa using hn) h1
      have e1 := (vb_len x.st).2
      have e2 := (vb_len (backO (base + l.length) x)).2
      have e3 := (vb_len (x.data.length : Int)).2
      have e4 : ((oldF base).enc l x).length = (vb x.st).length + ((vb (backO (base + l.length) x)).length + ((vb (x.data.length : Int)).length + x.data.length)) := by simp only [oldF, List.length_append, blobB]
      rw [encs_snoc, sumO_snoc, List.length_append, List.nil_append, e4]
      omega
theorem body_len {u : Sg1} (hl : O1s u.en) (hr : right1 u = true) : ((bodyB u).length : Int) ≤ 10 + 30 * u.en.length + sumO u.en := by
  obtain ⟨h1, h2, h3, h4⟩ := (right1_wf hl).1 hr
  have := encs_olds h4
  have hv := (vb_len (u.en.length : Int)).2
  unfold bodyB
  rw [List.length_append]; omega
theorem rightH1 {u : Sg1} (hr : right1 u = true) : rightH ⟨1, u.ep, u.base⟩ = true := by
  obtain ⟨h1, h2, h3, h4, h5⟩ := right1_iff.1 hr
  exact rightH_iff.2 ⟨by simp, h1, h3.1, .inl rfl⟩
end Go.Proofs.YtnfagphepkeedaaGreat
end
section
namespace Go.Proofs.YtnfagphepkeedaaGreat

end Go.Proofs.YtnfagphepkeedaaGreat
end
section
namespace Go.Proofs.YtnfagphepkeedaaGreat

def Fa (s : RS) : Prop := 0 ≤ s.fat ∧ s.fat ≤ s.l.length
theorem Fa.new (l : List Int) : Fa (RS.new l) := ⟨Int.le_refl _, by show (0 : Int) ≤ _; omega⟩
theorem Fa.fail {s : RS} (h : Fa s) {c a : Int} (a0 : 0 ≤ a) (a1 : a ≤ s.l.length) : Fa (s.fail c a) := by
  unfold RS.fail
  split
  · unfold flt
    split
    · exact ⟨Int.le_refl _, by show (0 : Int) ≤ _; omega⟩
    · exact ⟨a0, a1⟩
  · exact h
theorem Fa.skip {s : RS} (h : Fa s) (hs : ROk s) (n : Int) : Fa (s.skip n).1 := by
  have h0 := hs.at0
  have h1 := hs.at1
  unfold RS.skip
  repeat' split
  · exact h.fail h0 h1
  · exact h.fail (by omega) (by omega)
  · exact h
  · exact h
theorem Fa.take {s : RS} (h : Fa s) (hs : ROk s) (n : Int) : Fa (s.take n).1 := by
  unfold RS.take
  split <;> exact h.skip hs n
theorem vgo_ge : ∀ (l : List Int) (n : Int), n ≤ (vgo n l).2.1 := by
  intro l
  induction l with
  | nil => intro n; unfold vgo; exact Int.le_refl _
  | cons c t ih =>
    intro n
    unfold vgo
    repeat' split
    · exact Int.le_refl _
    · exact Int.le_refl _
    · show n ≤ n + 1; omega
    · have := ih (n + 1); show n ≤ (vgo (n + 1) t).2.1; omega
    · have := ih (n + 1); show n ≤ (vgo (n + 1) t).2.1; omega
theorem Fa.vint {s : RS} (h : Fa s) (hs : ROk s) : Fa s.vint.1 := by
  have hk := hs.vint.1
  have h0 := hs.at0
  have hg := vgo_ge s.rest 0
  unfold RS.vint at hk ⊢
  by_cases hc : s.code = 0
  · rw [if_pos hc] at hk ⊢
    by_cases hv : (vgo 0 s.rest).1 = 0
    · rw [if_pos hv]; exact h
    · rw [if_neg hv] at hk ⊢
      by_cases h1 : (vgo 0 s.rest).1 = 1
      · rw [if_pos h1]; exact ⟨by show (0 : Int) ≤ (s.l.length : Int); omega, Int.le_refl _⟩
      · rw [if_neg h1] at hk ⊢
        have := hk.at1
        simp only at this
        exact ⟨by show 0 ≤ s.at_ + (vgo 0 s.rest).2.1; omega, by show s.at_ + (vgo 0 s.rest).2.1 ≤ (s.l.length : Int); omega⟩
  · rw [if_neg hc]; exact h
theorem Fa.int {s : RS} (h : Fa s) (hs : ROk s) (m : Int) : Fa (s.int m).1 := by
  have hv := h.vint hs
  have hl := hs.vint.2
  have h0 := hs.at0
  have h1 := hs.at1
  have hf : Fa (s.vint.1.fail 2 s.at_) := hv.fail h0 (by rw [hl]; exact h1)
  unfold RS.int RS.most
  repeat' split
  · exact hf
  · exact hv
  · exact hf
theorem Fa.blob {s : RS} (h : Fa s) (hs : ROk s) (m : Int) : Fa (s.blob m).1 := (h.int hs m).take (hs.int m).1 _
theorem Fa.frame {s : RS} (h : Fa s) (hs : ROk s) (m : Int) : Fa (s.frame m).1 := by
  have hb := h.blob hs (mfr m)
  obtain ⟨kb, lb⟩ := RS.ok.blob hs (mfr m)
  have hf : Fa ((s.blob (mfr m)).1.fixed 4).1 := hb.take kb 4
  obtain ⟨kf, lf⟩ := fixed_keep kb 4
  unfold RS.frame
  repeat' split
  · exact hf
  · exact hf.fail kb.at0 (by rw [lf]; exact kb.at1)
  · exact hf
theorem Fa.epo {s : RS} (h : Fa s) (hs : ROk s) (ok : Int → Bool) : Fa (s.epo ok).1 := by
  have hv := h.vint hs
  have hl := hs.vint.2
  unfold RS.epo
  repeat' split
  · exact hv
  · exact hv.fail hs.at0 (by rw [hl]; exact hs.at1)
  · exact hv
end Go.Proofs.YtnfagphepkeedaaGreat
end
section
namespace Go.Proofs.YtnfagphepkeedaaGreat

instance : DecidableEq En := fun a b => decidable_of_iff (a.lk = b.lk ∧ a.data = b.data) ⟨fun ⟨h1, h2⟩ => by cases a; cases b; simp only at h1 h2; rw [h1, h2], fun h => by subst h; exact ⟨rfl, rfl⟩⟩
/-- A batch. -/
structure Bt where
  ep : Int
  base : Int
  en : List En
  deriving DecidableEq
def bt0 : Bt := ⟨0, 0, []⟩
structure Bt.ok (b : Bt) : Prop where
  e0 : 0 ≤ b.ep
  e1 : b.ep < 18446744073709551616
  b0 : 0 ≤ b.base
  b1 : b.base < 18446744073709551616
  en : Ens b.en
def Bts (l : List Bt) : Prop := ∀ b ∈ l, b.ok
def singleL (l : List Lk) : Bool := l.all fun x => decide (x.bk.length ≤ 1)
def singleB (b : Bt) : Bool := b.en.all fun e => singleL e.lk
def fitsN (base n : Int) : Bool := decide (1 ≤ n ∧ n ≤ 16) && fitsB base n
theorem fitsN_iff {base n : Int} : fitsN base n = true ↔ (1 ≤ n ∧ n ≤ 16) ∧ base < 4611686018427387904 ∧ base + n ≤ 4611686018427387904 := by simp [fitsN, fitsB_iff]
/-- Is a batch well-formed? -/
def rightB (b : Bt) : Bool := epRight b.ep && fitsN b.base b.en.length && decide ((joinE b.en).length ≤ 1048576) && (List.range b.en.length).all fun i => rightE (b.base + i) (b.en.getD i en0)
theorem rightB_iff {b : Bt} : rightB b = true ↔ (1 ≤ b.ep ∧ b.ep < 4611686018427387904) ∧ ((1 ≤ b.en.length ∧ b.en.length ≤ 16) ∧ b.base < 4611686018427387904 ∧ b.base + b.en.length ≤ 4611686018427387904) ∧ (joinE b.en).length ≤ 1048576 ∧ ∀ i, i < b.en.length → rightE (b.base + i) (b.en.getD i en0) = true := by
  have e : ((1 : Int) ≤ (b.en.length : Int) ∧ (b.en.length : Int) ≤ 16) ↔ (1 ≤ b.en.length ∧ b.en.length ≤ 16) := by omega
  unfold rightB
  simp only [Bool.and_eq_true, decide_eq_true_eq, epRight_iff, fitsN_iff, List.all_eq_true, List.mem_range, and_assoc]
  constructor
  · rintro ⟨a, b, c, d, e, f, g, h⟩; exact ⟨a, b, by omega, by omega, e, f, g, h⟩
  · rintro ⟨a, b, c, d, e, f, g, h⟩; exact ⟨a, b, by omega, by omega, e, f, g, h⟩
theorem en_take (l : List En) (k : Nat) (h : k < l.length) : l.take (k + 1) = l.take k ++ [l.getD k en0] := by
  rw [List.take_succ_eq_append_getElem h]; simp [h]
theorem en_mem (l : List En) (k : Nat) (h : k < l.length) : l.getD k en0 ∈ l := by simp [h]
theorem joinE_take (l : List En) (k : Nat) (h : k < l.length) : (joinE (l.take (k + 1))).length = (joinE (l.take k)).length + (l.getD k en0).data.length := by rw [en_take l k h, joinE_snoc, List.length_append]
theorem joinE_le (l : List En) (k : Nat) : (joinE (l.take k)).length ≤ (joinE l).length := by
  have e : joinE l = joinE (l.take k) ++ joinE (l.drop k) := by unfold joinE; rw [← List.flatMap_append, List.take_append_drop]
  rw [e, List.length_append]; omega
/-- The reader behind links of one entry ahead at most. -/
def RS.lsing (s : RS) (pos : Int) : RS := if (s.links pos).1.code = 0 ∧ singleL (s.links pos).2 = false then (s.links pos).1.fail 3 s.at_ else (s.links pos).1
structure entNx (base : Int) (acc : List En) (e : En) : Prop where
  lk : Lks e.lk
  rt : rightL (base + acc.length) e.lk = true
  sg : singleL e.lk = true
  data : Bys e.data
  sum : ((joinE acc).length : Int) + e.data.length ≤ 1048576
  pos : base + acc.length < 4611686018427387904
def entF (base : Int) : Fmt En := ⟨fun s acc => if base + acc.length < 4611686018427387904 then (((s.lsing (base + acc.length)).blob (1048576 - (joinE acc).length)).1, ⟨(s.links (base + acc.length)).2, ((s.lsing (base + acc.length)).blob (1048576 - (joinE acc).length)).2⟩) else (s.fail 3 0, en0),
  fun acc e => linksB (base + acc.length) e.lk ++ blobB e.data, fun acc e => entNx base acc e⟩
theorem entF_f {base : Int} {s : RS} {acc : List En} (h : base + acc.length < 4611686018427387904) : (entF base).f s acc = (((s.lsing (base + acc.length)).blob (1048576 - (joinE acc).length)).1, ⟨(s.links (base + acc.length)).2, ((s.lsing (base + acc.length)).blob (1048576 - (joinE acc).length)).2⟩) := by
  simp only [entF]; rw [if_pos h]
theorem lsing_keep {s : RS} (h : ROk s) {pos : Int} (p0 : 0 ≤ pos) (p1 : pos < 18446744073709551616) : ROk (s.lsing pos) ∧ (s.lsing pos).l = s.l := by
  obtain ⟨a, b⟩ := links_keep h p0 p1
  unfold RS.lsing
  split
  · exact ⟨a.fail _ _, by rw [fail_l]; exact b⟩
  · exact ⟨a, b⟩
theorem lsing_is {s : RS} {pos : Int} (hc : (s.lsing pos).code = 0) : (s.links pos).1.code = 0 ∧ singleL (s.links pos).2 = true ∧ s.lsing pos = (s.links pos).1 := by
  unfold RS.lsing at hc ⊢
  by_cases h : (s.links pos).1.code = 0 ∧ singleL (s.links pos).2 = false
  · rw [if_pos h] at hc; exact absurd hc (fail_badc _ (by decide))
  · rw [if_neg h] at hc ⊢
    refine ⟨hc, ?_, rfl⟩
    cases hs : singleL (s.links pos).2 with
    | true => rfl
    | false => exact absurd ⟨hc, hs⟩ h
theorem entF_ok {base : Int} (b0 : 0 ≤ base) : (entF base).Ok := by
  refine ⟨fun s acc h _ => ?_, fun s acc h hw hc => ?_, fun s acc x r h hc hw hx hr => ?_, fun acc x hw hx => ?_⟩
  · by_cases hp : base + acc.length < 4611686018427387904
    · rw [entF_f hp]
      obtain ⟨a, b⟩ := lsing_keep h (pos := base + acc.length) (by omega) (by omega)
      obtain ⟨c, d⟩ := RS.ok.blob a (1048576 - (joinE acc).length)
      exact ⟨c, d.trans b⟩
    · simp only [entF]; rw [if_neg hp]; exact ⟨h.fail _ _, fail_l _ _ _⟩
  · by_cases hp : base + acc.length < 4611686018427387904
    · rw [entF_f hp] at hc ⊢
      simp only at hc ⊢
      obtain ⟨a, b⟩ := lsing_keep h (pos := base + acc.length) (by omega) (by omega)
      obtain ⟨d1, d2, d3, d4⟩ := blob_is a hc
      obtain ⟨l1, l2, l3⟩ := lsing_is d1
      obtain ⟨i1, i2, i3, i4, i5⟩ := links_is h (by omega) (by omega) l1
      have hsh := blob_short a (1048576 - (joinE acc).length)
      rw [l3] at d3
      refine ⟨i1, ⟨i2, i3, l2, hsh.2, by simp only; omega, hp⟩, by rw [l3]; omega, ?_⟩
      simp only [entF]
      rw [b, l3] at d4
      rw [l3, d4, i5, List.append_assoc]
    · simp only [entF] at hc; rw [if_neg hp] at hc; exact absurd hc (fail_badc _ (by decide))
  · obtain ⟨x1, x2, x3, x4, x5, x6⟩ := hx
    rw [entF_f x6]
    simp only [entF] at hr ⊢
    rw [List.append_assoc] at hr
    have h1 := links_own h hc (by omega) (by omega) x1 x2 hr
    have k1 := adv_ok h hr
    have e2 : (s.adv ((linksB (base + acc.length) x.lk).length : Int)).rest = blobB x.data ++ r := by rw [adv_rest h.at0, hr, List.drop_left]
    have hl : s.lsing (base + acc.length) = s.adv ((linksB (base + acc.length) x.lk).length : Int) := by
      unfold RS.lsing
      rw [h1]; simp only
      rw [if_neg (by rw [x3]; rintro ⟨_, h⟩; cases h)]
    have h2 := blob_own (m := 1048576 - (joinE acc).length) k1 (show (s.adv ((linksB (base + acc.length) x.lk).length : Int)).code = 0 from hc) (by omega) (by omega) e2
    rw [hl, h2, h1]
    simp only [Prod.mk.injEq]
    exact ⟨by rw [adv_adv, List.length_append]; rfl, trivial⟩
  · obtain ⟨x1, x2, x3, x4, x5, x6⟩ := hx
    intro y hy
    simp only [entF] at hy
    rcases List.mem_append.1 hy with hy | hy
    · exact linksB_bys (by omega) (by omega) x1 x2 y hy
    · exact blobB_bys x4 (by omega) y hy
theorem ent_sum {base : Int} : ∀ {l : List En}, Wf (entF base).nx [] l → (joinE l).length ≤ 1048576 := by
  intro l h
  rcases List.eq_nil_or_concat l with rfl | ⟨l, x, rfl⟩
  · simp [joinE]
  · rw [List.concat_eq_append] at h ⊢
    have := (wf_snoc.1 h).2.sum
    rw [List.nil_append] at this
    rw [joinE_snoc, List.length_append]; omega
theorem ent_ens {base : Int} {l : List En} (h : Wf (entF base).nx [] l) : Ens l := by
  intro x hx
  obtain ⟨i, hi, rfl⟩ := List.getElem_of_mem hx
  have hn := wf_get i hi h
  exact ⟨hn.lk, hn.data⟩
theorem singleB_iff {b : Bt} : singleB b = true ↔ ∀ i, i < b.en.length → singleL (b.en.getD i en0).lk = true := by
  unfold singleB
  rw [List.all_eq_true]
  constructor
  · intro h i hi; exact h _ (en_mem b.en i hi)
  · intro h x hx
    obtain ⟨i, hi, rfl⟩ := List.getElem_of_mem hx
    have := h i hi
    simpa [hi] using this
theorem rightB_wf {b : Bt} (hl : Ens b.en) : rightB b = true ∧ singleB b = true ↔ (1 ≤ b.ep ∧ b.ep < 4611686018427387904) ∧ ((1 ≤ b.en.length ∧ b.en.length ≤ 16) ∧ b.base < 4611686018427387904 ∧ b.base + b.en.length ≤ 4611686018427387904) ∧ Wf (entF b.base).nx [] b.en := by
  rw [rightB_iff]
  constructor
  · rintro ⟨⟨h1, h2, h3, h4⟩, h5⟩
    refine ⟨h1, h2, wf_of fun k hk => ?_⟩
    have e : b.en[k] = b.en.getD k en0 := by simp [hk]
    rw [e, List.nil_append]
    have ho := hl _ (en_mem b.en k hk)
    have el : (b.en.take k).length = k := by simp; omega
    refine ⟨ho.lk, by rw [el]; exact (rightE_iff.1 (h4 k hk)).1, singleB_iff.1 h5 k hk, ho.data, ?_, by rw [el]; omega⟩
    have := joinE_le b.en (k + 1)
    rw [joinE_take b.en k hk] at this
    omega
  · rintro ⟨h1, h2, h3⟩
    have key : ∀ i, i < b.en.length → entNx b.base (b.en.take i) (b.en.getD i en0) := fun i hi => by
      have := wf_get i hi h3
      have e : b.en[i] = b.en.getD i en0 := by simp [hi]
      rw [e, List.nil_append] at this
      exact this
    refine ⟨⟨h1, h2, ent_sum h3, fun i hi => ?_⟩, singleB_iff.2 fun i hi => (key i hi).sg⟩
    have hk := key i hi
    have el : (b.en.take i).length = i := by simp; omega
    have hr := hk.rt
    rw [el] at hr
    exact rightE_iff.2 ⟨hr, by have := hk.sum; omega⟩
/-- A batch as the version 2 writes it. -/
def plB (b : Bt) : List Int := vb b.ep ++ (vb b.base ++ (vb b.en.length ++ encs (entF b.base).enc [] b.en))
/-- The reader behind a batch that is all, and that. -/
def RS.ents (s : RS) (base : Int) : RS × List En := (entF base).many (s.cnt base 1 16).2.toNat (s.cnt base 1 16).1 []
def RS.unpl (s : RS) : RS × Bt := ((((s.epo epRight).1.epo epPos).1.ents ((s.epo epRight).1.epo epPos).2).1.rest9, ⟨(s.epo epRight).2, ((s.epo epRight).1.epo epPos).2, (((s.epo epRight).1.epo epPos).1.ents ((s.epo epRight).1.epo epPos).2).2⟩)
theorem epo_range {s : RS} (h : ROk s) (ok : Int → Bool) : 0 ≤ (s.epo ok).2 ∧ (s.epo ok).2 < 18446744073709551616 := by
  by_cases hc : (s.epo ok).1.code = 0
  · obtain ⟨_, a, b, _⟩ := epo_is h hc; exact ⟨a, b⟩
  · rw [epo_bad hc]; exact ⟨by decide, by decide⟩
theorem ents_keep {s : RS} (h : ROk s) {base : Int} (b0 : 0 ≤ base) : ROk (s.ents base).1 ∧ (s.ents base).1.l = s.l := by
  obtain ⟨a, b⟩ := cnt_keep h base 1 16
  obtain ⟨c, d⟩ := many_keep (entF_ok b0) (s.cnt base 1 16).2.toNat (s.cnt base 1 16).1 [] a trivial
  exact ⟨c, d.trans b⟩
theorem ents_is {s : RS} (h : ROk s) {base : Int} (b0 : 0 ≤ base) (hc : (s.ents base).1.code = 0) : s.code = 0 ∧ Wf (entF base).nx [] (s.ents base).2 ∧ 1 ≤ (s.ents base).2.length ∧ (s.ents base).2.length ≤ 16 ∧ base < 4611686018427387904 ∧ base + (s.ents base).2.length ≤ 4611686018427387904 ∧ s.at_ < (s.ents base).1.at_ ∧
    s.l.take (s.ents base).1.at_.toNat = s.l.take s.at_.toNat ++ (vb (s.ents base).2.length ++ encs (entF base).enc [] (s.ents base).2) := by
  obtain ⟨a, b⟩ := cnt_keep h base 1 16
  obtain ⟨r, q1, q2, q3, q4, q5, q6⟩ := many_is (entF_ok b0) (s.cnt base 1 16).2.toNat (s.cnt base 1 16).1 [] a trivial hc
  obtain ⟨c1, c2, c3, c4, c5, c6, c7, c8⟩ := cnt_is h q5
  have hr : (s.ents base).2 = r := q1
  have hn : (s.cnt base 1 16).2 = (r.length : Int) := by omega
  rw [hr]
  rw [b] at q4
  have hq6 : (s.cnt base 1 16).1.at_ ≤ (s.ents base).1.at_ := q6
  have hq4 : s.l.take (s.ents base).1.at_.toNat = s.l.take (s.cnt base 1 16).1.at_.toNat ++ encs (entF base).enc [] r := q4
  refine ⟨c1, q3, by omega, by omega, c5, by omega, by omega, ?_⟩
  rw [hq4, c8, List.append_assoc, hn]
theorem unpl_keep {s : RS} (h : ROk s) : ROk s.unpl.1 ∧ s.unpl.1.l = s.l := by
  obtain ⟨a, b⟩ := epo_keep h epRight
  obtain ⟨c, d⟩ := epo_keep a epPos
  obtain ⟨e, f⟩ := ents_keep c (epo_range a epPos).1
  have hr : ROk (((s.epo epRight).1.epo epPos).1.ents ((s.epo epRight).1.epo epPos).2).1.rest9 ∧ (((s.epo epRight).1.epo epPos).1.ents ((s.epo epRight).1.epo epPos).2).1.rest9.l = s.l := by
    unfold RS.rest9
    split
    · exact ⟨e.fail _ _, by rw [fail_l]; exact f.trans (d.trans b)⟩
    · exact ⟨e, f.trans (d.trans b)⟩
  exact hr
/-- What was read of a batch. -/
theorem unpl_is {p : List Int} (hp : Bys p) (hn : p.length ≤ 140737488355328) (hc : (RS.new p).unpl.1.code = 0) : (RS.new p).unpl.2.ok ∧ rightB (RS.new p).unpl.2 = true ∧ singleB (RS.new p).unpl.2 = true ∧ plB (RS.new p).unpl.2 = p := by
  have h : ROk (RS.new p) := ROk.new hp hn
  obtain ⟨r1, r2, r3⟩ := rest9_code hc
  obtain ⟨a, b⟩ := epo_keep h epRight
  obtain ⟨c, d⟩ := epo_keep a epPos
  have hrg := epo_range a epPos
  obtain ⟨k1, k2⟩ := ents_keep c hrg.1
  obtain ⟨e1, e2, e3, e4, e5, e6, e7, e8⟩ := ents_is c hrg.1 r1
  obtain ⟨p1, p2, p3, p4, p5, p6⟩ := epo_is a e1
  obtain ⟨q1, q2, q3, q4, q5, q6⟩ := epo_is h p1
  have hen := ent_ens e2
  have hok : (RS.new p).unpl.2.ok := ⟨q2, q3, p2, p3, hen⟩
  have hrb := (rightB_wf (b := (RS.new p).unpl.2) hen).2 ⟨epRight_iff.1 q4, ⟨⟨e3, e4⟩, e5, e6⟩, e2⟩
  refine ⟨hok, hrb.1, hrb.2, ?_⟩
  have hl : (RS.new p).l = p := rfl
  have e0 : (RS.new p).l.take (RS.new p).at_.toNat = [] := by simp [RS.new]
  rw [d, b, hl] at e8
  rw [b, hl] at p6
  rw [e0, hl, List.nil_append] at q6
  rw [p6, q6] at e8
  have hat : ((((RS.new p).epo epRight).1.epo epPos).1.ents (((RS.new p).epo epRight).1.epo epPos).2).1.at_.toNat = p.length := by
    have h1 := k1.at1
    rw [k2, d, b, hl] at h1
    unfold RS.left at r2
    rw [k2, d, b, hl] at r2
    have h0 := k1.at0
    omega
  rw [hat, List.take_length] at e8
  have hg : plB (RS.new p).unpl.2 = vb ((RS.new p).epo epRight).2 ++ (vb (((RS.new p).epo epRight).1.epo epPos).2 ++ (vb ((((RS.new p).epo epRight).1.epo epPos).1.ents (((RS.new p).epo epRight).1.epo epPos).2).2.length ++ encs (entF (((RS.new p).epo epRight).1.epo epPos).2).enc [] ((((RS.new p).epo epRight).1.epo epPos).1.ents (((RS.new p).epo epRight).1.epo epPos).2).2)) := rfl
  rw [hg]
  refine Eq.trans ?_ e8.symm
  rw [List.append_assoc]
theorem linksB_len35 {pos : Int} {l : List Lk} (hl : Lks l) (hr : rightL pos l = true) : (linksB pos l).length ≤ 970 := by
  obtain ⟨h1, h2⟩ := (rightL_wf hl).1 hr
  have hb := encs_len (enc := (linkF pos).enc) 60 (fun acc x hx => by
    have := hx.2.2.2.2
    have e1 := (vb_len (x.st - lst acc - 1)).2
    have e2 := (vb_len (x.bk.length : Int)).2
    have e3 := vbs_len (dsts pos x.bk x.bk.length)
    rw [dsts_len] at e3
    simp only [linkF, fallB, List.length_append]
    omega) h2
  have e4 := (vb_len (l.length : Int)).2
  unfold linksB
  rw [List.length_append]; omega
theorem encs_ents {base : Int} (b0 : 0 ≤ base) : ∀ {l : List En}, Wf (entF base).nx [] l → (encs (entF base).enc [] l).length ≤ 980 * l.length + (joinE l).length := by
  intro l
  induction hn : l.length generalizing l with
  | zero => intro _; rw [List.eq_nil_of_length_eq_zero hn]; simp [encs]
  | succ n ih =>
    intro h
    rcases List.eq_nil_or_concat l with rfl | ⟨l, x, rfl⟩
    · simp at hn
    · rw [List.concat_eq_append] at h hn ⊢
      obtain ⟨h1, h2⟩ := wf_snoc.1 h
      have := ih (l := l) (by simpa using hn) h1
      rw [List.nil_append] at h2
      have e1 := linksB_len35 h2.lk h2.rt
      have e3 := (vb_len (x.data.length : Int)).2
      have e4 : ((entF base).enc l x).length = (linksB (base + l.length) x.lk).length + ((vb (x.data.length : Int)).length + x.data.length) := by simp only [entF, List.length_append, blobB]
      rw [encs_snoc, joinE_snoc, List.length_append, List.length_append, List.nil_append, e4]
      omega
theorem plB_len {b : Bt} (hb : b.ok) (hr : rightB b = true) (hs : singleB b = true) : (plB b).length ≤ 1080000 := by
  obtain ⟨g1, g2, hwf⟩ := (rightB_wf hb.en).1 ⟨hr, hs⟩
  have h1 := encs_ents hb.b0 hwf
  have h2 := ent_sum hwf
  have e1 := (vb_len b.ep).2
  have e2 := (vb_len b.base).2
  have e3 := (vb_len (b.en.length : Int)).2
  unfold plB
  simp only [List.length_append]; omega
theorem plB_bys {b : Bt} (hb : b.ok) (hr : rightB b = true) (hs : singleB b = true) : Bys (plB b) := by
  obtain ⟨g1, g2, hwf⟩ := (rightB_wf hb.en).1 ⟨hr, hs⟩
  intro y hy
  rcases List.mem_append.1 hy with hy | hy
  · exact vb_by hb.e0 hb.e1 y hy
  · rcases List.mem_append.1 hy with hy | hy
    · exact vb_by hb.b0 hb.b1 y hy
    · rcases List.mem_append.1 hy with hy | hy
      · exact vb_by (by omega) (by omega) y hy
      · exact encs_bys (acc := []) (entF_ok hb.b0) trivial hwf y hy
/-- What is written is read. -/
theorem unpl_own {b : Bt} (hb : b.ok) (hr : rightB b = true) (hs : singleB b = true) : (RS.new (plB b)).unpl = ((RS.new (plB b)).adv ((plB b).length : Int), b) := by
  obtain ⟨g1, ⟨g2, g3, g4⟩, hwf⟩ := (rightB_wf hb.en).1 ⟨hr, hs⟩
  have hB := plB_bys hb hr hs
  have hn := plB_len hb hr hs
  have k0 : ROk (RS.new (plB b)) := ROk.new hB (by omega)
  have e0 : (RS.new (plB b)).rest = vb b.ep ++ (vb b.base ++ (vb b.en.length ++ encs (entF b.base).enc [] b.en)) := new_rest _
  have h1 := epo_own (ok := epRight) (show (RS.new (plB b)).code = 0 from rfl) hb.e0 hb.e1 (epRight_iff.2 g1) e0
  have k1 := adv_ok k0 e0
  have e1 : ((RS.new (plB b)).adv ((vb b.ep).length : Int)).rest = vb b.base ++ (vb b.en.length ++ encs (entF b.base).enc [] b.en) := by rw [adv_rest k0.at0, e0, List.drop_left]
  have h2 := epo_own (ok := epPos) (show ((RS.new (plB b)).adv ((vb b.ep).length : Int)).code = 0 from rfl) hb.b0 hb.b1 (epPos_iff.2 g3) e1
  have k2 := adv_ok k1 e1
  have e2 : (((RS.new (plB b)).adv ((vb b.ep).length : Int)).adv ((vb b.base).length : Int)).rest = vb b.en.length ++ encs (entF b.base).enc [] b.en := by rw [adv_rest k1.at0, e1, List.drop_left]
  have h3 := cnt_own (base := b.base) (least := 1) (most := 16) (show (((RS.new (plB b)).adv ((vb b.ep).length : Int)).adv ((vb b.base).length : Int)).code = 0 from rfl) (by omega : (0 : Int) ≤ (b.en.length : Int)) (by omega) (by omega) (by omega) (fitsB_iff.2 ⟨g3, g4⟩) e2
  have k3 := adv_ok k2 e2
  have e3 : ((((RS.new (plB b)).adv ((vb b.ep).length : Int)).adv ((vb b.base).length : Int)).adv ((vb (b.en.length : Int)).length : Int)).rest = encs (entF b.base).enc [] b.en ++ [] := by rw [adv_rest k2.at0, e2, List.drop_left, List.append_nil]
  have h4 := many_own (entF_ok hb.b0) b.en [] _ k3 rfl trivial hwf e3
  have h5 : (((RS.new (plB b)).adv ((vb b.ep).length : Int)).adv ((vb b.base).length : Int)).ents b.base = ((RS.new (plB b)).adv ((plB b).length : Int), b.en) := by
    unfold RS.ents
    rw [h3]
    simp only [Int.toNat_natCast]
    rw [h4, adv_adv, adv_adv, adv_adv]
    have hlen : ((plB b).length : Int) = (vb b.ep).length + ((vb b.base).length + ((vb (b.en.length : Int)).length + (encs (entF b.base).enc [] b.en).length)) := by unfold plB; simp only [List.length_append]; omega
    rw [hlen, List.nil_append]
  unfold RS.unpl
  rw [h1]; simp only
  rw [h2]; simp only
  rw [h5]; simp only
  have h6 : ((RS.new (plB b)).adv ((plB b).length : Int)).rest9 = (RS.new (plB b)).adv ((plB b).length : Int) := by
    unfold RS.rest9
    rw [if_neg]
    show ¬ 0 < ((plB b).length : Int) - (0 + ((plB b).length : Int))
    omega
  rw [h6]
-- where a fault may stand
theorem Fa.many {β : Type} {F : Fmt β} (hF : ∀ s acc, Fa s → ROk s → Fa (F.f s acc).1 ∧ ROk (F.f s acc).1) : ∀ (N : Nat) (s : RS) (acc : List β), Fa s → ROk s → Fa (F.many N s acc).1 ∧ ROk (F.many N s acc).1 := by
  intro N
  induction N with
  | zero => intro s acc h k; exact ⟨h, k⟩
  | succ N ih =>
    intro s acc h k
    obtain ⟨a, b⟩ := hF s acc h k
    simp only [Fmt.many]
    split
    · exact ih _ _ a b
    · exact ⟨a, b⟩
theorem Fa.at {s : RS} (h : Fa s) (hs : ROk s) {c : Int} {t : RS} (hl : t.l = s.l) (ht : ROk t) : Fa (s.fail c t.at_) := h.fail ht.at0 (by rw [← hl]; exact ht.at1)
theorem Fa.fall {s : RS} (h : Fa s) (hs : ROk s) (b m : Int) : Fa (s.fall b m).1 := by
  refine (Fa.many (F := fallF b) (fun s acc h hs => ?_) _ _ _ (h.int hs m) (hs.int m).1).1
  simp only [fallF]
  have hv := hs.vint
  split
  · exact ⟨(h.vint hs).at hv.1 hv.2.symm hs, hv.1.fail _ _⟩
  · exact ⟨h.vint hs, hv.1⟩
theorem Fa.links {s : RS} (h : Fa s) (hs : ROk s) {pos : Int} (p1 : pos < 18446744073709551616) : Fa (s.links pos).1 := by
  refine (Fa.many (F := linkF pos) (fun s acc h hs => ?_) _ _ _ (h.int hs 16) (hs.int 16).1).1
  simp only [linkF]
  have hv := hs.vint
  have hh : Fa (s.lkHead acc) ∧ ROk (s.lkHead acc) := by
    unfold RS.lkHead
    split
    · exact ⟨(h.vint hs).at hv.1 hv.2.symm hs, hv.1.fail _ _⟩
    · exact ⟨h.vint hs, hv.1⟩
  exact ⟨hh.1.fall hh.2 pos 4, (fall_keep hh.2 p1 4).1⟩
theorem Fa.cnt {s : RS} (h : Fa s) (hs : ROk s) (base least most : Int) : Fa (s.cnt base least most).1 := by
  have hi := hs.int most
  unfold RS.cnt
  split
  · exact (h.int hs most).at hi.1 hi.2.symm hs
  · exact h.int hs most
theorem Fa.lsing {s : RS} (h : Fa s) (hs : ROk s) {pos : Int} (p0 : 0 ≤ pos) (p1 : pos < 18446744073709551616) : Fa (s.lsing pos) := by
  have hk := links_keep hs p0 p1
  unfold RS.lsing
  split
  · exact (h.links hs p1).at hk.1 hk.2.symm hs
  · exact h.links hs p1
theorem Fa.rest9 {s : RS} (h : Fa s) (hs : ROk s) : Fa s.rest9 := by
  unfold RS.rest9
  split
  · exact h.at hs rfl hs
  · exact h
theorem Fa.ents {s : RS} (h : Fa s) (hs : ROk s) {base : Int} (b0 : 0 ≤ base) : Fa (s.ents base).1 ∧ ROk (s.ents base).1 := by
  have hc := cnt_keep hs base 1 16
  refine Fa.many (F := entF base) (fun s acc h hs => ?_) (s.cnt base 1 16).2.toNat (s.cnt base 1 16).1 [] (h.cnt hs base 1 16) hc.1
  simp only [entF]
  split
  · rename_i hp
    have k := lsing_keep hs (pos := base + acc.length) (by omega) (by omega)
    exact ⟨Fa.blob (Fa.lsing h hs (by omega) (by omega)) k.1 _, (RS.ok.blob k.1 _).1⟩
  · exact ⟨h.fail (Int.le_refl 0) (by omega), hs.fail _ _⟩
theorem Fa.unpl {s : RS} (h : Fa s) (hs : ROk s) : Fa s.unpl.1 := by
  obtain ⟨a, b⟩ := epo_keep hs epRight
  obtain ⟨c, d⟩ := epo_keep a epPos
  have f4 := ((h.epo hs epRight).epo a epPos).ents c (epo_range a epPos).1
  exact f4.1.rest9 f4.2
-- segments of the version 2
structure Sg2 where
  ep : Int
  bt : List Bt
  deriving DecidableEq
def sg20 : Sg2 := ⟨0, []⟩
def btLast (acc : List Bt) : Bt := acc.getD (acc.length - 1) bt0
/-- May a batch stand behind others? -/
def mayB (ep : Int) (acc : List Bt) (b : Bt) : Bool := decide (b.ep ≤ ep) && (decide (acc.length = 0) || (decide ((btLast acc).ep ≤ b.ep) && decide ((btLast acc).base + (btLast acc).en.length ≤ b.base)))
/-- The reader behind the frame of a batch, and that. -/
def RS.bat (s : RS) (ep : Int) (acc : List Bt) : RS × Bt :=
  if (s.frame 2097152).1.code = 0 then
    (if (RS.new (s.frame 2097152).2).unpl.1.code = 0 then
      (if mayB ep acc (RS.new (s.frame 2097152).2).unpl.2 = true then ((s.frame 2097152).1, (RS.new (s.frame 2097152).2).unpl.2) else ((s.frame 2097152).1.fail 13 s.at_, (RS.new (s.frame 2097152).2).unpl.2))
    else ((s.frame 2097152).1.fail (RS.new (s.frame 2097152).2).unpl.1.code ((s.frame 2097152).1.at_ - 4 - (s.frame 2097152).2.length + (RS.new (s.frame 2097152).2).unpl.1.fat), (RS.new (s.frame 2097152).2).unpl.2))
  else ((s.frame 2097152).1, bt0)
structure batNx (ep : Int) (acc : List Bt) (b : Bt) : Prop where
  ok : b.ok
  rt : rightB b = true
  sg : singleB b = true
  may : mayB ep acc b = true
def batF (ep : Int) : Fmt Bt := ⟨fun s acc => s.bat ep acc, fun _ b => frameB (plB b), fun acc b => batNx ep acc b⟩
theorem bat_keep {s : RS} (h : ROk s) (ep : Int) (acc : List Bt) : ROk (s.bat ep acc).1 ∧ (s.bat ep acc).1.l = s.l := by
  obtain ⟨a, b⟩ := frame_keep h 2097152
  unfold RS.bat
  repeat' split
  · exact ⟨a, b⟩
  · exact ⟨a.fail _ _, by simp only; rw [fail_l]; exact b⟩
  · exact ⟨a.fail _ _, by simp only; rw [fail_l]; exact b⟩
  · exact ⟨a, b⟩
theorem bat_is {s : RS} {ep : Int} {acc : List Bt} (hc : (s.bat ep acc).1.code = 0) : (s.frame 2097152).1.code = 0 ∧ (RS.new (s.frame 2097152).2).unpl.1.code = 0 ∧ mayB ep acc (RS.new (s.frame 2097152).2).unpl.2 = true ∧ s.bat ep acc = ((s.frame 2097152).1, (RS.new (s.frame 2097152).2).unpl.2) := by
  unfold RS.bat at hc ⊢
  by_cases h1 : (s.frame 2097152).1.code = 0
  · rw [if_pos h1] at hc ⊢
    by_cases h2 : (RS.new (s.frame 2097152).2).unpl.1.code = 0
    · rw [if_pos h2] at hc ⊢
      by_cases h3 : mayB ep acc (RS.new (s.frame 2097152).2).unpl.2 = true
      · rw [if_pos h3]; exact ⟨h1, h2, h3, rfl⟩
      · rw [if_neg h3] at hc; exact absurd hc (fail_badc _ (by decide))
    · rw [if_neg h2] at hc; exact absurd hc (fail_badc _ h2)
  · rw [if_neg h1] at hc; exact absurd hc h1
theorem batF_ok (ep : Int) : (batF ep).Ok := by
  refine ⟨fun s acc h _ => bat_keep h ep acc, fun s acc h hw hc => ?_, fun s acc x r h hc hw hx hr => ?_, fun acc x hw hx => ?_⟩
  · obtain ⟨h1, h2, h3, h4⟩ := bat_is hc
    obtain ⟨f1, f2, f3, f4, f5⟩ := frame_is h h1
    have hlen : (s.frame 2097152).2.length ≤ 140737488355328 := by unfold mfr at f2; omega
    obtain ⟨u1, u2, u3, u4⟩ := unpl_is f3 hlen h2
    have e : (batF ep).f s acc = ((s.frame 2097152).1, (RS.new (s.frame 2097152).2).unpl.2) := h4
    rw [e]
    exact ⟨f1, ⟨u1, u2, u3, h3⟩, f4, by simp only [batF]; rw [u4]; exact f5⟩
  · obtain ⟨x1, x2, x3, x4⟩ := hx
    have hB := plB_bys x1 x2 x3
    have hn := plB_len x1 x2 x3
    have hf := frame_own (m := 2097152) h hc hB (by unfold mfr; omega) hr
    have hu := unpl_own x1 x2 x3
    show s.bat ep acc = _
    unfold RS.bat
    rw [hf]; simp only
    rw [hu]; simp only
    rw [if_pos (show (s.adv ((frameB (plB x)).length : Int)).code = 0 from hc), if_pos (show ((RS.new (plB x)).adv ((plB x).length : Int)).code = 0 from rfl), if_pos x4]
    rfl
  · exact frameB_bys (plB_bys hx.ok hx.rt hx.sg) (by have := plB_len hx.ok hx.rt hx.sg; omega)
/-- Is a segment of the version 2 well-formed? -/
def mayAt (ep : Int) (l : List Bt) (i : Nat) : Bool := rightB (l.getD i bt0) && singleB (l.getD i bt0) && mayB ep (l.take i) (l.getD i bt0)
def right2 (u : Sg2) : Bool := epRight u.ep && decide (u.bt.length ≤ 32) && (List.range u.bt.length).all fun i => mayAt u.ep u.bt i
theorem right2_iff {u : Sg2} : right2 u = true ↔ (1 ≤ u.ep ∧ u.ep < 4611686018427387904) ∧ u.bt.length ≤ 32 ∧ ∀ i, i < u.bt.length → mayAt u.ep u.bt i = true := by
  unfold right2
  simp only [Bool.and_eq_true, decide_eq_true_eq, epRight_iff, List.all_eq_true, List.mem_range, and_assoc]
theorem bt_mem (l : List Bt) (k : Nat) (h : k < l.length) : l.getD k bt0 ∈ l := by simp [h]
theorem bt_take (l : List Bt) (k : Nat) (h : k < l.length) : l.take (k + 1) = l.take k ++ [l.getD k bt0] := by
  rw [List.take_succ_eq_append_getElem h]; simp [h]
theorem right2_wf {u : Sg2} (hl : Bts u.bt) : right2 u = true ↔ (1 ≤ u.ep ∧ u.ep < 4611686018427387904) ∧ u.bt.length ≤ 32 ∧ Wf (batF u.ep).nx [] u.bt := by
  rw [right2_iff]
  constructor
  · rintro ⟨h1, h2, h3⟩
    refine ⟨h1, h2, wf_of fun k hk => ?_⟩
    have e : u.bt[k] = u.bt.getD k bt0 := by simp [hk]
    rw [e, List.nil_append]
    have := h3 k hk
    unfold mayAt at this
    simp only [Bool.and_eq_true] at this
    exact ⟨hl _ (bt_mem u.bt k hk), this.1.1, this.1.2, this.2⟩
  · rintro ⟨h1, h2, h3⟩
    refine ⟨h1, h2, fun i hi => ?_⟩
    have := wf_get i hi h3
    have e : u.bt[i] = u.bt.getD i bt0 := by simp [hi]
    rw [e, List.nil_append] at this
    unfold mayAt
    rw [this.rt, this.sg, this.may]; rfl
def seg2B (u : Sg2) : List Int := headerB ⟨2, u.ep, 0⟩ ++ (vb u.bt.length ++ encs (batF u.ep).enc [] u.bt)
def RS.bats (s : RS) (ep : Int) : RS × List Bt := (batF ep).counted 32 s
def RS.dec2 (s : RS) : RS × Sg2 := (((s.begin 2).bats s.header.2.ep).1.rest9, ⟨s.header.2.ep, ((s.begin 2).bats s.header.2.ep).2⟩)
def dec2 (b : List Int) : Sg2 × (Int × Int) := if (RS.new b).dec2.1.code = 0 then ((RS.new b).dec2.2, (0, 0)) else (sg20, ((RS.new b).dec2.1.code, (RS.new b).dec2.1.fat))
theorem rightH2 {u : Sg2} (hr : right2 u = true) : rightH ⟨2, u.ep, 0⟩ = true := by
  obtain ⟨h1, h2, h3⟩ := right2_iff.1 hr
  exact rightH_iff.2 ⟨by simp, h1, by simp, .inr rfl⟩
theorem encs_bats {ep : Int} {l : List Bt} (h : Wf (batF ep).nx [] l) : (encs (batF ep).enc [] l).length ≤ 1080014 * l.length :=
  encs_len (enc := (batF ep).enc) 1080014 (fun acc x hx => by
    have h1 := plB_len hx.ok hx.rt hx.sg
    have h2 := (vb_len ((plB x).length : Int)).2
    simp only [batF, frameB_len, blobB, List.length_append]
    omega) h
theorem seg2_len {u : Sg2} (hl : Bts u.bt) (hr : right2 u = true) : (seg2B u).length ≤ 40000000 := by
  obtain ⟨h1, h2, h3⟩ := (right2_wf hl).1 hr
  have h4 := encs_bats h3
  have h5 := (plainB_len ⟨2, u.ep, 0⟩).2
  have h6 := (vb_len (u.bt.length : Int)).2
  unfold seg2B
  rw [List.length_append, List.length_append, headerB_len]; omega
theorem seg2_bys {u : Sg2} (hl : Bts u.bt) (hr : right2 u = true) : Bys (seg2B u) := by
  obtain ⟨h1, h2, h3⟩ := (right2_wf hl).1 hr
  intro y hy
  rcases List.mem_append.1 hy with hy | hy
  · exact headerB_bys (rightH2 hr) (Int.le_refl 0) y hy
  · rcases List.mem_append.1 hy with hy | hy
    · exact vb_by (by omega) (by omega) y hy
    · exact encs_bys (acc := []) (batF_ok u.ep) trivial h3 y hy
/-- What is written is read. -/
theorem seg2_own {u : Sg2} (hl : Bts u.bt) (hr : right2 u = true) : dec2 (seg2B u) = (u, (0, 0)) ∧ (RS.new (seg2B u)).header.1.code = 0 ∧ (RS.new (seg2B u)).header.2.ver = 2 := by
  obtain ⟨h1, h2, h3⟩ := (right2_wf hl).1 hr
  have hB := seg2_bys hl hr
  have hn := seg2_len hl hr
  have hok : ROk (RS.new (seg2B u)) := ROk.new hB (by omega)
  have e1 : (RS.new (seg2B u)).rest = headerB ⟨2, u.ep, 0⟩ ++ (vb u.bt.length ++ encs (batF u.ep).enc [] u.bt) := new_rest _
  have hho := header_own hok rfl (rightH2 hr) (Int.le_refl 0) e1
  obtain ⟨hbo, hhd⟩ := begin_own hok rfl (rightH2 hr) (Int.le_refl 0) e1
  have k1 := adv_ok hok e1
  have e2 : ((RS.new (seg2B u)).adv ((headerB ⟨2, u.ep, 0⟩).length : Int)).rest = vb u.bt.length ++ (encs (batF u.ep).enc [] u.bt ++ []) := by rw [adv_rest hok.at0, e1, List.drop_left, List.append_nil]
  have hco := counted_own (batF_ok u.ep) k1 rfl (m := 32) (by omega) h3 (by omega) e2
  have hhd2 : (RS.new (seg2B u)).header.2 = ⟨2, u.ep, 0⟩ := hhd
  have hbo2 : (RS.new (seg2B u)).begin 2 = (RS.new (seg2B u)).adv ((headerB ⟨2, u.ep, 0⟩).length : Int) := hbo
  have hd : (RS.new (seg2B u)).dec2 = (((RS.new (seg2B u)).adv ((headerB ⟨2, u.ep, 0⟩).length : Int)).adv (((vb (u.bt.length : Int)).length : Int) + (encs (batF u.ep).enc [] u.bt).length), u) := by
    unfold RS.dec2 RS.bats
    rw [hbo2, hhd2]
    simp only
    rw [hco]
    simp only
    unfold RS.rest9
    rw [if_neg]
    have hlen : (seg2B u).length = (headerB ⟨2, u.ep, 0⟩).length + ((vb (u.bt.length : Int)).length + (encs (batF u.ep).enc [] u.bt).length) := by unfold seg2B; rw [List.length_append, List.length_append]
    show ¬ 0 < ((seg2B u).length : Int) - (0 + ((headerB ⟨2, u.ep, 0⟩).length : Int) + (((vb (u.bt.length : Int)).length : Int) + (encs (batF u.ep).enc [] u.bt).length))
    omega
  refine ⟨?_, by rw [hho]; rfl, by rw [hhd2]⟩
  unfold dec2
  rw [hd]
  rfl
end Go.Proofs.YtnfagphepkeedaaGreat
end
section
namespace Go.Proofs.YtnfagphepkeedaaGreat
def c6 : C := .seq
  (.reg [(none, (.box (.tmp 0), .some 2)), (none, (.box (.tmp 1), .some 3)), zV (.bool .false) 4] []) (.seq (.seq
  (.reg [zN 2 2 11, zC 23 [11] 12, zM 12 13, zG 13 false (zN 2 3 14), zG 13 false (zC 23 [14] 15), (none, (.pick (.tmp 13) (.const (.bool .true)) (.tmp 15), .some 16))] []) (.cond (.tmp 16) (.seq
  (.reg [zC 7 [] 17, zM 17 4] []) .ret) .skip)) (.seq
  (.reg [zN 2 2 19, zC 21 [19] 20, zM 20 18, zE 18 0 21, zE 18 1 22, zM 21 5, zM 22 6] []) (.seq (.seq
  (.reg [zN 2 2 23, zC 24 [23] 24, zN 2 2 25, zC 22 [25] 26, (none, (.eqb .true (.tmp 24) (.tmp 26), .some 27)), zM 27 28, zG 28 false (zN 2 2 29), zG 28 false (zN 2 3 30), zG 28 false (zC 25 [29, 30] 31), zG 28 false (zN 2 2 32), zG 28 false (zN 2 3 33), zG 28 false (zC 13 [32, 33] 34), (.some (28, .false), (.eqb .true (.tmp 31) (.tmp 34), .some 35)), (none, (.pick (.tmp 28) (.const (.bool .true)) (.tmp 35), .some 36))] [(0, 2), (1, 2), (6, 7), (6, 9), (7, 9), (8, 9), (6, 10), (7, 10), (8, 10), (9, 10)]) (.cond (.tmp 36) (.seq
  (.reg [zV (.bool .false) 4] []) .ret) .skip)) (.seq (.seq
  (.reg [zN 2 2 37, zC 22 [37] 38, (none, (.un .not (.tmp 38), .some 39))] []) (.cond (.tmp 39) (.seq
  (.reg [zM 6 40, zI .eql 40 3 41, zM 41 42, zG 42 true (zM 5 43), zG 42 true (zU 43 44), zG 42 true (zI .eql 44 0 45), (none, (.pick (.tmp 42) (.tmp 45) (.const (.bool .false)), .some 46)), zM 46 47, zG 47 true (zC 7 [] 48), (none, (.pick (.tmp 47) (.tmp 48) (.const (.bool .false)), .some 49)), zM 49 4] []) .ret) .skip)) (.seq
  (.reg [zM 5 51, zC 10 [51] 52, zM 52 50, zE 50 0 53, zE 50 1 54, (none, (.new [.int .u64 0, .slice none 0 0], .some 7)), (none, (.new [.int .i64 0, .int .i64 0], .some 8)), zS 2 7 53, zS 2 8 54] []) (.seq
  (.reg [zM 5 56, zC 8 [56] 57, zM 57 55, zE 55 0 58, zE 55 1 59, (none, (.new [.int .u64 0, .int .u64 0, .slice none 0 0], .some 9)), (none, (.new [.int .i64 0, .int .i64 0], .some 10)), zS 3 9 58, zS 2 10 59] []) (.seq
  (.reg [zM 6 60, zI .eql 60 0 61, zM 61 62, zG 62 true (zM 5 63), zG 62 true (zN 2 2 64), zG 62 true (zC 26 [64] 65), zG 62 true (zC 19 [63, 65] 66), (none, (.pick (.tmp 62) (.tmp 66) (.const (.bool .false)), .some 67)), zM 67 68, zG 68 true (zF 0 8 69), zG 68 true (zL 69 70), zG 68 true (zI .eql 70 0 71), (none, (.pick (.tmp 68) (.tmp 71) (.const (.bool .false)), .some 72)), zM 72 73, zG 73 true (zN 2 7 74), zG 73 true (zN 2 2 75), zG 73 true (zC 13 [74, 75] 76), (none, (.pick (.tmp 73) (.tmp 76) (.const (.bool .false)), .some 77)), zM 77 78, zG 78 true (zN 2 10 79), (.some (78, .true), (.build [.int .i64 0, .int .i64 0] [(0, (1, .const (.int .i64 8))), (1, (1, .const (.int .i64 4)))], .some 80)), (.some (78, .true), (.eqa .false 2 (.tmp 79) (.tmp 80), .some 81)), (none, (.pick (.tmp 78) (.tmp 81) (.const (.bool .false)), .some 82)), zM 82 83, zG 83 true (zC 7 [] 84), (none, (.pick (.tmp 83) (.tmp 84) (.const (.bool .false)), .some 85)), zM 85 4] []) .ret)))))))
theorem b6 : Tryz.f6.body.bind (compC Tryz.prog) = some c6 := by kernel_rfl
theorem r6 : compR Tryz.prog Tryz.f6 = .some [.tmp 4] := by kernel_rfl
theorem n6 : (Tryz.f6.name == "runtime.NumGoroutine") = false := by kernel_rfl
def c24 : C := .seq
  (.reg [(none, (.box (.tmp 0), .some 1)), zV (.bool .false) 2] []) (.seq (.seq
  (.reg [zF 0 1 3, zL 3 4, zC 72 [4] 5, (none, (.un .not (.tmp 5), .some 6)), zM 6 7, zG 7 false (zF 1 1 8), zG 7 false (zL 8 9), zG 7 false (zU 9 10), zG 7 false (zI .gtr 10 32 11), (none, (.pick (.tmp 7) (.const (.bool .true)) (.tmp 11), .some 12))] []) (.cond (.tmp 12) (.seq
  (.reg [zV (.bool .false) 2] []) .ret) .skip)) (.seq
  (.reg [zF 1 1 13, zL 13 14, (none, (.mkf 92 [] [.tmp 1], .some 15)), zC 91 [14, 15] 16, zM 16 2] []) .ret))
theorem b24 : Tryz.f24.body.bind (compC Tryz.prog) = some c24 := by kernel_rfl
theorem r24 : compR Tryz.prog Tryz.f24 = .some [.tmp 2] := by kernel_rfl
theorem n24 : (Tryz.f24.name == "runtime.NumGoroutine") = false := by kernel_rfl
def c27 : C := .seq
  (.reg [(none, (.box (.tmp 0), .some 1)), zV (.slice none 0 0) 2, zV (.int .i64 0) 3] []) (.seq
  (.reg [zC 101 [] 5, zC 66 [5] 6, zM 6 4] []) (.seq
  (.reg [zM 4 7, zN 3 1 8, zC 102 [7, 8] 9] []) (.seq
  (.reg [zM 4 10, zC 70 [10] 11, zE 11 0 12, zE 11 1 13, zM 12 2, zM 13 3] []) .ret)))
theorem b27 : Tryz.f27.body.bind (compC Tryz.prog) = some c27 := by kernel_rfl
theorem r27 : compR Tryz.prog Tryz.f27 = .some [.tmp 2, .tmp 3] := by kernel_rfl
theorem n27 : (Tryz.f27.name == "runtime.NumGoroutine") = false := by kernel_rfl
def c28 : C := .seq
  (.reg [zV (.pointer none) 2] []) (.seq
  (.reg [zM 0 3, zM 0 4, zU 4 5, zM 0 6, zU 6 7, (none, (.slice 1 (.tmp 3) none (.some (.tmp 5)) (.some (.tmp 7)), .some 8)), (none, (.build [.slice none 0 0, .int .i64 0, .int .i64 0, .int .i64 0] [(0, (1, .tmp 8))], .some 9)), (none, (.box (.tmp 9), .some 10)), zM 10 2] []) .ret)
theorem b28 : Tryz.f28.body.bind (compC Tryz.prog) = some c28 := by kernel_rfl
theorem r28 : compR Tryz.prog Tryz.f28 = .some [.tmp 2] := by kernel_rfl
theorem n28 : (Tryz.f28.name == "runtime.NumGoroutine") = false := by kernel_rfl
def c29 : C := .seq
  (.reg [(none, (.new [.int .i64 0, .int .u64 0, .int .u64 0], .some 4))] []) (.seq
  (.reg [zM 0 6, zC 103 [6] 7, (none, (.new [.int .i64 0, .int .u64 0, .int .u64 0], .some 5)), zS 3 5 7] []) (.seq (.seq
  (.reg [zF 0 5 8, zL 8 9, zM 1 10, zB .neq 9 10 11] []) (.cond (.tmp 11)
  (.reg [zM 0 12, (none, (.call (.func 38) [.tmp 12, .const (.int .i64 8), .const (.int .i64 4)], .some 13))] []) .skip)) (.seq
  (.reg [zN 3 5 14, zS 3 4 14] []) .ret)))
theorem b29 : Tryz.f29.body.bind (compC Tryz.prog) = some c29 := by kernel_rfl
theorem r29 : compR Tryz.prog Tryz.f29 = .some [.cell 4 (.some 3)] := by kernel_rfl
theorem n29 : (Tryz.f29.name == "runtime.NumGoroutine") = false := by kernel_rfl
def c33 : C := .seq
  (.reg [(none, (.new [.int .u64 0, .int .u64 0, .bool .false, .slice none 0 0], .some 5))] []) (.seq
  (.reg [zL 1 7, zF 2 2 8, zL 8 9, zM 0 10, (none, (.cvt .u64 (.tmp 10), .some 11)), zB .add 9 11 12, zL 3 13, zC 34 [7, 12, 13] 14, (none, (.new [.int .u64 0, .int .u64 0, .bool .false, .slice none 0 0], .some 6)), zS 4 6 14] []) (.seq
  (.reg [zL 3 15, zF 3 6 16, zL 16 17, zU 17 18, zB .sub 15 18 19, zS 1 3 19] []) (.seq
  (.reg [zN 4 6 20, zS 4 5 20] []) .ret)))
theorem b33 : Tryz.f33.body.bind (compC Tryz.prog) = some c33 := by kernel_rfl
theorem r33 : compR Tryz.prog Tryz.f33 = .some [.cell 5 (.some 4)] := by kernel_rfl
theorem n33 : (Tryz.f33.name == "runtime.NumGoroutine") = false := by kernel_rfl
def c35 : C := .seq
  (.reg [zV (.slice none 0 0) 4] []) (.seq (.seq
  (.reg [zM 0 5, (none, (.eqp .false (.tmp 5) (.const (.pointer none)), .some 6)), zM 6 7, zG 7 false (zM 1 8), zG 7 false (zI .lss 8 0 9), (none, (.pick (.tmp 7) (.const (.bool .true)) (.tmp 9), .some 10)), zM 10 11, zG 11 false (zM 1 12), zG 11 false (zM 0 13), (.some (11, .false), (.nilc (.tmp 13), .some 14)), zG 11 false (zF 1 14 15), zG 11 false (zL 15 16), zG 11 false (zB .gtr 12 16 17), (none, (.pick (.tmp 11) (.const (.bool .true)) (.tmp 17), .some 18))] []) (.cond (.tmp 18) (.seq
  (.reg [zV (.slice none 0 0) 4] []) .ret) .skip)) (.seq
  (.reg [(none, (.bsl 1 [], .some 19)), zM 0 20, (none, (.nilc (.tmp 20), .some 21)), zF 0 21 22, zL 22 23, zM 1 24, zM 0 25, (none, (.nilc (.tmp 25), .some 26)), zF 1 26 27, zL 27 28, (none, (.slice 1 (.tmp 23) (.some (.tmp 24)) (.some (.tmp 28)) none, .some 29)), (none, (.app 1 1 (.tmp 19) (.tmp 29), .some 30)), zM 30 4] [(4, 9)]) .ret))
theorem b35 : Tryz.f35.body.bind (compC Tryz.prog) = some c35 := by kernel_rfl
theorem r35 : compR Tryz.prog Tryz.f35 = .some [.tmp 4] := by kernel_rfl
theorem n35 : (Tryz.f35.name == "runtime.NumGoroutine") = false := by kernel_rfl
def c37 : C := .seq
  (.reg [zV (.int .u32 0) 2] []) (.seq
  (.reg [zC 109 [] 3, zM 0 4, zC 108 [3, 4] 5, zC 107 [5] 6, zM 6 2] []) .ret)
theorem b37 : Tryz.f37.body.bind (compC Tryz.prog) = some c37 := by kernel_rfl
theorem r37 : compR Tryz.prog Tryz.f37 = .some [.tmp 2] := by kernel_rfl
theorem n37 : (Tryz.f37.name == "runtime.NumGoroutine") = false := by kernel_rfl
def c40 : C := .seq
  (.reg [(none, (.box (.tmp 1), .some 3)), (none, (.new [.int .u64 0, .int .u64 0, .slice none 0 0], .some 4)), (none, (.new [.int .i64 0, .int .i64 0], .some 5))] []) (.seq (.seq
  (.reg [zM 0 8, zC 56 [8] 9, (none, (.new [.int .i64 0, .int .i64 0], .some 6)), zS 2 6 9] []) (.seq
  (.reg [zN 2 6 10, zC 57 [10] 11, (none, (.un .not (.tmp 11), .some 12))] []) (.cond (.tmp 12) (.seq
  (.reg [(none, (.new [.int .u64 0, .int .u64 0, .slice none 0 0], .some 7))] []) (.seq
  (.reg [zN 3 7 13, zN 2 6 14, zS 3 4 13, zS 2 5 14] [(0, 1), (1, 2)]) .ret)) .skip))) (.seq
  (.reg [zN 3 3 15, (none, (.build [.int .i64 0, .int .i64 0] [], .some 16)), zS 3 4 15, zS 2 5 16] []) .ret))
theorem b40 : Tryz.f40.body.bind (compC Tryz.prog) = some c40 := by kernel_rfl
theorem r40 : compR Tryz.prog Tryz.f40 = .some [.cell 4 (.some 3), .cell 5 (.some 2)] := by kernel_rfl
theorem n40 : (Tryz.f40.name == "runtime.NumGoroutine") = false := by kernel_rfl
def c50 : C := .seq
  (.reg [zV (.slice none 0 0) 6] []) (.seq
  (.reg [zV (.slice none 0 0) 7] []) (.seq (.seq
  (.reg [zM 1 10, zV (.int .i64 0) 11] []) (.block 0 (.loop (.seq
  (.reg [zB .lss 11 10 12] []) (.seq (.cond (.tmp 12) .skip (.exit 0)) (.seq (.block 1 (.seq
  (.reg [zM 11 13, zM 13 8] []) (.seq
  (.reg [zM 2 14, zM 8 15, (none, (.call (.tmp 14) [.tmp 15], .some 16)), (none, (.new [.int .u64 0, .int .u64 0, .slice none 0 0], .some 9)), zS 3 9 16] []) (.seq (.seq
  (.reg [zM 0 17, zC 53 [17] 18, (none, (.un .not (.tmp 18), .some 19))] []) (.cond (.tmp 19) (.seq
  (.reg [zV (.slice none 0 0) 6] []) .ret) .skip))
  (.reg [zM 7 20, zN 3 9 21, (none, (.bsl 3 [.tmp 21], .some 22)), (none, (.app 3 40 (.tmp 20) (.tmp 22), .some 23)), zM 23 7] [])))))
  (.reg [zI .add 11 1 24, zM 24 11] []))))))) (.seq
  (.reg [zM 7 25, zM 25 6] []) .ret)))
theorem b50 : Tryz.f50.body.bind (compC Tryz.prog) = some c50 := by kernel_rfl
theorem r50 : compR Tryz.prog Tryz.f50 = .some [.tmp 6] := by kernel_rfl
theorem n50 : (Tryz.f50.name == "runtime.NumGoroutine") = false := by kernel_rfl
def c51 : C := .seq
  (.reg [(none, (.new [.int .u64 0, .int .u64 0, .slice none 0 0], .some 4))] []) (.seq
  (.reg [zL 1 10, zC 30 [10] 11, zM 11 5] []) (.seq
  (.reg [zL 1 12, (none, (.call (.func 52) [.tmp 12, .const (.int .i64 2097152)], .some 13)), zM 13 6] []) (.seq (.seq
  (.reg [zL 1 14, zC 53 [14] 15, (none, (.un .not (.tmp 15), .some 16))] []) (.cond (.tmp 16) (.seq
  (.reg [(none, (.build [.int .u64 0, .int .u64 0, .slice none 0 0] [], .some 17)), zS 3 4 17] []) .ret) .skip)) (.seq
  (.reg [zM 6 18, zC 28 [18] 19, zM 19 7] []) (.seq
  (.reg [zM 7 20, zC 54 [20] 21, (none, (.new [.int .u64 0, .int .u64 0, .slice none 0 0], .some 8)), zS 3 8 21] []) (.seq (.seq
  (.reg [zM 7 22, zC 56 [22] 23, zL 1 24, zC 30 [24] 25, zI .sub 25 4 26, zM 6 27, zU 27 28, zB .sub 26 28 29, zC 55 [23, 29] 30, (none, (.new [.int .i64 0, .int .i64 0], .some 9)), zS 2 9 30] [(1, 2), (1, 9), (2, 9), (3, 9), (8, 9)]) (.seq
  (.reg [zN 2 9 31, zC 57 [31] 32, (none, (.un .not (.tmp 32), .some 33))] []) (.cond (.tmp 33)
  (.reg [zL 1 34, zF 0 9 35, zL 35 36, zF 1 9 37, zL 37 38, zC 38 [34, 36, 38] 39] []) (.seq
  (.reg [zF 0 2 40, zL 40 41, zF 1 2 42, zL 42 43, zN 3 8 44, zC 58 [41, 43, 44] 45, (none, (.un .not (.tmp 45), .some 46))] []) (.cond (.tmp 46)
  (.reg [zL 1 47, zM 5 48, (none, (.call (.func 38) [.tmp 47, .const (.int .i64 13), .tmp 48], .some 49))] []) .skip))))) (.seq
  (.reg [zF 1 2 50, zL 50 51, zN 3 8 52, (none, (.bsl 3 [.tmp 52], .some 53)), (none, (.app 3 40 (.tmp 51) (.tmp 53), .some 54)), zF 1 2 55, zS 1 55 54] []) (.seq
  (.reg [zN 3 8 56, zS 3 4 56] []) .ret))))))))
theorem b51 : Tryz.f51.body.bind (compC Tryz.prog) = some c51 := by kernel_rfl
theorem r51 : compR Tryz.prog Tryz.f51 = .some [.cell 4 (.some 3)] := by kernel_rfl
theorem n51 : (Tryz.f51.name == "runtime.NumGoroutine") = false := by kernel_rfl
def c55 : C := .seq
  (.reg [(none, (.box (.tmp 0), .some 2)), (none, (.new [.int .i64 0, .int .i64 0], .some 4))] []) (.seq
  (.reg [zF 0 2 5, zL 5 6, zF 1 2 7, zL 7 8, zM 1 9, zB .add 8 9 10, zC 110 [6, 10] 11, zS 2 4 11] []) .ret)
theorem b55 : Tryz.f55.body.bind (compC Tryz.prog) = some c55 := by kernel_rfl
theorem r55 : compR Tryz.prog Tryz.f55 = .some [.cell 4 (.some 2)] := by kernel_rfl
theorem n55 : (Tryz.f55.name == "runtime.NumGoroutine") = false := by kernel_rfl
def c67 : C := .seq
  (.reg [zV (.int .i64 0) 2] []) (.seq
  (.reg [zV (.int .i64 0) 3] []) (.seq (.seq
  (.reg [zM 0 6, zU 6 7, zV (.int .i64 0) 8] []) (.block 0 (.loop (.seq
  (.reg [zB .lss 8 7 9] []) (.seq (.cond (.tmp 9) .skip (.exit 0)) (.seq (.block 1 (.seq
  (.reg [zJ 4 6 8 10, zN 4 10 11, (none, (.new [.int .u64 0, .int .u64 0, .bool .false, .slice none 0 0], .some 5)), zS 4 5 11] [])
  (.reg [zM 3 12, zF 3 5 13, zL 13 14, zU 14 15, zB .add 12 15 16, zM 16 3] [])))
  (.reg [zI .add 8 1 17, zM 17 8] []))))))) (.seq
  (.reg [zM 3 18, zM 18 2] []) .ret)))
theorem b67 : Tryz.f67.body.bind (compC Tryz.prog) = some c67 := by kernel_rfl
theorem r67 : compR Tryz.prog Tryz.f67 = .some [.tmp 2] := by kernel_rfl
theorem n67 : (Tryz.f67.name == "runtime.NumGoroutine") = false := by kernel_rfl
def c81 : C := .seq
  (.reg [(none, (.box (.tmp 0), .some 1)), zV (.slice none 0 0) 2] []) (.seq
  (.reg [zF 0 1 4, zL 4 5, (none, (.cvt .u8 (.tmp 5), .some 6)), (none, (.bsl 1 [.const (.int .u8 84), .const (.int .u8 72), .const (.int .u8 79), .const (.int .u8 76), .tmp 6], .some 7)), zM 7 3] []) (.seq
  (.reg [zM 3 8, zF 1 1 9, zL 9 10, zC 82 [10] 11, (none, (.app 1 1 (.tmp 8) (.tmp 11), .some 12)), zM 12 3] []) (.seq (.seq
  (.reg [zF 0 1 13, zL 13 14, zI .eql 14 1 15] []) (.cond (.tmp 15)
  (.reg [zM 3 16, zF 2 1 17, zL 17 18, zC 82 [18] 19, (none, (.app 1 1 (.tmp 16) (.tmp 19), .some 20)), zM 20 3] []) .skip)) (.seq
  (.reg [zM 3 21, zM 3 22, zC 47 [22] 23, (none, (.cvt .u64 (.tmp 23), .some 24)), (none, (.call (.func 84) [.tmp 24, .const (.int .i64 4)], .some 25)), (none, (.app 1 1 (.tmp 21) (.tmp 25), .some 26)), zM 26 2] []) .ret))))
theorem b81 : Tryz.f81.body.bind (compC Tryz.prog) = some c81 := by kernel_rfl
theorem r81 : compR Tryz.prog Tryz.f81 = .some [.tmp 2] := by kernel_rfl
theorem n81 : (Tryz.f81.name == "runtime.NumGoroutine") = false := by kernel_rfl
def c83 : C := .seq
  (.reg [zV (.slice none 0 0) 2] []) (.seq
  (.reg [zM 0 3, zU 3 4, (none, (.cvt .u64 (.tmp 4), .some 5)), zC 82 [5] 6, zM 0 7, (none, (.app 1 1 (.tmp 6) (.tmp 7), .some 8)), zM 8 2] []) .ret)
theorem b83 : Tryz.f83.body.bind (compC Tryz.prog) = some c83 := by kernel_rfl
theorem r83 : compR Tryz.prog Tryz.f83 = .some [.tmp 2] := by kernel_rfl
theorem n83 : (Tryz.f83.name == "runtime.NumGoroutine") = false := by kernel_rfl
def c86 : C := .seq
  (.reg [zV (.slice none 0 0) 2, zV (.int .i64 0) 3] []) (.seq
  (.reg [zM 0 5, zU 5 6, zC 133 [6] 7, zC 66 [7] 8, zM 8 4] []) (.seq
  (.reg [zM 4 9, zM 0 10, zC 134 [9, 10] 11] []) (.seq
  (.reg [zM 4 12, zC 70 [12] 13, zE 13 0 14, zE 13 1 15, zM 14 2, zM 15 3] []) .ret)))
theorem b86 : Tryz.f86.body.bind (compC Tryz.prog) = some c86 := by kernel_rfl
theorem r86 : compR Tryz.prog Tryz.f86 = .some [.tmp 2, .tmp 3] := by kernel_rfl
theorem n86 : (Tryz.f86.name == "runtime.NumGoroutine") = false := by kernel_rfl
def c92 : C := .seq
  (.reg [(none, (.box (.tmp 1), .some 4)), zV (.bool .false) 5] []) (.seq
  (.reg [zF 2 4 7, zL 7 8, (none, (.call (.func 93) [.tmp 8, .func 94], .some 9)), zM 9 6] []) (.seq
  (.reg [zM 6 10, zM 10 11, zG 11 true (zN 3 4 12), zG 11 true (zC 96 [12] 13), (none, (.pick (.tmp 11) (.tmp 13) (.const (.bool .false)), .some 14)), zM 14 15, zG 15 true (zF 0 2 16), zG 15 true (zL 16 17), zG 15 true (zF 1 2 18), zG 15 true (zL 18 19), zG 15 true (zM 0 20), (.some (15, .true), (.slice 3 (.tmp 19) none (.some (.tmp 20)) none, .some 21)), zG 15 true (zN 3 4 22), zG 15 true (zC 58 [17, 21, 22] 23), (none, (.pick (.tmp 15) (.tmp 23) (.const (.bool .false)), .some 24)), zM 24 5] [(7, 9), (7, 12), (9, 12)]) .ret))
theorem b92 : Tryz.f92.body.bind (compC Tryz.prog) = some c92 := by kernel_rfl
theorem r92 : compR Tryz.prog Tryz.f92 = .some [.tmp 5] := by kernel_rfl
theorem n92 : (Tryz.f92.name == "runtime.NumGoroutine") = false := by kernel_rfl
def c96 : C := .seq
  (.reg [(none, (.box (.tmp 0), .some 1)), zV (.bool .false) 2] []) (.seq (.seq
  (.reg [zF 0 1 5, zL 5 6, zC 72 [6] 7, (none, (.un .not (.tmp 7), .some 8)), zM 8 9, zG 9 false (zF 1 1 10), zG 9 false (zL 10 11), zG 9 false (zF 2 1 12), zG 9 false (zL 12 13), zG 9 false (zU 13 14), zG 9 false (zC 145 [11, 14] 15), (.some (9, .false), (.un .not (.tmp 15), .some 16)), (none, (.pick (.tmp 9) (.const (.bool .true)) (.tmp 16), .some 17)), zM 17 18, zG 18 false (zF 2 1 19), zG 18 false (zL 19 20), zG 18 false (zC 146 [20] 21), zG 18 false (zI .gtr 21 1048576 22), (none, (.pick (.tmp 18) (.const (.bool .true)) (.tmp 22), .some 23))] []) (.cond (.tmp 23) (.seq
  (.reg [zV (.bool .false) 2] []) .ret) .skip)) (.seq (.seq
  (.reg [zF 2 1 24, zL 24 25, zU 25 26, zV (.int .i64 0) 27] []) (.block 0 (.loop (.seq
  (.reg [zB .lss 27 26 28] []) (.seq (.cond (.tmp 28) .skip (.exit 0)) (.seq (.block 1 (.seq
  (.reg [zM 27 29, zJ 2 25 27 30, zN 2 30 31, (none, (.new [.slice none 0 0, .slice none 0 0], .some 4)), zM 29 3, zS 2 4 31] []) (.seq
  (.reg [zF 1 1 32, zL 32 33, zM 3 34, (none, (.cvt .u64 (.tmp 34), .some 35)), zB .add 33 35 36, zN 2 4 37, zC 147 [36, 37] 38, (none, (.un .not (.tmp 38), .some 39))] []) (.cond (.tmp 39) (.seq
  (.reg [zV (.bool .false) 2] []) .ret) .skip))))
  (.reg [zI .add 27 1 40, zM 40 27] []))))))) (.seq
  (.reg [zV (.bool .true) 2] []) .ret)))
theorem b96 : Tryz.f96.body.bind (compC Tryz.prog) = some c96 := by kernel_rfl
theorem r96 : compR Tryz.prog Tryz.f96 = .some [.tmp 2] := by kernel_rfl
theorem n96 : (Tryz.f96.name == "runtime.NumGoroutine") = false := by kernel_rfl
def c98 : C := .seq
  (.reg [(none, (.box (.tmp 0), .some 2)), (none, (.box (.tmp 1), .some 3)), zV (.bool .false) 4] []) (.seq
  (.reg [zF 0 2 5, zL 5 6, zF 0 3 7, zL 7 8, zB .eql 6 8 9, zM 9 10, zG 10 true (zF 1 2 11), zG 10 true (zL 11 12), zG 10 true (zF 1 3 13), zG 10 true (zL 13 14), zG 10 true (zB .eql 12 14 15), (none, (.pick (.tmp 10) (.tmp 15) (.const (.bool .false)), .some 16)), zM 16 17, zG 17 true (zF 2 2 18), zG 17 true (zL 18 19), zG 17 true (zF 2 3 20), zG 17 true (zL 20 21), zG 17 true (zC 148 [19, 21] 22), (none, (.pick (.tmp 17) (.tmp 22) (.const (.bool .false)), .some 23)), zM 23 4] []) .ret)
theorem b98 : Tryz.f98.body.bind (compC Tryz.prog) = some c98 := by kernel_rfl
theorem r98 : compR Tryz.prog Tryz.f98 = .some [.tmp 4] := by kernel_rfl
theorem n98 : (Tryz.f98.name == "runtime.NumGoroutine") = false := by kernel_rfl
def c99 : C := .seq
  (.reg [zV (.slice none 0 0) 2] []) (.seq
  (.reg [zM 0 3, zC 83 [3] 4, zM 0 5, zC 47 [5] 6, (none, (.cvt .u64 (.tmp 6), .some 7)), (none, (.call (.func 84) [.tmp 7, .const (.int .i64 4)], .some 8)), (none, (.app 1 1 (.tmp 4) (.tmp 8), .some 9)), zM 9 2] []) .ret)
theorem b99 : Tryz.f99.body.bind (compC Tryz.prog) = some c99 := by kernel_rfl
theorem r99 : compR Tryz.prog Tryz.f99 = .some [.tmp 2] := by kernel_rfl
theorem n99 : (Tryz.f99.name == "runtime.NumGoroutine") = false := by kernel_rfl
def c101 : C := .seq
  (.reg [zV (.int .i64 0) 0] []) (.seq
  (.reg [(none, (.call (.func 150) [.const (.int .u64 4611686018427387903)], .some 1)), (none, (.bin .mul (.const (.int .i64 2)) (.tmp 1), .some 2)), (none, (.bin .add (.const (.int .i64 5)) (.tmp 2), .some 3)), zI .add 3 4 4, zM 4 0] []) .ret)
theorem b101 : Tryz.f101.body.bind (compC Tryz.prog) = some c101 := by kernel_rfl
theorem r101 : compR Tryz.prog Tryz.f101 = .some [.tmp 0] := by kernel_rfl
theorem n101 : (Tryz.f101.name == "runtime.NumGoroutine") = false := by kernel_rfl
def c103 : C := .seq
  (.reg [(none, (.new [.int .i64 0, .int .u64 0, .int .u64 0], .some 2))] []) (.seq
  (.reg [zM 0 6, zC 155 [6] 7, (none, (.build [.int .i64 0, .int .u64 0, .int .u64 0] [(0, (1, .tmp 7))], .some 8)), (none, (.new [.int .i64 0, .int .u64 0, .int .u64 0], .some 3)), zS 3 3 8] []) (.seq
  (.reg [zM 0 9, zC 119 [9] 10, zF 1 3 11, zS 1 11 10] []) (.seq (.seq
  (.reg [zF 0 3 12, zL 12 13, zC 156 [13] 14] []) (.cond (.tmp 14)
  (.reg [zM 0 15, zC 120 [15] 16, zF 2 3 17, zS 1 17 16] []) .skip)) (.seq
  (.reg [zM 0 18, zC 30 [18] 19, zM 19 4] []) (.seq
  (.reg [zM 0 20, (none, (.call (.func 36) [.tmp 20, .const (.int .i64 4)], .some 21)), zM 21 5] []) (.seq (.seq
  (.reg [zM 0 22, zC 53 [22] 23, (none, (.un .not (.tmp 23), .some 24))] []) (.cond (.tmp 24) (.seq
  (.reg [(none, (.build [.int .i64 0, .int .u64 0, .int .u64 0] [], .some 25)), zS 3 2 25] []) .ret) .skip)) (.seq (.seq
  (.reg [zM 5 26, zN 3 3 27, zC 153 [27] 28, zC 37 [28] 29, (none, (.cvt .u64 (.tmp 29), .some 30)), zB .neq 26 30 31] []) (.cond (.tmp 31) (.seq
  (.reg [zM 0 32, zM 4 33, (none, (.call (.func 38) [.tmp 32, .const (.int .i64 6), .tmp 33], .some 34))] []) (.seq
  (.reg [(none, (.build [.int .i64 0, .int .u64 0, .int .u64 0] [], .some 35)), zS 3 2 35] []) .ret)) .skip)) (.seq
  (.reg [zN 3 3 36, zS 3 2 36] []) .ret))))))))
theorem b103 : Tryz.f103.body.bind (compC Tryz.prog) = some c103 := by kernel_rfl
theorem r103 : compR Tryz.prog Tryz.f103 = .some [.cell 2 (.some 3)] := by kernel_rfl
theorem n103 : (Tryz.f103.name == "runtime.NumGoroutine") = false := by kernel_rfl
def c108 : C := .seq
  (.reg [zV (.int .u32 0) 4] []) (.seq
  (.reg [zC 159 [] 8, (none, (.new [.int .u32 0, .int .u32 0, .int .u32 0, .int .u32 0, .int .u32 0, .int .u32 0, .int .u32 0, .int .u32 0, .int .u32 0, .int .u32 0, .int .u32 0, .int .u32 0, .int .u32 0, .int .u32 0, .int .u32 0, .int .u32 0], .some 5)), zS 16 5 8] []) (.seq (.seq
  (.reg [zM 1 9, zU 9 10, zV (.int .i64 0) 11] []) (.block 0 (.loop (.seq
  (.reg [zB .lss 11 10 12] []) (.seq (.cond (.tmp 12) .skip (.exit 0)) (.seq (.block 1 (.seq
  (.reg [zJ 1 9 11 13, zL 13 14, zM 14 7] []) (.seq
  (.reg [zM 0 15, zM 7 16, (none, (.cvt .u32 (.tmp 16), .some 17)), zB .xor 15 17 18, zM 18 0] []) (.seq
  (.reg [zM 0 19, (none, (.bin .shr (.tmp 19) (.const (.int .u64 4)), .some 20)), zM 0 21, (none, (.bin .and (.tmp 21) (.const (.int .u32 15)), .some 22)), (none, (.aadr 16 1 (.tmp 5) (.tmp 22), .some 23)), zL 23 24, zB .xor 20 24 25, zM 25 0] [])
  (.reg [zM 0 26, (none, (.bin .shr (.tmp 26) (.const (.int .u64 4)), .some 27)), zM 0 28, (none, (.bin .and (.tmp 28) (.const (.int .u32 15)), .some 29)), (none, (.aadr 16 1 (.tmp 5) (.tmp 29), .some 30)), zL 30 31, zB .xor 27 31 32, zM 32 0] [])))))
  (.reg [zI .add 11 1 33, zM 33 11] []))))))) (.seq
  (.reg [zM 0 34, zM 34 4] []) .ret)))
theorem b108 : Tryz.f108.body.bind (compC Tryz.prog) = some c108 := by kernel_rfl
theorem r108 : compR Tryz.prog Tryz.f108 = .some [.tmp 4] := by kernel_rfl
theorem n108 : (Tryz.f108.name == "runtime.NumGoroutine") = false := by kernel_rfl
def c109 : C := .seq
  (.reg [zV (.int .u32 0) 0] []) (.seq
  (.reg [zV (.int .u32 4294967295) 0] []) .ret)
theorem b109 : Tryz.f109.body.bind (compC Tryz.prog) = some c109 := by kernel_rfl
theorem r109 : compR Tryz.prog Tryz.f109 = .some [.tmp 0] := by kernel_rfl
theorem n109 : (Tryz.f109.name == "runtime.NumGoroutine") = false := by kernel_rfl
def c116 : C := .seq
  (.reg [zV (.int .u64 0) 4] []) (.seq
  (.reg [zM 0 7, zC 30 [7] 8, zM 8 5] []) (.seq
  (.reg [zM 0 9, zC 104 [9] 10, zM 10 6] []) (.seq (.seq
  (.reg [zM 6 11, zM 1 12, zB .gtr 11 12 13] []) (.cond (.tmp 13) (.seq
  (.reg [zM 0 14, zM 5 15, (none, (.call (.func 38) [.tmp 14, .const (.int .i64 2), .tmp 15], .some 16))] []) (.seq
  (.reg [zV (.int .u64 0) 4] []) .ret)) .skip)) (.seq
  (.reg [zM 6 17, zM 17 4] []) .ret))))
theorem b116 : Tryz.f116.body.bind (compC Tryz.prog) = some c116 := by kernel_rfl
theorem r116 : compR Tryz.prog Tryz.f116 = .some [.tmp 4] := by kernel_rfl
theorem n116 : (Tryz.f116.name == "runtime.NumGoroutine") = false := by kernel_rfl
def c120 : C := .seq
  (.reg [zV (.int .u64 0) 2] []) (.seq
  (.reg [zM 0 3, (none, (.call (.func 162) [.tmp 3, .func 131], .some 4)), zM 4 2] []) .ret)
theorem b120 : Tryz.f120.body.bind (compC Tryz.prog) = some c120 := by kernel_rfl
theorem r120 : compR Tryz.prog Tryz.f120 = .some [.tmp 2] := by kernel_rfl
theorem n120 : (Tryz.f120.name == "runtime.NumGoroutine") = false := by kernel_rfl
def c130 : C := .seq
  (.reg [zV (.int .i64 0) 2] []) (.seq (.seq
  (.reg [zM 0 3, (none, (.eqp .false (.tmp 3) (.const (.pointer none)), .some 4))] []) (.cond (.tmp 4) (.seq
  (.reg [zV (.int .i64 19) 2] []) .ret) .skip)) (.seq
  (.reg [zM 0 5, (none, (.nilc (.tmp 5), .some 6)), zF 2 6 7, zL 7 8, zM 8 2] []) .ret))
theorem b130 : Tryz.f130.body.bind (compC Tryz.prog) = some c130 := by kernel_rfl
theorem r130 : compR Tryz.prog Tryz.f130 = .some [.tmp 2] := by kernel_rfl
theorem n130 : (Tryz.f130.name == "runtime.NumGoroutine") = false := by kernel_rfl
def c148 : C := .seq
  (.reg [zV (.bool .false) 4] []) (.seq
  (.reg [zM 0 5, zM 1 6, (none, (.call (.func 175) [.tmp 5, .tmp 6, .func 176], .some 7)), zM 7 4] []) .ret)
theorem b148 : Tryz.f148.body.bind (compC Tryz.prog) = some c148 := by kernel_rfl
theorem r148 : compR Tryz.prog Tryz.f148 = .some [.tmp 4] := by kernel_rfl
theorem n148 : (Tryz.f148.name == "runtime.NumGoroutine") = false := by kernel_rfl
def c154 : C := .reg [zM 0 6, zM 1 7, zM 2 8, zC 71 [7, 8] 9, zC 129 [6, 9] 10] []
theorem b154 : Tryz.f154.body.bind (compC Tryz.prog) = some c154 := by kernel_rfl
theorem r154 : compR Tryz.prog Tryz.f154 = .some [] := by kernel_rfl
theorem n154 : (Tryz.f154.name == "runtime.NumGoroutine") = false := by kernel_rfl
def c157 : C := .seq
  (.reg [zV (.int .u8 0) 2] []) (.seq (.seq
  (.reg [zM 0 3, (none, (.call (.func 158) [.tmp 3, .const (.int .i64 1)], .some 4)), (none, (.un .not (.tmp 4), .some 5))] []) (.cond (.tmp 5) (.seq
  (.reg [zV (.int .u8 0) 2] []) .ret) .skip)) (.seq
  (.reg [zM 0 6, (none, (.nilc (.tmp 6), .some 7)), zF 0 7 8, zL 8 9, zM 0 10, (none, (.nilc (.tmp 10), .some 11)), zF 1 11 12, zL 12 13, zI .sub 13 1 14, zJ 1 9 14 15, zL 15 16, zM 16 2] [(3, 7)]) .ret))
theorem b157 : Tryz.f157.body.bind (compC Tryz.prog) = some c157 := by kernel_rfl
theorem r157 : compR Tryz.prog Tryz.f157 = .some [.tmp 2] := by kernel_rfl
theorem n157 : (Tryz.f157.name == "runtime.NumGoroutine") = false := by kernel_rfl
def c158 : C := .seq
  (.reg [zV (.bool .false) 4] []) (.seq (.block 0 (.seq
  (.reg [zM 0 6, zC 53 [6] 7, (none, (.un .not (.tmp 7), .some 8)), zM 8 5] []) (.cond (.tmp 5) (.seq
  (.reg [zV (.bool .false) 4] []) .ret) (.seq
  (.reg [zM 1 10, zI .lss 10 0 11, zM 11 9] []) (.cond (.tmp 9) (.seq
  (.reg [zM 0 12, zM 0 13, (none, (.nilc (.tmp 13), .some 14)), zF 1 14 15, zL 15 16, (none, (.call (.func 38) [.tmp 12, .const (.int .i64 17), .tmp 16], .some 17))] []) (.seq
  (.reg [zV (.bool .false) 4] []) .ret)) (.seq
  (.reg [zM 1 19, zM 0 20, zC 111 [20] 21, zB .gtr 19 21 22, zM 22 18] []) (.cond (.tmp 18) (.seq
  (.reg [zM 0 23, zM 0 24, (none, (.nilc (.tmp 24), .some 25)), zF 0 25 26, zL 26 27, zU 27 28, (none, (.call (.func 38) [.tmp 23, .const (.int .i64 1), .tmp 28], .some 29))] []) (.seq
  (.reg [zV (.bool .false) 4] []) .ret)) .skip))))))) (.seq
  (.reg [zM 0 30, (none, (.nilc (.tmp 30), .some 31)), zF 1 31 32, zL 32 33, zM 1 34, zB .add 33 34 35, (none, (.nilc (.tmp 30), .some 36)), zF 1 36 37, zS 1 37 35] []) (.seq
  (.reg [zV (.bool .true) 4] []) .ret)))
theorem b158 : Tryz.f158.body.bind (compC Tryz.prog) = some c158 := by kernel_rfl
theorem r158 : compR Tryz.prog Tryz.f158 = .some [.tmp 4] := by kernel_rfl
theorem n158 : (Tryz.f158.name == "runtime.NumGoroutine") = false := by kernel_rfl
def c159 : C := .seq
  (.reg [(none, (.new [.int .u32 0, .int .u32 0, .int .u32 0, .int .u32 0, .int .u32 0, .int .u32 0, .int .u32 0, .int .u32 0, .int .u32 0, .int .u32 0, .int .u32 0, .int .u32 0, .int .u32 0, .int .u32 0, .int .u32 0, .int .u32 0], .some 0))] []) (.seq
  (.reg [(none, (.new [.int .u32 0, .int .u32 0, .int .u32 0, .int .u32 0, .int .u32 0, .int .u32 0, .int .u32 0, .int .u32 0, .int .u32 0, .int .u32 0, .int .u32 0, .int .u32 0, .int .u32 0, .int .u32 0, .int .u32 0, .int .u32 0], .some 1))] []) (.seq (.seq
  (.reg [zV (.int .i64 0) 4] []) (.block 0 (.loop (.seq
  (.reg [zI .lss 4 16 5] []) (.seq (.cond (.tmp 5) .skip (.exit 0)) (.seq (.block 1 (.seq
  (.reg [zM 4 6, zM 6 2] []) (.seq
  (.reg [zM 2 7, (none, (.cvt .u32 (.tmp 7), .some 8)), zM 8 3] []) (.seq (.seq
  (.reg [zV (.int .i64 0) 9] []) (.block 2 (.loop (.seq
  (.reg [zI .lss 9 4 10] []) (.seq (.cond (.tmp 10) .skip (.exit 2)) (.seq (.block 3
  (.reg [zM 3 11, zC 179 [11] 12, zM 12 3] []))
  (.reg [zI .add 9 1 13, zM 13 9] [])))))))
  (.reg [zM 2 14, zM 3 15, (none, (.aadr 16 1 (.tmp 1) (.tmp 14), .some 16)), zS 1 16 15] [])))))
  (.reg [zI .add 4 1 17, zM 17 4] []))))))) (.seq
  (.reg [zN 16 1 18, zS 16 0 18] []) .ret)))
theorem b159 : Tryz.f159.body.bind (compC Tryz.prog) = some c159 := by kernel_rfl
theorem r159 : compR Tryz.prog Tryz.f159 = .some [.cell 0 (.some 16)] := by kernel_rfl
theorem n159 : (Tryz.f159.name == "runtime.NumGoroutine") = false := by kernel_rfl
def c162 : C := .seq
  (.reg [zV (.int .u64 0) 4] []) (.seq
  (.reg [zM 0 7, zC 30 [7] 8, zM 8 5] []) (.seq
  (.reg [zM 0 9, zC 104 [9] 10, zM 10 6] []) (.seq (.seq
  (.reg [zM 1 11, zM 6 12, (none, (.call (.tmp 11) [.tmp 12], .some 13)), (none, (.un .not (.tmp 13), .some 14))] []) (.cond (.tmp 14)
  (.reg [zM 0 15, zM 5 16, (none, (.call (.func 38) [.tmp 15, .const (.int .i64 3), .tmp 16], .some 17))] []) .skip)) (.seq (.seq
  (.reg [zM 0 18, zC 53 [18] 19, (none, (.un .not (.tmp 19), .some 20))] []) (.cond (.tmp 20) (.seq
  (.reg [zV (.int .u64 0) 4] []) .ret) .skip)) (.seq
  (.reg [zM 6 21, zM 21 4] []) .ret)))))
theorem b162 : Tryz.f162.body.bind (compC Tryz.prog) = some c162 := by kernel_rfl
theorem r162 : compR Tryz.prog Tryz.f162 = .some [.tmp 4] := by kernel_rfl
theorem n162 : (Tryz.f162.name == "runtime.NumGoroutine") = false := by kernel_rfl
def c165 : C := .seq
  (.reg [zV (.bool .false) 4] []) (.seq (.seq
  (.reg [zM 0 6, zU 6 7, zM 1 8, zU 8 9, zB .neq 7 9 10] []) (.cond (.tmp 10) (.seq
  (.reg [zV (.bool .false) 4] []) .ret) .skip)) (.seq (.seq
  (.reg [zV (.int .i64 0) 5] []) (.block 0 (.loop (.seq (.seq
  (.reg [zM 5 11, zM 0 12, zU 12 13, zB .lss 11 13 14] []) (.cond (.tmp 14) .skip (.exit 0))) (.seq (.block 1 (.seq
  (.reg [zM 0 17, zM 5 18, zJ 2 17 18 19, zN 2 19 20, zM 1 21, zM 5 22, zJ 2 21 22 23, zN 2 23 24, zC 180 [20, 24] 25, (none, (.un .not (.tmp 25), .some 26))] [(3, 7)]) (.cond (.tmp 26) (.seq
  (.reg [zV (.bool .false) 4] []) .ret) .skip)))
  (.reg [zM 5 15, zI .add 15 1 16, zM 16 5] [])))))) (.seq
  (.reg [zV (.bool .true) 4] []) .ret)))
theorem b165 : Tryz.f165.body.bind (compC Tryz.prog) = some c165 := by kernel_rfl
theorem r165 : compR Tryz.prog Tryz.f165 = .some [.tmp 4] := by kernel_rfl
theorem n165 : (Tryz.f165.name == "runtime.NumGoroutine") = false := by kernel_rfl
def c175 : C := .seq
  (.reg [zV (.bool .false) 6] []) (.seq (.seq
  (.reg [zM 0 10, zU 10 11, zM 1 12, zU 12 13, zB .neq 11 13 14] []) (.cond (.tmp 14) (.seq
  (.reg [zV (.bool .false) 6] []) .ret) .skip)) (.seq (.seq
  (.reg [zM 0 15, zU 15 16, zV (.int .i64 0) 17] []) (.block 0 (.loop (.seq
  (.reg [zB .lss 17 16 18] []) (.seq (.cond (.tmp 18) .skip (.exit 0)) (.seq (.block 1 (.seq
  (.reg [zM 17 19, zJ 2 15 17 20, zN 2 20 21, (none, (.new [.slice none 0 0, .slice none 0 0], .some 8)), zM 19 7, zS 2 8 21] []) (.seq
  (.reg [zM 1 22, zM 7 23, zJ 2 22 23 24, zN 2 24 25, (none, (.new [.slice none 0 0, .slice none 0 0], .some 9)), zS 2 9 25] []) (.seq
  (.reg [zM 2 26, zN 2 8 27, zN 2 9 28, (none, (.call (.tmp 26) [.tmp 27, .tmp 28], .some 29)), (none, (.un .not (.tmp 29), .some 30))] []) (.cond (.tmp 30) (.seq
  (.reg [zV (.bool .false) 6] []) .ret) .skip)))))
  (.reg [zI .add 17 1 31, zM 31 17] []))))))) (.seq
  (.reg [zV (.bool .true) 6] []) .ret)))
theorem b175 : Tryz.f175.body.bind (compC Tryz.prog) = some c175 := by kernel_rfl
theorem r175 : compR Tryz.prog Tryz.f175 = .some [.tmp 6] := by kernel_rfl
theorem n175 : (Tryz.f175.name == "runtime.NumGoroutine") = false := by kernel_rfl
def c177 : C := .seq
  (.reg [zV (.slice none 0 0) 4] []) (.seq
  (.reg [zM 1 8, zU 8 9, (none, (.cvt .u64 (.tmp 9), .some 10)), zC 82 [10] 11, zM 11 5] []) (.seq
  (.reg [zM 0 12, zM 1 13, zC 191 [12, 13] 14, zM 14 6] []) (.seq (.seq
  (.reg [zV (.int .i64 0) 7] []) (.block 0 (.loop (.seq (.seq
  (.reg [zM 7 15, zM 6 16, zU 16 17, zB .lss 15 17 18] []) (.cond (.tmp 18) .skip (.exit 0))) (.seq (.block 1
  (.reg [zM 5 21, zM 6 22, zM 7 23, zJ 1 22 23 24, zL 24 25, zC 82 [25] 26, (none, (.app 1 1 (.tmp 21) (.tmp 26), .some 27)), zM 27 5] []))
  (.reg [zM 7 19, zI .add 19 1 20, zM 20 7] [])))))) (.seq
  (.reg [zM 5 28, zM 28 4] []) .ret))))
theorem b177 : Tryz.f177.body.bind (compC Tryz.prog) = some c177 := by kernel_rfl
theorem r177 : compR Tryz.prog Tryz.f177 = .some [.tmp 4] := by kernel_rfl
theorem n177 : (Tryz.f177.name == "runtime.NumGoroutine") = false := by kernel_rfl
def c179 : C := .seq
  (.reg [zV (.int .u32 0) 2] []) (.seq (.seq
  (.reg [zM 0 3, (none, (.bin .and (.tmp 3) (.const (.int .u32 1)), .some 4)), (none, (.bin .eql (.tmp 4) (.const (.int .u32 1)), .some 5))] []) (.cond (.tmp 5) (.seq
  (.reg [zM 0 6, (none, (.bin .shr (.tmp 6) (.const (.int .u64 1)), .some 7)), (none, (.bin .xor (.tmp 7) (.const (.int .u32 2197175160)), .some 8)), zM 8 2] []) .ret) .skip)) (.seq
  (.reg [zM 0 9, (none, (.bin .shr (.tmp 9) (.const (.int .u64 1)), .some 10)), zM 10 2] []) .ret))
theorem b179 : Tryz.f179.body.bind (compC Tryz.prog) = some c179 := by kernel_rfl
theorem r179 : compR Tryz.prog Tryz.f179 = .some [.tmp 2] := by kernel_rfl
theorem n179 : (Tryz.f179.name == "runtime.NumGoroutine") = false := by kernel_rfl
def c181 : C := .seq
  (.reg [zV (.int .i64 0) 4] []) (.seq
  (.reg [zM 0 11, zM 1 12, zC 187 [11, 12] 13, zM 13 10, zE 10 0 14, zE 10 1 15, zM 14 5, zM 15 6] []) (.seq (.seq
  (.reg [zM 6 16, (none, (.un .not (.tmp 16), .some 17))] []) (.cond (.tmp 17) (.seq
  (.reg [zV (.int .i64 0) 4] []) .ret) .skip)) (.seq
  (.reg [zM 1 18, zU 18 19, (none, (.cvt .u64 (.tmp 19), .some 20)), zC 150 [20] 21, zM 21 7] []) (.seq (.seq
  (.reg [zM 5 22, zU 22 23, zV (.int .i64 0) 24] []) (.block 0 (.loop (.seq
  (.reg [zB .lss 24 23 25] []) (.seq (.cond (.tmp 25) .skip (.exit 0)) (.seq (.block 1 (.seq
  (.reg [zJ 1 22 24 26, zL 26 27, zM 27 9] [])
  (.reg [zM 7 28, zM 9 29, zC 150 [29] 30, zB .add 28 30 31, zM 31 7] [])))
  (.reg [zI .add 24 1 32, zM 32 24] []))))))) (.seq
  (.reg [zM 7 33, zM 33 4] []) .ret)))))
theorem b181 : Tryz.f181.body.bind (compC Tryz.prog) = some c181 := by kernel_rfl
theorem r181 : compR Tryz.prog Tryz.f181 = .some [.tmp 4] := by kernel_rfl
theorem n181 : (Tryz.f181.name == "runtime.NumGoroutine") = false := by kernel_rfl
def c182 : C := .seq
  (.reg [zV (.bool .false) 4] []) (.seq (.seq
  (.reg [zM 0 6, zU 6 7, zV (.int .i64 0) 8] []) (.block 0 (.loop (.seq
  (.reg [zB .lss 8 7 9] []) (.seq (.cond (.tmp 9) .skip (.exit 0)) (.seq (.block 1 (.seq
  (.reg [zM 8 10, zM 10 5] []) (.seq
  (.reg [zM 5 11, zI .gtr 11 0 12, zM 12 13, zG 13 true (zM 1 14), zG 13 true (zM 0 15), zG 13 true (zM 5 16), zG 13 true (zJ 2 15 16 17), zG 13 true (zN 2 17 18), (.some (13, .true), (.call (.tmp 14) [.tmp 18], .some 19)), zG 13 true (zM 1 20), zG 13 true (zM 0 21), zG 13 true (zM 5 22), zG 13 true (zI .sub 22 1 23), zG 13 true (zJ 2 21 23 24), zG 13 true (zN 2 24 25), (.some (13, .true), (.call (.tmp 20) [.tmp 25], .some 26)), zG 13 true (zB .leq 19 26 27), (none, (.pick (.tmp 13) (.tmp 27) (.const (.bool .false)), .some 28))] [(7, 14), (8, 14)]) (.cond (.tmp 28) (.seq
  (.reg [zV (.bool .false) 4] []) .ret) .skip))))
  (.reg [zI .add 8 1 29, zM 29 8] []))))))) (.seq
  (.reg [zV (.bool .true) 4] []) .ret))
theorem b182 : Tryz.f182.body.bind (compC Tryz.prog) = some c182 := by kernel_rfl
theorem r182 : compR Tryz.prog Tryz.f182 = .some [.tmp 4] := by kernel_rfl
theorem n182 : (Tryz.f182.name == "runtime.NumGoroutine") = false := by kernel_rfl
def c186 : C := .seq
  (.reg [zV (.int .i64 0) 4] []) (.seq (.seq
  (.reg [zM 0 7, zU 7 8, zV (.int .i64 0) 9] []) (.block 0 (.loop (.seq
  (.reg [zB .lss 9 8 10] []) (.seq (.cond (.tmp 10) .skip (.exit 0)) (.seq (.block 1 (.seq
  (.reg [zM 9 11, zJ 2 7 9 12, zN 2 12 13, (none, (.new [.int .u64 0, .slice none 0 0], .some 6)), zM 11 5, zS 2 6 13] []) (.seq
  (.reg [zM 1 14, zN 2 6 15, (none, (.call (.tmp 14) [.tmp 15], .some 16))] []) (.cond (.tmp 16) (.seq
  (.reg [zM 5 17, zM 17 4] []) .ret) .skip))))
  (.reg [zI .add 9 1 18, zM 18 9] []))))))) (.seq
  (.reg [zM 0 19, zU 19 20, zM 20 4] []) .ret))
theorem b186 : Tryz.f186.body.bind (compC Tryz.prog) = some c186 := by kernel_rfl
theorem r186 : compR Tryz.prog Tryz.f186 = .some [.tmp 4] := by kernel_rfl
theorem n186 : (Tryz.f186.name == "runtime.NumGoroutine") = false := by kernel_rfl
def c190 : C := .seq
  (.reg [zV (.bool .false) 4] []) (.seq
  (.reg [zM 0 5, zM 1 6, (none, (.call (.func 194) [.tmp 5, .tmp 6, .func 195], .some 7)), zM 7 4] []) .ret)
theorem b190 : Tryz.f190.body.bind (compC Tryz.prog) = some c190 := by kernel_rfl
theorem r190 : compR Tryz.prog Tryz.f190 = .some [.tmp 4] := by kernel_rfl
theorem n190 : (Tryz.f190.name == "runtime.NumGoroutine") = false := by kernel_rfl
end Go.Proofs.YtnfagphepkeedaaGreat
end
section
namespace Go.Proofs.YtnfagphepkeedaaGreat
def c10 : C := .seq
  (.reg [(none, (.new [.int .u64 0, .slice none 0 0], .some 2)), (none, (.new [.int .i64 0, .int .i64 0], .some 3))] []) (.seq
  (.reg [zM 0 8, zC 28 [8] 9, (none, (.new [.pointer none], .some 4)), zS 1 4 9] []) (.seq
  (.reg [zL 4 10, (none, (.call (.func 29) [.tmp 10, .const (.int .i64 2)], .some 11)), (none, (.new [.int .i64 0, .int .u64 0, .int .u64 0], .some 5)), zS 3 5 11] []) (.seq
  (.reg [zL 4 12, (none, (.call (.func 49) [.tmp 12, .const (.int .i64 32)], .some 13)), zM 13 6] []) (.seq
  (.reg [zF 1 5 14, zL 14 15, (none, (.build [.int .u64 0, .slice none 0 0] [(0, (1, .tmp 15))], .some 16)), (none, (.new [.int .u64 0, .slice none 0 0], .some 7)), zS 2 7 16] []) (.seq
  (.reg [zL 4 17, zM 6 18, (none, (.mkf 51 [] [.tmp 4, .tmp 7], .some 19)), zC 50 [17, 18, 19] 20] []) (.seq
  (.reg [zL 4 21, zC 39 [21] 22] []) (.seq
  (.reg [zL 4 23, zN 2 7 24, zC 59 [23, 24] 25, zE 25 0 26, zE 25 1 27, zS 2 2 26, zS 2 3 27] []) .ret)))))))
theorem b10 : Tryz.f10.body.bind (compC Tryz.prog) = some c10 := by kernel_rfl
theorem r10 : compR Tryz.prog Tryz.f10 = .some [.cell 2 (.some 2), .cell 3 (.some 2)] := by kernel_rfl
theorem n10 : (Tryz.f10.name == "runtime.NumGoroutine") = false := by kernel_rfl
def c15 : C := .seq
  (.reg [(none, (.box (.tmp 0), .some 1)), zV (.slice none 0 0) 2, zV (.int .i64 0) 3] []) (.seq (.seq
  (.reg [zN 3 1 12, zC 16 [12] 13, (none, (.un .not (.tmp 13), .some 14))] []) (.cond (.tmp 14) (.seq
  (.reg [zV (.slice none 0 0) 2, zV (.int .i64 3) 3] []) .ret) .skip)) (.seq
  (.reg [zF 0 1 16, zL 16 17, zF 1 1 18, zL 18 19, (none, (.build [.int .i64 0, .int .u64 0, .int .u64 0] [(0, (1, .const (.int .i64 1))), (1, (1, .tmp 17)), (2, (1, .tmp 19))], .some 20)), zC 27 [20] 21, zM 21 15, zE 15 0 22, zE 15 1 23, zM 22 4, zM 23 5] []) (.seq
  (.reg [zF 2 1 24, zL 24 25, zC 67 [25] 26, (none, (.bin .add (.const (.int .i64 30)) (.tmp 26), .some 27)), zF 2 1 28, zL 28 29, zU 29 30, (none, (.bin .mul (.const (.int .i64 30)) (.tmp 30), .some 31)), zB .add 27 31 32, zC 66 [32] 33, zM 33 6] [(1, 5), (2, 5)]) (.seq
  (.reg [zM 6 34, zF 2 1 35, zL 35 36, zU 36 37, (none, (.cvt .u64 (.tmp 37), .some 38)), zC 68 [34, 38] 39] []) (.seq (.seq
  (.reg [zF 2 1 40, zL 40 41, zU 41 42, zV (.int .i64 0) 43] []) (.block 0 (.loop (.seq
  (.reg [zB .lss 43 42 44] []) (.seq (.cond (.tmp 44) .skip (.exit 0)) (.seq (.block 1 (.seq
  (.reg [zM 43 45, zJ 4 41 43 46, zN 4 46 47, (none, (.new [.int .u64 0, .int .u64 0, .bool .false, .slice none 0 0], .some 8)), zM 45 7, zS 4 8 47] []) (.seq
  (.reg [zM 6 48, zF 0 8 49, zL 49 50, zC 68 [48, 50] 51] []) (.seq
  (.reg [zV (.int .u64 0) 9] []) (.seq (.seq
  (.reg [zF 2 8 52, zL 52 53] []) (.cond (.tmp 53)
  (.reg [zF 1 1 54, zL 54 55, zM 7 56, (none, (.cvt .u64 (.tmp 56), .some 57)), zB .add 55 57 58, zF 1 8 59, zL 59 60, zB .sub 58 60 61, zM 61 9] []) .skip)) (.seq
  (.reg [zM 6 62, zM 9 63, zC 68 [62, 63] 64] [])
  (.reg [zM 6 65, zF 3 8 66, zL 66 67, zC 69 [65, 67] 68] [])))))))
  (.reg [zI .add 43 1 69, zM 69 43] []))))))) (.seq
  (.reg [zM 6 71, zC 70 [71] 72, zM 72 70, zE 70 0 73, zE 70 1 74, zM 73 10, zM 74 11] []) (.seq
  (.reg [zM 4 75, zM 10 76, (none, (.app 1 1 (.tmp 75) (.tmp 76), .some 77)), zM 10 78, zC 37 [78] 79, (none, (.cvt .u64 (.tmp 79), .some 80)), (none, (.call (.func 71) [.tmp 80, .const (.int .i64 4)], .some 81)), (none, (.app 1 1 (.tmp 77) (.tmp 81), .some 82)), zM 11 83, zM 82 2, zM 83 3] []) .ret)))))))
theorem b15 : Tryz.f15.body.bind (compC Tryz.prog) = some c15 := by kernel_rfl
theorem r15 : compR Tryz.prog Tryz.f15 = .some [.tmp 2, .tmp 3] := by kernel_rfl
theorem n15 : (Tryz.f15.name == "runtime.NumGoroutine") = false := by kernel_rfl
def c16 : C := .seq
  (.reg [(none, (.box (.tmp 0), .some 1)), zV (.bool .false) 2] []) (.seq (.seq
  (.reg [zF 0 1 3, zL 3 4, zC 72 [4] 5, (none, (.un .not (.tmp 5), .some 6)), zM 6 7, zG 7 false (zF 2 1 8), zG 7 false (zL 8 9), zG 7 false (zU 9 10), zG 7 false (zI .gtr 10 400 11), (none, (.pick (.tmp 7) (.const (.bool .true)) (.tmp 11), .some 12)), zM 12 13, zG 13 false (zF 1 1 14), zG 13 false (zL 14 15), zG 13 false (zF 2 1 16), zG 13 false (zL 16 17), zG 13 false (zU 17 18), zG 13 false (zC 73 [15, 18] 19), (.some (13, .false), (.un .not (.tmp 19), .some 20)), (none, (.pick (.tmp 13) (.const (.bool .true)) (.tmp 20), .some 21)), zM 21 22, zG 22 false (zF 2 1 23), zG 22 false (zL 23 24), zG 22 false (zC 67 [24] 25), zG 22 false (zI .gtr 25 1048576 26), (none, (.pick (.tmp 22) (.const (.bool .true)) (.tmp 26), .some 27))] []) (.cond (.tmp 27) (.seq
  (.reg [zV (.bool .false) 2] []) .ret) .skip)) (.seq
  (.reg [zF 2 1 28, zL 28 29, (none, (.mkf 75 [] [.tmp 1], .some 30)), zC 74 [29, 30] 31, zM 31 2] []) .ret))
theorem b16 : Tryz.f16.body.bind (compC Tryz.prog) = some c16 := by kernel_rfl
theorem r16 : compR Tryz.prog Tryz.f16 = .some [.tmp 2] := by kernel_rfl
theorem n16 : (Tryz.f16.name == "runtime.NumGoroutine") = false := by kernel_rfl
def c26 : C := .seq
  (.reg [(none, (.box (.tmp 0), .some 1)), zV (.slice none 0 0) 2] []) (.seq
  (.reg [zF 0 1 5, zL 5 6, (none, (.build [.int .i64 0, .int .u64 0, .int .u64 0] [(0, (1, .const (.int .i64 2))), (1, (1, .tmp 6))], .some 7)), zC 81 [7] 8, zM 8 3] []) (.seq
  (.reg [zM 3 9, zF 1 1 10, zL 10 11, zU 11 12, (none, (.cvt .u8 (.tmp 12), .some 13)), (none, (.bsl 1 [.tmp 13], .some 14)), (none, (.app 1 1 (.tmp 9) (.tmp 14), .some 15)), zM 15 3] []) (.seq (.seq
  (.reg [zV (.int .i64 0) 4] []) (.block 0 (.loop (.seq (.seq
  (.reg [zM 4 16, zF 1 1 17, zL 17 18, zU 18 19, zB .lss 16 19 20] []) (.cond (.tmp 20) .skip (.exit 0))) (.seq (.block 1
  (.reg [zM 3 23, zF 1 1 24, zL 24 25, zM 4 26, zJ 3 25 26 27, zN 3 27 28, zC 100 [28] 29, zC 99 [29] 30, (none, (.app 1 1 (.tmp 23) (.tmp 30), .some 31)), zM 31 3] []))
  (.reg [zM 4 21, zI .add 21 1 22, zM 22 4] [])))))) (.seq
  (.reg [zM 3 32, zM 32 2] []) .ret))))
theorem b26 : Tryz.f26.body.bind (compC Tryz.prog) = some c26 := by kernel_rfl
theorem r26 : compR Tryz.prog Tryz.f26 = .some [.tmp 2] := by kernel_rfl
theorem n26 : (Tryz.f26.name == "runtime.NumGoroutine") = false := by kernel_rfl
def c30 : C := .seq
  (.reg [zV (.int .i64 0) 2] []) (.seq (.seq
  (.reg [zM 0 3, (none, (.eqp .false (.tmp 3) (.const (.pointer none)), .some 4))] []) (.cond (.tmp 4) (.seq
  (.reg [zV (.int .i64 0) 2] []) .ret) .skip)) (.seq
  (.reg [zM 0 5, (none, (.nilc (.tmp 5), .some 6)), zF 1 6 7, zL 7 8, zM 8 2] []) .ret))
theorem b30 : Tryz.f30.body.bind (compC Tryz.prog) = some c30 := by kernel_rfl
theorem r30 : compR Tryz.prog Tryz.f30 = .some [.tmp 2] := by kernel_rfl
theorem n30 : (Tryz.f30.name == "runtime.NumGoroutine") = false := by kernel_rfl
def c34 : C := .seq
  (.reg [(none, (.new [.int .u64 0, .int .u64 0, .bool .false, .slice none 0 0], .some 6))] []) (.seq
  (.reg [zM 0 10, zC 104 [10] 11, (none, (.build [.int .u64 0, .int .u64 0, .bool .false, .slice none 0 0] [(0, (1, .tmp 11))], .some 12)), (none, (.new [.int .u64 0, .int .u64 0, .bool .false, .slice none 0 0], .some 7)), zS 4 7 12] []) (.seq
  (.reg [zM 0 13, zC 30 [13] 14, zM 14 8] []) (.seq
  (.reg [zM 0 15, zC 104 [15] 16, zM 16 9] []) (.seq (.seq
  (.reg [zM 9 17, zM 1 18, zB .gtr 17 18 19] []) (.cond (.tmp 19)
  (.reg [zM 0 20, zM 8 21, (none, (.call (.func 38) [.tmp 20, .const (.int .i64 3), .tmp 21], .some 22))] []) .skip)) (.seq (.seq
  (.reg [zM 9 23, (none, (.bin .gtr (.tmp 23) (.const (.int .u64 0)), .some 24)), zM 24 25, zG 25 true (zM 0 26), zG 25 true (zC 53 [26] 27), (none, (.pick (.tmp 25) (.tmp 27) (.const (.bool .false)), .some 28))] []) (.cond (.tmp 28)
  (.reg [zM 1 29, zM 9 30, zB .sub 29 30 31, zF 2 7 32, (none, (.store 1 (.tmp 32) (.const (.bool .true)), none)), zF 1 7 33, zS 1 33 31] []) .skip)) (.seq
  (.reg [zM 0 34, zM 2 35, zC 105 [34, 35] 36, zF 3 7 37, zS 1 37 36] []) (.seq
  (.reg [zN 4 7 38, zS 4 6 38] []) .ret)))))))
theorem b34 : Tryz.f34.body.bind (compC Tryz.prog) = some c34 := by kernel_rfl
theorem r34 : compR Tryz.prog Tryz.f34 = .some [.cell 6 (.some 4)] := by kernel_rfl
theorem n34 : (Tryz.f34.name == "runtime.NumGoroutine") = false := by kernel_rfl
def c36 : C := .seq
  (.reg [zV (.int .u64 0) 4] []) (.seq
  (.reg [zV (.int .u64 0) 5] []) (.seq (.seq
  (.reg [zM 0 8, zM 1 9, (none, (.mx .true (.tmp 9) (.const (.int .i64 0)), .some 10)), (none, (.mx .false (.tmp 10) (.const (.int .i64 8)), .some 11)), zC 106 [8, 11] 12, zU 12 13, zV (.int .i64 0) 14] []) (.block 0 (.loop (.seq
  (.reg [zB .lss 14 13 15] []) (.seq (.cond (.tmp 15) .skip (.exit 0)) (.seq (.block 1 (.seq
  (.reg [zM 14 16, zJ 1 12 14 17, zL 17 18, zM 16 6, zM 18 7] [])
  (.reg [zM 5 19, zM 7 20, (none, (.cvt .u64 (.tmp 20), .some 21)), zM 6 22, (none, (.bin .mul (.const (.int .i64 8)) (.tmp 22), .some 23)), zB .shl 21 23 24, zB .or 19 24 25, zM 25 5] [])))
  (.reg [zI .add 14 1 26, zM 26 14] []))))))) (.seq
  (.reg [zM 5 27, zM 27 4] []) .ret)))
theorem b36 : Tryz.f36.body.bind (compC Tryz.prog) = some c36 := by kernel_rfl
theorem r36 : compR Tryz.prog Tryz.f36 = .some [.tmp 4] := by kernel_rfl
theorem n36 : (Tryz.f36.name == "runtime.NumGoroutine") = false := by kernel_rfl
def c38 : C := .seq
  (.reg [zM 0 6, zC 53 [6] 7] []) (.cond (.tmp 7)
  (.reg [zM 0 8, zM 1 9, zM 2 10, zC 110 [9, 10] 11, (none, (.nilc (.tmp 8), .some 12)), zF 2 12 13, zS 2 13 11] []) .skip)
theorem b38 : Tryz.f38.body.bind (compC Tryz.prog) = some c38 := by kernel_rfl
theorem r38 : compR Tryz.prog Tryz.f38 = .some [] := by kernel_rfl
theorem n38 : (Tryz.f38.name == "runtime.NumGoroutine") = false := by kernel_rfl
def c54 : C := .seq
  (.reg [(none, (.box (.tmp 0), .some 1)), (none, (.new [.int .u64 0, .int .u64 0, .slice none 0 0], .some 2))] []) (.seq
  (.reg [zL 1 6, zC 119 [6] 7, zL 1 8, zC 120 [8] 9, (none, (.build [.int .u64 0, .int .u64 0, .slice none 0 0] [(0, (1, .tmp 7)), (1, (1, .tmp 9))], .some 10)), (none, (.new [.int .u64 0, .int .u64 0, .slice none 0 0], .some 3)), zS 3 3 10] [(0, 2), (1, 2), (0, 5), (1, 5), (2, 5), (3, 5)]) (.seq
  (.reg [(none, (.new [.int .i64 0], .some 4)), (none, (.store 1 (.tmp 4) (.const (.int .i64 1048576)), none))] []) (.seq
  (.reg [zL 1 11, zF 1 3 12, zL 12 13, (none, (.call (.func 31) [.tmp 11, .tmp 13, .const (.int .i64 1), .const (.int .i64 16)], .some 14)), zM 14 5] []) (.seq
  (.reg [zL 1 15, zM 5 16, (none, (.mkf 122 [] [.tmp 1, .tmp 3, .tmp 4], .some 17)), zC 121 [15, 16, 17] 18, zF 2 3 19, zS 1 19 18] []) (.seq
  (.reg [zL 1 20, zC 39 [20] 21] []) (.seq
  (.reg [zN 3 3 22, zS 3 2 22] []) .ret))))))
theorem b54 : Tryz.f54.body.bind (compC Tryz.prog) = some c54 := by kernel_rfl
theorem r54 : compR Tryz.prog Tryz.f54 = .some [.cell 2 (.some 3)] := by kernel_rfl
theorem n54 : (Tryz.f54.name == "runtime.NumGoroutine") = false := by kernel_rfl
def c56 : C := .seq
  (.reg [(none, (.new [.int .i64 0, .int .i64 0], .some 2))] []) (.seq (.seq
  (.reg [zM 0 3, (none, (.eqp .false (.tmp 3) (.const (.pointer none)), .some 4))] []) (.cond (.tmp 4) (.seq
  (.reg [(none, (.call (.func 110) [.const (.int .i64 19), .const (.int .i64 0)], .some 5)), zS 2 2 5] []) .ret) .skip)) (.seq
  (.reg [zM 0 6, (none, (.nilc (.tmp 6), .some 7)), zF 2 7 8, zN 2 8 9, zS 2 2 9] []) .ret))
theorem b56 : Tryz.f56.body.bind (compC Tryz.prog) = some c56 := by kernel_rfl
theorem r56 : compR Tryz.prog Tryz.f56 = .some [.cell 2 (.some 2)] := by kernel_rfl
theorem n56 : (Tryz.f56.name == "runtime.NumGoroutine") = false := by kernel_rfl
def c66 : C := .seq
  (.reg [zV (.pointer none) 2] []) (.seq
  (.reg [zM 0 3, (none, (.mx .true (.tmp 3) (.const (.int .i64 0)), .some 4)), (none, (.build [.int .i64 0, .slice none 0 0, .int .i64 0] [(0, (1, .tmp 4))], .some 5)), (none, (.box (.tmp 5), .some 6)), zM 6 2] []) .ret)
theorem b66 : Tryz.f66.body.bind (compC Tryz.prog) = some c66 := by kernel_rfl
theorem r66 : compR Tryz.prog Tryz.f66 = .some [.tmp 2] := by kernel_rfl
theorem n66 : (Tryz.f66.name == "runtime.NumGoroutine") = false := by kernel_rfl
def c68 : C := .reg [zM 0 4, zM 1 5, zC 85 [5] 6, zC 129 [4, 6] 7] []
theorem b68 : Tryz.f68.body.bind (compC Tryz.prog) = some c68 := by kernel_rfl
theorem r68 : compR Tryz.prog Tryz.f68 = .some [] := by kernel_rfl
theorem n68 : (Tryz.f68.name == "runtime.NumGoroutine") = false := by kernel_rfl
def c71 : C := .seq
  (.reg [zV (.slice none 0 0) 4] []) (.seq
  (.reg [zV (.slice none 0 0) 5] []) (.seq (.seq
  (.reg [zM 1 6, (none, (.mx .true (.tmp 6) (.const (.int .i64 0)), .some 7)), (none, (.mx .false (.tmp 7) (.const (.int .i64 8)), .some 8)), zV (.int .i64 0) 9] []) (.block 0 (.loop (.seq
  (.reg [zB .lss 9 8 10] []) (.seq (.cond (.tmp 10) .skip (.exit 0)) (.seq (.block 1 (.seq
  (.reg [zM 5 11, zM 0 12, (none, (.bin .rem (.tmp 12) (.const (.int .u64 256)), .some 13)), (none, (.cvt .u8 (.tmp 13), .some 14)), (none, (.bsl 1 [.tmp 14], .some 15)), (none, (.app 1 1 (.tmp 11) (.tmp 15), .some 16)), zM 16 5] [])
  (.reg [zM 0 17, (none, (.bin .quo (.tmp 17) (.const (.int .u64 256)), .some 18)), zM 18 0] [])))
  (.reg [zI .add 9 1 19, zM 19 9] []))))))) (.seq
  (.reg [zM 5 20, zM 20 4] []) .ret)))
theorem b71 : Tryz.f71.body.bind (compC Tryz.prog) = some c71 := by kernel_rfl
theorem r71 : compR Tryz.prog Tryz.f71 = .some [.tmp 4] := by kernel_rfl
theorem n71 : (Tryz.f71.name == "runtime.NumGoroutine") = false := by kernel_rfl
def c73 : C := .seq
  (.reg [zV (.bool .false) 4] []) (.seq
  (.reg [zM 0 5, zC 131 [5] 6, zM 6 7, zG 7 true (zM 0 8), zG 7 true (zM 1 9), (.some (7, .true), (.cvt .u64 (.tmp 9), .some 10)), zG 7 true (zB .add 8 10 11), (.some (7, .true), (.bin .leq (.tmp 11) (.const (.int .u64 4611686018427387904)), .some 12)), (none, (.pick (.tmp 7) (.tmp 12) (.const (.bool .false)), .some 13)), zM 13 4] []) .ret)
theorem b73 : Tryz.f73.body.bind (compC Tryz.prog) = some c73 := by kernel_rfl
theorem r73 : compR Tryz.prog Tryz.f73 = .some [.tmp 4] := by kernel_rfl
theorem n73 : (Tryz.f73.name == "runtime.NumGoroutine") = false := by kernel_rfl
def c76 : C := .seq
  (.reg [zV (.bool .false) 2] []) (.seq
  (.reg [zM 0 3, (none, (.bin .gtr (.tmp 3) (.const (.int .u64 0)), .some 4)), zM 4 5, zG 5 true (zM 0 6), (.some (5, .true), (.bin .leq (.tmp 6) (.const (.int .u64 4611686018427387903)), .some 7)), (none, (.pick (.tmp 5) (.tmp 7) (.const (.bool .false)), .some 8)), zM 8 2] []) .ret)
theorem b76 : Tryz.f76.body.bind (compC Tryz.prog) = some c76 := by kernel_rfl
theorem r76 : compR Tryz.prog Tryz.f76 = .some [.tmp 2] := by kernel_rfl
theorem n76 : (Tryz.f76.name == "runtime.NumGoroutine") = false := by kernel_rfl
def c80 : C := .seq
  (.reg [zV (.bool .false) 4] []) (.seq
  (.reg [zM 0 5, (none, (.b2s (.tmp 5), .some 6)), zM 1 7, (none, (.b2s (.tmp 7), .some 8)), zB .eql 6 8 9, zM 9 4] []) .ret)
theorem b80 : Tryz.f80.body.bind (compC Tryz.prog) = some c80 := by kernel_rfl
theorem r80 : compR Tryz.prog Tryz.f80 = .some [.tmp 4] := by kernel_rfl
theorem n80 : (Tryz.f80.name == "runtime.NumGoroutine") = false := by kernel_rfl
def c82 : C := .seq
  (.reg [zV (.slice none 0 0) 2] []) (.seq (.seq
  (.reg [zM 0 3, (none, (.bin .lss (.tmp 3) (.const (.int .u64 128)), .some 4))] []) (.cond (.tmp 4) (.seq
  (.reg [zM 0 5, (none, (.cvt .u8 (.tmp 5), .some 6)), (none, (.bsl 1 [.tmp 6], .some 7)), zM 7 2] []) .ret) .skip)) (.seq
  (.reg [zM 0 8, (none, (.bin .rem (.tmp 8) (.const (.int .u64 128)), .some 9)), (none, (.bin .add (.const (.int .u64 128)) (.tmp 9), .some 10)), (none, (.cvt .u8 (.tmp 10), .some 11)), (none, (.bsl 1 [.tmp 11], .some 12)), zM 0 13, (none, (.bin .quo (.tmp 13) (.const (.int .u64 128)), .some 14)), zC 82 [14] 15, (none, (.app 1 1 (.tmp 12) (.tmp 15), .some 16)), zM 16 2] []) .ret))
theorem b82 : Tryz.f82.body.bind (compC Tryz.prog) = some c82 := by kernel_rfl
theorem r82 : compR Tryz.prog Tryz.f82 = .some [.tmp 2] := by kernel_rfl
theorem n82 : (Tryz.f82.name == "runtime.NumGoroutine") = false := by kernel_rfl
def c84 : C := .seq
  (.reg [zV (.slice none 0 0) 4] []) (.seq
  (.reg [zV (.slice none 0 0) 5] []) (.seq (.seq
  (.reg [zV (.int .i64 0) 6] []) (.block 0 (.loop (.seq (.seq
  (.reg [zM 6 7, zM 1 8, zB .lss 7 8 9, zM 9 10, zG 10 true (zM 6 11), zG 10 true (zI .lss 11 8 12), (none, (.pick (.tmp 10) (.tmp 12) (.const (.bool .false)), .some 13))] []) (.cond (.tmp 13) .skip (.exit 0))) (.seq (.block 1
  (.reg [zM 5 16, zM 0 17, zM 6 18, (none, (.bin .mul (.const (.int .i64 8)) (.tmp 18), .some 19)), (none, (.cvt .u64 (.tmp 19), .some 20)), zB .shr 17 20 21, (none, (.cvt .u8 (.tmp 21), .some 22)), (none, (.bsl 1 [.tmp 22], .some 23)), (none, (.app 1 1 (.tmp 16) (.tmp 23), .some 24)), zM 24 5] []))
  (.reg [zM 6 14, zI .add 14 1 15, zM 15 6] [])))))) (.seq
  (.reg [zM 5 25, zM 25 4] []) .ret)))
theorem b84 : Tryz.f84.body.bind (compC Tryz.prog) = some c84 := by kernel_rfl
theorem r84 : compR Tryz.prog Tryz.f84 = .some [.tmp 4] := by kernel_rfl
theorem n84 : (Tryz.f84.name == "runtime.NumGoroutine") = false := by kernel_rfl
def c85 : C := .seq
  (.reg [zV (.slice none 0 0) 2] []) (.seq
  (.reg [zV (.slice none 0 0) 3] []) (.seq (.block 0 (.loop (.seq (.seq
  (.reg [zM 0 4, (none, (.bin .geq (.tmp 4) (.const (.int .u64 128)), .some 5))] []) (.cond (.tmp 5) .skip (.exit 0))) (.block 1 (.seq
  (.reg [zM 3 6, zM 0 7, (none, (.cvt .u8 (.tmp 7), .some 8)), (none, (.bin .or (.tmp 8) (.const (.int .u8 128)), .some 9)), (none, (.bsl 1 [.tmp 9], .some 10)), (none, (.app 1 1 (.tmp 6) (.tmp 10), .some 11)), zM 11 3] [])
  (.reg [zM 0 12, (none, (.bin .shr (.tmp 12) (.const (.int .u64 7)), .some 13)), zM 13 0] [])))))) (.seq
  (.reg [zM 3 14, zM 0 15, (none, (.cvt .u8 (.tmp 15), .some 16)), (none, (.bsl 1 [.tmp 16], .some 17)), (none, (.app 1 1 (.tmp 14) (.tmp 17), .some 18)), zM 18 2] []) .ret)))
theorem b85 : Tryz.f85.body.bind (compC Tryz.prog) = some c85 := by kernel_rfl
theorem r85 : compR Tryz.prog Tryz.f85 = .some [.tmp 2] := by kernel_rfl
theorem n85 : (Tryz.f85.name == "runtime.NumGoroutine") = false := by kernel_rfl
def c88 : C := .seq
  (.reg [(none, (.box (.tmp 0), .some 1)), zV (.bool .false) 2] []) (.seq (.seq
  (.reg [zF 0 1 4, zL 4 5, zC 76 [5] 6, (none, (.un .not (.tmp 6), .some 7)), zM 7 8, zG 8 false (zF 1 1 9), zG 8 false (zL 9 10), zG 8 false (zF 2 1 11), zG 8 false (zL 11 12), zG 8 false (zU 12 13), zG 8 false (zC 139 [10, 13] 14), (.some (8, .false), (.un .not (.tmp 14), .some 15)), (none, (.pick (.tmp 8) (.const (.bool .true)) (.tmp 15), .some 16)), zM 16 17, zG 17 false (zF 2 1 18), zG 17 false (zL 18 19), zG 17 false (zC 140 [19] 20), zG 17 false (zU 20 21), zG 17 false (zI .gtr 21 1048576 22), (none, (.pick (.tmp 17) (.const (.bool .true)) (.tmp 22), .some 23))] []) (.cond (.tmp 23) (.seq
  (.reg [zV (.bool .false) 2] []) .ret) .skip)) (.seq (.seq
  (.reg [zV (.int .i64 0) 3] []) (.block 0 (.loop (.seq (.seq
  (.reg [zM 3 24, zF 2 1 25, zL 25 26, zU 26 27, zB .lss 24 27 28] []) (.cond (.tmp 28) .skip (.exit 0))) (.seq (.block 1 (.seq
  (.reg [zF 1 1 31, zL 31 32, zM 3 33, (none, (.cvt .u64 (.tmp 33), .some 34)), zB .add 32 34 35, zF 2 1 36, zL 36 37, zM 3 38, zJ 2 37 38 39, zN 2 39 40, zC 141 [35, 40] 41, (none, (.un .not (.tmp 41), .some 42))] [(1, 6), (1, 9)]) (.cond (.tmp 42) (.seq
  (.reg [zV (.bool .false) 2] []) .ret) .skip)))
  (.reg [zM 3 29, zI .add 29 1 30, zM 30 3] [])))))) (.seq
  (.reg [zV (.bool .true) 2] []) .ret)))
theorem b88 : Tryz.f88.body.bind (compC Tryz.prog) = some c88 := by kernel_rfl
theorem r88 : compR Tryz.prog Tryz.f88 = .some [.tmp 2] := by kernel_rfl
theorem n88 : (Tryz.f88.name == "runtime.NumGoroutine") = false := by kernel_rfl
def c89 : C := .seq
  (.reg [zV (.bool .false) 2] []) (.seq (.seq
  (.reg [zV (.int .i64 0) 3] []) (.block 0 (.loop (.seq (.seq
  (.reg [zM 3 4, zM 0 5, zU 5 6, zB .lss 4 6 7] []) (.cond (.tmp 7) .skip (.exit 0))) (.seq (.block 1 (.seq
  (.reg [zM 0 10, zM 3 11, zJ 2 10 11 12, zF 1 12 13, zL 13 14, zU 14 15, zI .gtr 15 1 16] []) (.cond (.tmp 16) (.seq
  (.reg [zV (.bool .false) 2] []) .ret) .skip)))
  (.reg [zM 3 8, zI .add 8 1 9, zM 9 3] [])))))) (.seq
  (.reg [zV (.bool .true) 2] []) .ret))
theorem b89 : Tryz.f89.body.bind (compC Tryz.prog) = some c89 := by kernel_rfl
theorem r89 : compR Tryz.prog Tryz.f89 = .some [.tmp 2] := by kernel_rfl
theorem n89 : (Tryz.f89.name == "runtime.NumGoroutine") = false := by kernel_rfl
def c90 : C := .seq
  (.reg [(none, (.box (.tmp 0), .some 1)), zV (.bool .false) 2] []) (.seq (.seq
  (.reg [zV (.int .i64 0) 3] []) (.block 0 (.loop (.seq (.seq
  (.reg [zM 3 4, zF 1 1 5, zL 5 6, zU 6 7, zB .lss 4 7 8, zM 8 9, zG 9 true (zM 3 10), zG 9 true (zI .lss 10 20 11), (none, (.pick (.tmp 9) (.tmp 11) (.const (.bool .false)), .some 12))] []) (.cond (.tmp 12) .skip (.exit 0))) (.seq (.block 1 (.seq
  (.reg [zF 1 1 15, zL 15 16, zM 3 17, zJ 3 16 17 18, zN 3 18 19, zC 142 [19] 20] []) (.cond (.tmp 20) (.seq
  (.reg [zV (.bool .true) 2] []) .ret) .skip)))
  (.reg [zM 3 13, zI .add 13 1 14, zM 14 3] [])))))) (.seq
  (.reg [zF 1 1 21, zL 21 22, zU 22 23, zI .gtr 23 20 24, zM 24 2] []) .ret))
theorem b90 : Tryz.f90.body.bind (compC Tryz.prog) = some c90 := by kernel_rfl
theorem r90 : compR Tryz.prog Tryz.f90 = .some [.tmp 2] := by kernel_rfl
theorem n90 : (Tryz.f90.name == "runtime.NumGoroutine") = false := by kernel_rfl
def c91 : C := .seq
  (.reg [zV (.bool .false) 4] []) (.seq (.seq
  (.reg [zM 0 7, zU 7 8, zV (.int .i64 0) 9] []) (.block 0 (.loop (.seq
  (.reg [zB .lss 9 8 10] []) (.seq (.cond (.tmp 10) .skip (.exit 0)) (.seq (.block 1 (.seq
  (.reg [zM 9 11, zJ 3 7 9 12, zN 3 12 13, (none, (.new [.int .u64 0, .int .u64 0, .slice none 0 0], .some 6)), zM 11 5, zS 3 6 13] []) (.seq
  (.reg [zM 1 14, zM 5 15, zN 3 6 16, (none, (.call (.tmp 14) [.tmp 15, .tmp 16], .some 17)), (none, (.un .not (.tmp 17), .some 18))] []) (.cond (.tmp 18) (.seq
  (.reg [zV (.bool .false) 4] []) .ret) .skip))))
  (.reg [zI .add 9 1 19, zM 19 9] []))))))) (.seq
  (.reg [zV (.bool .true) 4] []) .ret))
theorem b91 : Tryz.f91.body.bind (compC Tryz.prog) = some c91 := by kernel_rfl
theorem r91 : compR Tryz.prog Tryz.f91 = .some [.tmp 4] := by kernel_rfl
theorem n91 : (Tryz.f91.name == "runtime.NumGoroutine") = false := by kernel_rfl
def c94 : C := .seq
  (.reg [(none, (.box (.tmp 1), .some 3)), zV (.bool .false) 4] []) (.seq
  (.reg [zF 0 3 5, zL 5 6, zC 95 [6] 7, zM 7 4] []) .ret)
theorem b94 : Tryz.f94.body.bind (compC Tryz.prog) = some c94 := by kernel_rfl
theorem r94 : compR Tryz.prog Tryz.f94 = .some [.tmp 4] := by kernel_rfl
theorem n94 : (Tryz.f94.name == "runtime.NumGoroutine") = false := by kernel_rfl
def c95 : C := .seq
  (.reg [zV (.bool .false) 2] []) (.seq
  (.reg [zM 0 3, (none, (.call (.func 143) [.tmp 3, .func 144], .some 4)), zM 4 2] []) .ret)
theorem b95 : Tryz.f95.body.bind (compC Tryz.prog) = some c95 := by kernel_rfl
theorem r95 : compR Tryz.prog Tryz.f95 = .some [.tmp 2] := by kernel_rfl
theorem n95 : (Tryz.f95.name == "runtime.NumGoroutine") = false := by kernel_rfl
def c97 : C := .seq
  (.reg [zV (.bool .false) 6] []) (.seq (.seq
  (.reg [zM 0 10, zU 10 11, zM 1 12, zU 12 13, zB .neq 11 13 14] []) (.cond (.tmp 14) (.seq
  (.reg [zV (.bool .false) 6] []) .ret) .skip)) (.seq (.seq
  (.reg [zM 0 15, zU 15 16, zV (.int .i64 0) 17] []) (.block 0 (.loop (.seq
  (.reg [zB .lss 17 16 18] []) (.seq (.cond (.tmp 18) .skip (.exit 0)) (.seq (.block 1 (.seq
  (.reg [zM 17 19, zJ 3 15 17 20, zN 3 20 21, (none, (.new [.int .u64 0, .int .u64 0, .slice none 0 0], .some 8)), zM 19 7, zS 3 8 21] []) (.seq
  (.reg [zM 1 22, zM 7 23, zJ 3 22 23 24, zN 3 24 25, (none, (.new [.int .u64 0, .int .u64 0, .slice none 0 0], .some 9)), zS 3 9 25] []) (.seq
  (.reg [zM 2 26, zN 3 8 27, zN 3 9 28, (none, (.call (.tmp 26) [.tmp 27, .tmp 28], .some 29)), (none, (.un .not (.tmp 29), .some 30))] []) (.cond (.tmp 30) (.seq
  (.reg [zV (.bool .false) 6] []) .ret) .skip)))))
  (.reg [zI .add 17 1 31, zM 31 17] []))))))) (.seq
  (.reg [zV (.bool .true) 6] []) .ret)))
theorem b97 : Tryz.f97.body.bind (compC Tryz.prog) = some c97 := by kernel_rfl
theorem r97 : compR Tryz.prog Tryz.f97 = .some [.tmp 6] := by kernel_rfl
theorem n97 : (Tryz.f97.name == "runtime.NumGoroutine") = false := by kernel_rfl
def c106 : C := .seq
  (.reg [zV (.slice none 0 0) 4] []) (.seq (.seq
  (.reg [zM 0 5, zM 1 6, zC 158 [5, 6] 7, (none, (.un .not (.tmp 7), .some 8))] []) (.cond (.tmp 8) (.seq
  (.reg [zV (.slice none 0 0) 4] []) .ret) .skip)) (.seq
  (.reg [(none, (.bsl 1 [], .some 9)), zM 0 10, (none, (.nilc (.tmp 10), .some 11)), zF 0 11 12, zL 12 13, zM 0 14, (none, (.nilc (.tmp 14), .some 15)), zF 1 15 16, zL 16 17, zM 1 18, zB .sub 17 18 19, zM 0 20, (none, (.nilc (.tmp 20), .some 21)), zF 1 21 22, zL 22 23, (none, (.slice 1 (.tmp 13) (.some (.tmp 19)) (.some (.tmp 23)) none, .some 24)), (none, (.app 1 1 (.tmp 9) (.tmp 24), .some 25)), zM 25 4] [(4, 8), (4, 14), (8, 14)]) .ret))
theorem b106 : Tryz.f106.body.bind (compC Tryz.prog) = some c106 := by kernel_rfl
theorem r106 : compR Tryz.prog Tryz.f106 = .some [.tmp 4] := by kernel_rfl
theorem n106 : (Tryz.f106.name == "runtime.NumGoroutine") = false := by kernel_rfl
def c115 : C := .seq
  (.reg [zV (.int .u32 0) 4] []) (.seq (.seq
  (.reg [zV (.int .i64 0) 5] []) (.block 0 (.loop (.seq (.seq
  (.reg [zM 5 6, zM 1 7, zU 7 8, zB .lss 6 8 9] []) (.cond (.tmp 9) .skip (.exit 0))) (.seq (.block 1
  (.reg [zM 0 12, zM 1 13, zM 5 14, zJ 1 13 14 15, zL 15 16, zC 161 [12, 16] 17, zM 17 0] []))
  (.reg [zM 5 10, zI .add 10 1 11, zM 11 5] [])))))) (.seq
  (.reg [zM 0 18, zM 18 4] []) .ret))
theorem b115 : Tryz.f115.body.bind (compC Tryz.prog) = some c115 := by kernel_rfl
theorem r115 : compR Tryz.prog Tryz.f115 = .some [.tmp 4] := by kernel_rfl
theorem n115 : (Tryz.f115.name == "runtime.NumGoroutine") = false := by kernel_rfl
def c118 : C := .seq
  (.reg [zM 0 8, zC 37 [8] 9, (none, (.cvt .u64 (.tmp 9), .some 10)), zM 1 11, zB .neq 10 11 12] []) (.cond (.tmp 12)
  (.reg [zM 2 13, zM 3 14, (none, (.call (.tmp 13) [.const (.int .i64 6), .tmp 14], .some 15))] []) .skip)
theorem b118 : Tryz.f118.body.bind (compC Tryz.prog) = some c118 := by kernel_rfl
theorem r118 : compR Tryz.prog Tryz.f118 = .some [] := by kernel_rfl
theorem n118 : (Tryz.f118.name == "runtime.NumGoroutine") = false := by kernel_rfl
def c123 : C := .seq
  (.reg [zV (.slice none 0 0) 4] []) (.seq
  (.reg [zV (.slice none 0 0) 5] []) (.seq (.seq
  (.reg [zM 0 10, (none, (.call (.func 49) [.tmp 10, .const (.int .i64 16)], .some 11)), zV (.int .i64 0) 12] []) (.block 0 (.loop (.seq
  (.reg [zB .lss 12 11 13] []) (.seq (.cond (.tmp 13) .skip (.exit 0)) (.seq (.block 1 (.seq
  (.reg [zM 12 14, zM 14 6] []) (.seq
  (.reg [zM 0 15, zC 30 [15] 16, zM 16 7] []) (.seq
  (.reg [zM 0 17, zC 104 [17] 18, (none, (.build [.int .u64 0, .slice none 0 0] [(0, (1, .tmp 18))], .some 19)), (none, (.new [.int .u64 0, .slice none 0 0], .some 8)), zS 2 8 19] []) (.seq (.seq
  (.reg [zM 6 20, zI .gtr 20 0 21] []) (.cond (.tmp 21) (.seq
  (.reg [zM 5 22, zM 6 23, zI .sub 23 1 24, zJ 2 22 24 25, zF 0 25 26, zL 26 27, zM 27 9] []) (.seq (.seq
  (.reg [zF 0 8 28, zL 28 29, zM 9 30, (none, (.un .xor (.tmp 30), .some 31)), zB .geq 29 31 32] []) (.cond (.tmp 32)
  (.reg [zM 0 33, zM 7 34, (none, (.call (.func 38) [.tmp 33, .const (.int .i64 13), .tmp 34], .some 35))] []) .skip))
  (.reg [zF 0 8 36, zL 36 37, zM 9 38, (none, (.bin .add (.tmp 38) (.const (.int .u64 1)), .some 39)), zB .add 37 39 40, zF 0 8 41, zS 1 41 40] []))) .skip)) (.seq
  (.reg [zM 0 42, zM 1 43, (none, (.call (.func 163) [.tmp 42, .tmp 43, .const (.int .i64 4)], .some 44)), zF 1 8 45, zS 1 45 44] []) (.seq (.seq
  (.reg [zM 0 46, zC 53 [46] 47, (none, (.un .not (.tmp 47), .some 48))] []) (.cond (.tmp 48) (.seq
  (.reg [zV (.slice none 0 0) 4] []) .ret) .skip))
  (.reg [zM 5 49, zN 2 8 50, (none, (.bsl 2 [.tmp 50], .some 51)), (none, (.app 2 32 (.tmp 49) (.tmp 51), .some 52)), zM 52 5] []))))))))
  (.reg [zI .add 12 1 53, zM 53 12] []))))))) (.seq
  (.reg [zM 5 54, zM 54 4] []) .ret)))
theorem b123 : Tryz.f123.body.bind (compC Tryz.prog) = some c123 := by kernel_rfl
theorem r123 : compR Tryz.prog Tryz.f123 = .some [.tmp 4] := by kernel_rfl
theorem n123 : (Tryz.f123.name == "runtime.NumGoroutine") = false := by kernel_rfl
def c132 : C := .seq
  (.reg [zV (.bool .false) 2] []) (.seq
  (.reg [zM 0 3, (none, (.bin .leq (.tmp 3) (.const (.int .u64 4611686018427387903)), .some 4)), zM 4 2] []) .ret)
theorem b132 : Tryz.f132.body.bind (compC Tryz.prog) = some c132 := by kernel_rfl
theorem r132 : compR Tryz.prog Tryz.f132 = .some [.tmp 2] := by kernel_rfl
theorem n132 : (Tryz.f132.name == "runtime.NumGoroutine") = false := by kernel_rfl
def c134 : C := .seq (.seq
  (.reg [zM 1 4, zU 4 5, zI .gtr 5 2097152 6] []) (.cond (.tmp 6) (.seq
  (.reg [zM 0 7, (none, (.call (.func 152) [.tmp 7, .const (.int .i64 2)], .some 8))] []) .ret) .skip)) (.seq
  (.reg [zM 0 9, zM 1 10, zC 69 [9, 10] 11] [])
  (.reg [zM 0 12, zM 1 13, zC 37 [13] 14, (none, (.cvt .u64 (.tmp 14), .some 15)), (none, (.call (.func 154) [.tmp 12, .tmp 15, .const (.int .i64 4)], .some 16))] []))
theorem b134 : Tryz.f134.body.bind (compC Tryz.prog) = some c134 := by kernel_rfl
theorem r134 : compR Tryz.prog Tryz.f134 = .some [] := by kernel_rfl
theorem n134 : (Tryz.f134.name == "runtime.NumGoroutine") = false := by kernel_rfl
def c137 : C := .reg [zM 0 4, zM 1 5, zM 1 6, zC 131 [6] 7, zC 169 [4, 5, 7] 8] []
theorem b137 : Tryz.f137.body.bind (compC Tryz.prog) = some c137 := by kernel_rfl
theorem r137 : compR Tryz.prog Tryz.f137 = .some [] := by kernel_rfl
theorem n137 : (Tryz.f137.name == "runtime.NumGoroutine") = false := by kernel_rfl
def c146 : C := .seq
  (.reg [zV (.int .i64 0) 2] []) (.seq
  (.reg [zV (.int .i64 0) 3] []) (.seq (.seq
  (.reg [zM 0 6, zU 6 7, zV (.int .i64 0) 8] []) (.block 0 (.loop (.seq
  (.reg [zB .lss 8 7 9] []) (.seq (.cond (.tmp 9) .skip (.exit 0)) (.seq (.block 1 (.seq
  (.reg [zJ 2 6 8 10, zN 2 10 11, (none, (.new [.slice none 0 0, .slice none 0 0], .some 5)), zS 2 5 11] [])
  (.reg [zM 3 12, zF 1 5 13, zL 13 14, zU 14 15, zB .add 12 15 16, zM 16 3] [])))
  (.reg [zI .add 8 1 17, zM 17 8] []))))))) (.seq
  (.reg [zM 3 18, zM 18 2] []) .ret)))
theorem b146 : Tryz.f146.body.bind (compC Tryz.prog) = some c146 := by kernel_rfl
theorem r146 : compR Tryz.prog Tryz.f146 = .some [.tmp 2] := by kernel_rfl
theorem n146 : (Tryz.f146.name == "runtime.NumGoroutine") = false := by kernel_rfl
def c149 : C := .seq
  (.reg [zV (.slice none 0 0) 4] []) (.seq
  (.reg [zM 1 8, zU 8 9, (none, (.cvt .u8 (.tmp 9), .some 10)), (none, (.bsl 1 [.tmp 10], .some 11)), zM 11 5] []) (.seq (.seq
  (.reg [zV (.int .i64 0) 6] []) (.block 0 (.loop (.seq (.seq
  (.reg [zM 6 12, zM 1 13, zU 13 14, zB .lss 12 14 15] []) (.cond (.tmp 15) .skip (.exit 0))) (.seq (.block 1 (.seq
  (.reg [zM 1 18, zM 6 19, zJ 2 18 19 20, zF 0 20 21, zL 21 22, zM 22 7] []) (.seq (.seq
  (.reg [zM 6 23, zI .gtr 23 0 24] []) (.cond (.tmp 24)
  (.reg [zM 7 25, zM 1 26, zM 6 27, zI .sub 27 1 28, zJ 2 26 28 29, zF 0 29 30, zL 30 31, zB .sub 25 31 32, (none, (.bin .sub (.tmp 32) (.const (.int .u64 1)), .some 33)), zM 33 7] []) .skip)) (.seq
  (.reg [zM 5 34, zM 7 35, zC 82 [35] 36, (none, (.app 1 1 (.tmp 34) (.tmp 36), .some 37)), zM 37 5] [])
  (.reg [zM 5 38, zM 0 39, zM 1 40, zM 6 41, zJ 2 40 41 42, zF 1 42 43, zL 43 44, zC 177 [39, 44] 45, (none, (.app 1 1 (.tmp 38) (.tmp 45), .some 46)), zM 46 5] [])))))
  (.reg [zM 6 16, zI .add 16 1 17, zM 17 6] [])))))) (.seq
  (.reg [zM 5 47, zM 47 4] []) .ret)))
theorem b149 : Tryz.f149.body.bind (compC Tryz.prog) = some c149 := by kernel_rfl
theorem r149 : compR Tryz.prog Tryz.f149 = .some [.tmp 4] := by kernel_rfl
theorem n149 : (Tryz.f149.name == "runtime.NumGoroutine") = false := by kernel_rfl
def c163 : C := .seq
  (.reg [zV (.slice none 0 0) 6] []) (.seq
  (.reg [zV (.slice none 0 0) 7] []) (.seq (.seq
  (.reg [zM 0 10, zM 2 11, zC 49 [10, 11] 12, zV (.int .i64 0) 13] []) (.block 0 (.loop (.seq
  (.reg [zB .lss 13 12 14] []) (.seq (.cond (.tmp 14) .skip (.exit 0)) (.seq (.block 1 (.seq
  (.reg [zM 0 15, zC 30 [15] 16, zM 16 8] []) (.seq
  (.reg [zM 0 17, zC 104 [17] 18, zM 18 9] []) (.seq (.seq
  (.reg [zM 9 19, zM 1 20, zB .geq 19 20 21] []) (.cond (.tmp 21)
  (.reg [zM 0 22, zM 8 23, (none, (.call (.func 38) [.tmp 22, .const (.int .i64 13), .tmp 23], .some 24))] []) .skip)) (.seq (.seq
  (.reg [zM 0 25, zC 53 [25] 26, (none, (.un .not (.tmp 26), .some 27))] []) (.cond (.tmp 27) (.seq
  (.reg [zV (.slice none 0 0) 6] []) .ret) .skip)) (.seq
  (.reg [zM 1 28, zM 9 29, (none, (.bin .add (.tmp 29) (.const (.int .u64 1)), .some 30)), zB .sub 28 30 31, zM 31 1] [])
  (.reg [zM 7 32, zM 1 33, (none, (.bsl 1 [.tmp 33], .some 34)), (none, (.app 1 8 (.tmp 32) (.tmp 34), .some 35)), zM 35 7] [])))))))
  (.reg [zI .add 13 1 36, zM 36 13] []))))))) (.seq
  (.reg [zM 7 37, zM 37 6] []) .ret)))
theorem b163 : Tryz.f163.body.bind (compC Tryz.prog) = some c163 := by kernel_rfl
theorem r163 : compR Tryz.prog Tryz.f163 = .some [.tmp 6] := by kernel_rfl
theorem n163 : (Tryz.f163.name == "runtime.NumGoroutine") = false := by kernel_rfl
def c176 : C := .seq
  (.reg [(none, (.box (.tmp 0), .some 2)), (none, (.box (.tmp 1), .some 3)), zV (.bool .false) 4] []) (.seq
  (.reg [zF 0 2 5, zL 5 6, zF 0 3 7, zL 7 8, zC 190 [6, 8] 9, zM 9 10, zG 10 true (zF 1 2 11), zG 10 true (zL 11 12), zG 10 true (zF 1 3 13), zG 10 true (zL 13 14), zG 10 true (zC 80 [12, 14] 15), (none, (.pick (.tmp 10) (.tmp 15) (.const (.bool .false)), .some 16)), zM 16 4] []) .ret)
theorem b176 : Tryz.f176.body.bind (compC Tryz.prog) = some c176 := by kernel_rfl
theorem r176 : compR Tryz.prog Tryz.f176 = .some [.tmp 4] := by kernel_rfl
theorem n176 : (Tryz.f176.name == "runtime.NumGoroutine") = false := by kernel_rfl
def c184 : C := .seq
  (.reg [(none, (.box (.tmp 0), .some 2)), zV (.bool .false) 3] []) (.seq
  (.reg [zF 1 2 4, zL 4 5, zU 5 6, zI .gtr 6 4 7, zM 7 8, zG 8 false (zL 1 9), zG 8 false (zF 1 2 10), zG 8 false (zL 10 11), zG 8 false (zC 185 [9, 11] 12), (.some (8, .false), (.un .not (.tmp 12), .some 13)), (none, (.pick (.tmp 8) (.const (.bool .true)) (.tmp 13), .some 14)), zM 14 3] []) .ret)
theorem b184 : Tryz.f184.body.bind (compC Tryz.prog) = some c184 := by kernel_rfl
theorem r184 : compR Tryz.prog Tryz.f184 = .some [.tmp 3] := by kernel_rfl
theorem n184 : (Tryz.f184.name == "runtime.NumGoroutine") = false := by kernel_rfl
def c191 : C := .seq
  (.reg [zV (.slice none 0 0) 4] []) (.seq
  (.reg [zV (.slice none 0 0) 5] []) (.seq (.seq
  (.reg [zV (.int .i64 0) 6] []) (.block 0 (.loop (.seq (.seq
  (.reg [zM 6 8, zM 1 9, zU 9 10, zB .lss 8 10 11] []) (.cond (.tmp 11) .skip (.exit 0))) (.seq (.block 1 (.seq
  (.reg [zM 0 14, zM 14 7] []) (.seq (.seq
  (.reg [zM 6 15, zI .gtr 15 0 16] []) (.cond (.tmp 16)
  (.reg [zM 1 17, zM 6 18, zI .sub 18 1 19, zJ 1 17 19 20, zL 20 21, zM 21 7] []) .skip))
  (.reg [zM 5 22, zM 7 23, (none, (.bin .sub (.tmp 23) (.const (.int .u64 1)), .some 24)), zM 1 25, zM 6 26, zJ 1 25 26 27, zL 27 28, zB .sub 24 28 29, (none, (.bsl 1 [.tmp 29], .some 30)), (none, (.app 1 8 (.tmp 22) (.tmp 30), .some 31)), zM 31 5] []))))
  (.reg [zM 6 12, zI .add 12 1 13, zM 13 6] [])))))) (.seq
  (.reg [zM 5 32, zM 32 4] []) .ret)))
theorem b191 : Tryz.f191.body.bind (compC Tryz.prog) = some c191 := by kernel_rfl
theorem r191 : compR Tryz.prog Tryz.f191 = .some [.tmp 4] := by kernel_rfl
theorem n191 : (Tryz.f191.name == "runtime.NumGoroutine") = false := by kernel_rfl
def c193 : C := .seq
  (.reg [zV (.bool .false) 2] []) (.seq (.seq
  (.reg [zV (.int .i64 0) 3] []) (.block 0 (.loop (.seq (.seq
  (.reg [zM 3 4, zM 0 5, zU 5 6, zB .lss 4 6 7, zM 7 8, zG 8 true (zM 3 9), zG 8 true (zI .lss 9 50 10), (none, (.pick (.tmp 8) (.tmp 10) (.const (.bool .false)), .some 11))] []) (.cond (.tmp 11) .skip (.exit 0))) (.seq (.block 1 (.seq
  (.reg [zM 0 14, zM 3 15, zJ 2 14 15 16, zF 1 16 17, zL 17 18, zU 18 19, zI .gtr 19 50 20] []) (.cond (.tmp 20) (.seq
  (.reg [zV (.bool .true) 2] []) .ret) .skip)))
  (.reg [zM 3 12, zI .add 12 1 13, zM 13 3] [])))))) (.seq
  (.reg [zM 0 21, zU 21 22, zI .gtr 22 50 23, zM 23 2] []) .ret))
theorem b193 : Tryz.f193.body.bind (compC Tryz.prog) = some c193 := by kernel_rfl
theorem r193 : compR Tryz.prog Tryz.f193 = .some [.tmp 2] := by kernel_rfl
theorem n193 : (Tryz.f193.name == "runtime.NumGoroutine") = false := by kernel_rfl
def c197 : C := .seq
  (.reg [(none, (.box (.tmp 0), .some 2)), (none, (.box (.tmp 1), .some 3)), zV (.bool .false) 4] []) (.seq
  (.reg [zF 0 2 5, zL 5 6, zF 0 3 7, zL 7 8, zB .eql 6 8 9, zM 9 10, zG 10 true (zF 1 2 11), zG 10 true (zL 11 12), zG 10 true (zF 1 3 13), zG 10 true (zL 13 14), zG 10 true (zC 198 [12, 14] 15), (none, (.pick (.tmp 10) (.tmp 15) (.const (.bool .false)), .some 16)), zM 16 4] []) .ret)
theorem b197 : Tryz.f197.body.bind (compC Tryz.prog) = some c197 := by kernel_rfl
theorem r197 : compR Tryz.prog Tryz.f197 = .some [.tmp 4] := by kernel_rfl
theorem n197 : (Tryz.f197.name == "runtime.NumGoroutine") = false := by kernel_rfl
end Go.Proofs.YtnfagphepkeedaaGreat
end
section
namespace Go.Proofs.YtnfagphepkeedaaGreat
def c7 : C := .seq
  (.reg [zV (.bool .false) 0] []) (.seq
  (.reg [(none, (.build [.int .u64 0, .int .u64 0, .bool .false, .slice none 0 0] [(1, (1, .const (.int .u64 4))), (2, (1, .const (.bool .true)))], .some 6)), (none, (.bsl 4 [.tmp 6], .some 7)), (none, (.build [.int .u64 0, .int .u64 0, .slice none 0 0] [(0, (1, .const (.int .u64 5))), (1, (1, .const (.int .u64 7))), (2, (1, .tmp 7))], .some 8)), zC 15 [8] 9, zM 9 5, zE 5 0 10, zE 5 1 11, zM 10 1, zM 11 2] []) (.seq
  (.reg [(none, (.build [.int .i64 0, .int .u64 0, .int .u64 0] [(0, (1, .const (.int .i64 1))), (1, (1, .const (.int .u64 5))), (2, (1, .const (.int .u64 7)))], .some 13)), zC 27 [13] 14, zM 14 12, zE 12 0 15, zE 12 1 16, zM 15 3, zM 16 4] []) (.seq
  (.reg [zM 2 17, zI .eql 17 0 18, zM 18 19, zG 19 true (zM 1 20), zG 19 true (zU 20 21), zG 19 true (zM 3 22), zG 19 true (zU 22 23), zG 19 true (zI .add 23 8 24), zG 19 true (zB .eql 21 24 25), (none, (.pick (.tmp 19) (.tmp 25) (.const (.bool .false)), .some 26)), zM 26 27, zG 27 true (zM 1 28), zG 27 true (zM 3 29), zG 27 true (zU 29 30), zG 27 true (zM 3 31), zG 27 true (zU 31 32), zG 27 true (zI .add 32 4 33), (.some (27, .true), (.slice 1 (.tmp 28) (.some (.tmp 30)) (.some (.tmp 33)) none, .some 34)), (.some (27, .true), (.bsl 1 [.const (.int .u8 1), .const (.int .u8 0), .const (.int .u8 3), .const (.int .u8 0)], .some 35)), zG 27 true (zC 19 [34, 35] 36), (none, (.pick (.tmp 27) (.tmp 36) (.const (.bool .false)), .some 37)), zM 37 0] []) .ret)))
theorem b7 : Tryz.f7.body.bind (compC Tryz.prog) = some c7 := by kernel_rfl
theorem r7 : compR Tryz.prog Tryz.f7 = .some [.tmp 0] := by kernel_rfl
theorem n7 : (Tryz.f7.name == "runtime.NumGoroutine") = false := by kernel_rfl
def c8 : C := .seq
  (.reg [(none, (.new [.int .u64 0, .int .u64 0, .slice none 0 0], .some 2)), (none, (.new [.int .i64 0, .int .i64 0], .some 3))] []) (.seq
  (.reg [zM 0 13, zC 28 [13] 14, (none, (.new [.pointer none], .some 4)), zS 1 4 14] []) (.seq
  (.reg [zL 4 15, (none, (.call (.func 29) [.tmp 15, .const (.int .i64 1)], .some 16)), (none, (.new [.int .i64 0, .int .u64 0, .int .u64 0], .some 5)), zS 3 5 16] []) (.seq
  (.reg [zL 4 17, zC 30 [17] 18, (none, (.new [.int .i64 0], .some 7)), zM 18 6, (none, (.store 1 (.tmp 7) (.const (.int .i64 1048576)), none))] []) (.seq
  (.reg [zL 4 19, zF 2 5 20, zL 20 21, (none, (.call (.func 31) [.tmp 19, .tmp 21, .const (.int .i64 0), .const (.int .i64 400)], .some 22)), zM 22 8] []) (.seq
  (.reg [zF 1 5 23, zL 23 24, zF 2 5 25, zL 25 26, (none, (.build [.int .u64 0, .int .u64 0, .slice none 0 0] [(0, (1, .tmp 24)), (1, (1, .tmp 26))], .some 27)), (none, (.new [.int .u64 0, .int .u64 0, .slice none 0 0], .some 9)), zS 3 9 27] []) (.seq
  (.reg [zL 4 28, zM 8 29, (none, (.mkf 33 [] [.tmp 4, .tmp 5, .tmp 7], .some 30)), zC 32 [28, 29, 30] 31, zF 2 9 32, zS 1 32 31] []) (.seq
  (.reg [zL 4 33, zC 30 [33] 34, zM 34 10] []) (.seq
  (.reg [zL 4 35, zM 6 36, zC 35 [35, 36] 37, zM 37 11] []) (.seq (.seq
  (.reg [zL 4 38, (none, (.call (.func 36) [.tmp 38, .const (.int .i64 4)], .some 39)), zM 39 12] []) (.seq
  (.reg [zM 12 40, zM 11 41, zC 37 [41] 42, (none, (.cvt .u64 (.tmp 42), .some 43)), zB .neq 40 43 44] []) (.cond (.tmp 44)
  (.reg [zL 4 45, zM 10 46, (none, (.call (.func 38) [.tmp 45, .const (.int .i64 6), .tmp 46], .some 47))] []) .skip))) (.seq
  (.reg [zL 4 48, zC 39 [48] 49] []) (.seq
  (.reg [zL 4 50, zN 3 9 51, zC 40 [50, 51] 52, zE 52 0 53, zE 52 1 54, zS 3 2 53, zS 2 3 54] []) .ret)))))))))))
theorem b8 : Tryz.f8.body.bind (compC Tryz.prog) = some c8 := by kernel_rfl
theorem r8 : compR Tryz.prog Tryz.f8 = .some [.cell 2 (.some 3), .cell 3 (.some 2)] := by kernel_rfl
theorem n8 : (Tryz.f8.name == "runtime.NumGoroutine") = false := by kernel_rfl
def c19 : C := .seq
  (.reg [zV (.bool .false) 4] []) (.seq
  (.reg [zM 0 5, (none, (.b2s (.tmp 5), .some 6)), zM 1 7, (none, (.b2s (.tmp 7), .some 8)), zB .eql 6 8 9, zM 9 4] []) .ret)
theorem b19 : Tryz.f19.body.bind (compC Tryz.prog) = some c19 := by kernel_rfl
theorem r19 : compR Tryz.prog Tryz.f19 = .some [.tmp 4] := by kernel_rfl
theorem n19 : (Tryz.f19.name == "runtime.NumGoroutine") = false := by kernel_rfl
def c21 : C := .seq
  (.reg [(none, (.box (.tmp 0), .some 1)), zV (.slice none 0 0) 2, zV (.int .i64 0) 3] []) (.seq (.seq
  (.reg [zN 2 1 10, zC 24 [10] 11, (none, (.un .not (.tmp 11), .some 12))] []) (.cond (.tmp 12) (.seq
  (.reg [zV (.slice none 0 0) 2, zV (.int .i64 3) 3] []) .ret) .skip)) (.seq
  (.reg [zF 0 1 14, zL 14 15, (none, (.build [.int .i64 0, .int .u64 0, .int .u64 0] [(0, (1, .const (.int .i64 2))), (1, (1, .tmp 15))], .some 16)), zC 27 [16] 17, zM 17 13, zE 13 0 18, zE 13 1 19, zM 18 4, zM 19 5] []) (.seq
  (.reg [zM 4 20, zF 1 1 21, zL 21 22, zU 22 23, (none, (.cvt .u64 (.tmp 23), .some 24)), zC 85 [24] 25, (none, (.app 1 1 (.tmp 20) (.tmp 25), .some 26)), zM 26 4] []) (.seq (.seq
  (.reg [zF 1 1 27, zL 27 28, zU 28 29, zV (.int .i64 0) 30] []) (.block 0 (.loop (.seq
  (.reg [zB .lss 30 29 31] []) (.seq (.cond (.tmp 31) .skip (.exit 0)) (.seq (.block 1 (.seq
  (.reg [zJ 3 28 30 32, zN 3 32 33, (none, (.new [.int .u64 0, .int .u64 0, .slice none 0 0], .some 7)), zS 3 7 33] []) (.seq
  (.reg [zN 3 7 35, zC 87 [35] 36, zC 86 [36] 37, zM 37 34, zE 34 0 38, zE 34 1 39, zM 38 8, zM 39 9] [])
  (.reg [zM 4 40, zM 8 41, (none, (.app 1 1 (.tmp 40) (.tmp 41), .some 42)), zM 42 4] []))))
  (.reg [zI .add 30 1 43, zM 43 30] []))))))) (.seq
  (.reg [zM 4 44, zM 44 2, zV (.int .i64 0) 3] []) .ret)))))
theorem b21 : Tryz.f21.body.bind (compC Tryz.prog) = some c21 := by kernel_rfl
theorem r21 : compR Tryz.prog Tryz.f21 = .some [.tmp 2, .tmp 3] := by kernel_rfl
theorem n21 : (Tryz.f21.name == "runtime.NumGoroutine") = false := by kernel_rfl
def c23 : C := .seq
  (.reg [(none, (.box (.tmp 0), .some 1)), zV (.bool .false) 2] []) (.seq (.seq
  (.reg [zF 1 1 4, zL 4 5, zU 5 6, zI .gtr 6 40 7] []) (.cond (.tmp 7) (.seq
  (.reg [zV (.bool .true) 2] []) .ret) .skip)) (.seq
  (.reg [zF 1 1 8, zL 8 9, zU 9 10, zI .quo 10 2 11, zM 11 3] []) (.seq
  (.reg [zF 1 1 12, zL 12 13, zM 3 14, (none, (.slice 3 (.tmp 13) none (.some (.tmp 14)) none, .some 15)), (none, (.build [.int .u64 0, .slice none 0 0] [(1, (1, .tmp 15))], .some 16)), zC 90 [16] 17, zM 17 18, zG 18 false (zF 1 1 19), zG 18 false (zL 19 20), zG 18 false (zM 3 21), (.some (18, .false), (.slice 3 (.tmp 20) (.some (.tmp 21)) none none, .some 22)), (.some (18, .false), (.build [.int .u64 0, .slice none 0 0] [(1, (1, .tmp 22))], .some 23)), zG 18 false (zC 90 [23] 24), (none, (.pick (.tmp 18) (.const (.bool .true)) (.tmp 24), .some 25)), zM 25 2] []) .ret)))
theorem b23 : Tryz.f23.body.bind (compC Tryz.prog) = some c23 := by kernel_rfl
theorem r23 : compR Tryz.prog Tryz.f23 = .some [.tmp 2] := by kernel_rfl
theorem n23 : (Tryz.f23.name == "runtime.NumGoroutine") = false := by kernel_rfl
def c25 : C := .seq
  (.reg [(none, (.box (.tmp 0), .some 2)), (none, (.box (.tmp 1), .some 3)), zV (.bool .false) 4] []) (.seq
  (.reg [zF 0 2 5, zL 5 6, zF 0 3 7, zL 7 8, zB .eql 6 8 9, zM 9 10, zG 10 true (zF 1 2 11), zG 10 true (zL 11 12), zG 10 true (zF 1 3 13), zG 10 true (zL 13 14), (.some (10, .true), (.call (.func 97) [.tmp 12, .tmp 14, .func 98], .some 15)), (none, (.pick (.tmp 10) (.tmp 15) (.const (.bool .false)), .some 16)), zM 16 4] []) .ret)
theorem b25 : Tryz.f25.body.bind (compC Tryz.prog) = some c25 := by kernel_rfl
theorem r25 : compR Tryz.prog Tryz.f25 = .some [.tmp 4] := by kernel_rfl
theorem n25 : (Tryz.f25.name == "runtime.NumGoroutine") = false := by kernel_rfl
def c31 : C := .seq
  (.reg [zV (.int .i64 0) 8] []) (.seq
  (.reg [zM 0 11, zC 30 [11] 12, zM 12 9] []) (.seq
  (.reg [zM 0 13, zM 3 14, zC 49 [13, 14] 15, zM 15 10] []) (.seq (.seq
  (.reg [zM 10 16, zM 2 17, zB .lss 16 17 18, zM 18 19, zG 19 false (zM 1 20), zG 19 false (zM 10 21), zG 19 false (zC 73 [20, 21] 22), (.some (19, .false), (.un .not (.tmp 22), .some 23)), (none, (.pick (.tmp 19) (.const (.bool .true)) (.tmp 23), .some 24))] []) (.cond (.tmp 24)
  (.reg [zM 0 25, zM 9 26, (none, (.call (.func 38) [.tmp 25, .const (.int .i64 3), .tmp 26], .some 27))] []) .skip)) (.seq
  (.reg [zM 10 28, zM 28 8] []) .ret))))
theorem b31 : Tryz.f31.body.bind (compC Tryz.prog) = some c31 := by kernel_rfl
theorem r31 : compR Tryz.prog Tryz.f31 = .some [.tmp 8] := by kernel_rfl
theorem n31 : (Tryz.f31.name == "runtime.NumGoroutine") = false := by kernel_rfl
def c32 : C := .seq
  (.reg [zV (.slice none 0 0) 6] []) (.seq
  (.reg [zV (.slice none 0 0) 7] []) (.seq (.seq
  (.reg [zM 1 10, zV (.int .i64 0) 11] []) (.block 0 (.loop (.seq
  (.reg [zB .lss 11 10 12] []) (.seq (.cond (.tmp 12) .skip (.exit 0)) (.seq (.block 1 (.seq
  (.reg [zM 11 13, zM 13 8] []) (.seq
  (.reg [zM 2 14, zM 8 15, (none, (.call (.tmp 14) [.tmp 15], .some 16)), (none, (.new [.int .u64 0, .int .u64 0, .bool .false, .slice none 0 0], .some 9)), zS 4 9 16] []) (.seq (.seq
  (.reg [zM 0 17, zC 53 [17] 18, (none, (.un .not (.tmp 18), .some 19))] []) (.cond (.tmp 19) (.seq
  (.reg [zV (.slice none 0 0) 6] []) .ret) .skip))
  (.reg [zM 7 20, zN 4 9 21, (none, (.bsl 4 [.tmp 21], .some 22)), (none, (.app 4 48 (.tmp 20) (.tmp 22), .some 23)), zM 23 7] [])))))
  (.reg [zI .add 11 1 24, zM 24 11] []))))))) (.seq
  (.reg [zM 7 25, zM 25 6] []) .ret)))
theorem b32 : Tryz.f32.body.bind (compC Tryz.prog) = some c32 := by kernel_rfl
theorem r32 : compR Tryz.prog Tryz.f32 = .some [.tmp 6] := by kernel_rfl
theorem n32 : (Tryz.f32.name == "runtime.NumGoroutine") = false := by kernel_rfl
def c39 : C := .seq
  (.reg [zM 0 2, zC 111 [2] 3, zI .gtr 3 0 4] []) (.cond (.tmp 4)
  (.reg [zM 0 5, zM 0 6, (none, (.nilc (.tmp 6), .some 7)), zF 1 7 8, zL 8 9, (none, (.call (.func 38) [.tmp 5, .const (.int .i64 9), .tmp 9], .some 10))] []) .skip)
theorem b39 : Tryz.f39.body.bind (compC Tryz.prog) = some c39 := by kernel_rfl
theorem r39 : compR Tryz.prog Tryz.f39 = .some [] := by kernel_rfl
theorem n39 : (Tryz.f39.name == "runtime.NumGoroutine") = false := by kernel_rfl
def c57 : C := .seq
  (.reg [(none, (.box (.tmp 0), .some 1)), zV (.bool .false) 2] []) (.seq
  (.reg [zF 0 1 3, zL 3 4, zI .eql 4 0 5, zM 5 2] []) .ret)
theorem b57 : Tryz.f57.body.bind (compC Tryz.prog) = some c57 := by kernel_rfl
theorem r57 : compR Tryz.prog Tryz.f57 = .some [.tmp 2] := by kernel_rfl
theorem n57 : (Tryz.f57.name == "runtime.NumGoroutine") = false := by kernel_rfl
def c58 : C := .seq
  (.reg [(none, (.box (.tmp 2), .some 5)), zV (.bool .false) 6] []) (.seq
  (.reg [zM 1 8, zU 8 9, zM 9 7] []) (.seq
  (.reg [zF 0 5 10, zL 10 11, zM 0 12, zB .leq 11 12 13, zM 13 14, zG 14 true (zM 7 15), zG 14 true (zI .eql 15 0 16), zG 14 true (zM 16 17), zG 17 false (zF 0 5 18), zG 17 false (zL 18 19), zG 17 false (zM 1 20), zG 17 false (zM 7 21), zG 17 false (zI .sub 21 1 22), zG 17 false (zJ 3 20 22 23), zG 17 false (zF 0 23 24), zG 17 false (zL 24 25), zG 17 false (zB .geq 19 25 26), zG 17 false (zM 26 27), zG 27 true (zF 1 5 28), zG 27 true (zL 28 29), zG 27 true (zM 1 30), zG 27 true (zM 7 31), zG 27 true (zI .sub 31 1 32), zG 27 true (zJ 3 30 32 33), zG 27 true (zN 3 33 34), zG 27 true (zC 124 [34] 35), zG 27 true (zB .geq 29 35 36), (.some (17, .false), (.pick (.tmp 27) (.tmp 36) (.const (.bool .false)), .some 37)), (.some (14, .true), (.pick (.tmp 17) (.const (.bool .true)) (.tmp 37), .some 38)), (none, (.pick (.tmp 14) (.tmp 38) (.const (.bool .false)), .some 39)), zM 39 6] [(9, 15), (19, 24), (19, 25)]) .ret))
theorem b58 : Tryz.f58.body.bind (compC Tryz.prog) = some c58 := by kernel_rfl
theorem r58 : compR Tryz.prog Tryz.f58 = .some [.tmp 6] := by kernel_rfl
theorem n58 : (Tryz.f58.name == "runtime.NumGoroutine") = false := by kernel_rfl
def c65 : C := .seq
  (.reg [(none, (.box (.tmp 0), .some 2)), (none, (.box (.tmp 1), .some 3)), zV (.bool .false) 4] []) (.seq (.seq
  (.reg [zF 0 2 6, zL 6 7, zF 0 3 8, zL 8 9, zB .neq 7 9 10, zM 10 11, zG 11 false (zF 1 2 12), zG 11 false (zL 12 13), zG 11 false (zU 13 14), zG 11 false (zF 1 3 15), zG 11 false (zL 15 16), zG 11 false (zU 16 17), zG 11 false (zB .neq 14 17 18), (none, (.pick (.tmp 11) (.const (.bool .true)) (.tmp 18), .some 19))] []) (.cond (.tmp 19) (.seq
  (.reg [zV (.bool .false) 4] []) .ret) .skip)) (.seq (.seq
  (.reg [zV (.int .i64 0) 5] []) (.block 0 (.loop (.seq (.seq
  (.reg [zM 5 20, zF 1 2 21, zL 21 22, zU 22 23, zB .lss 20 23 24] []) (.cond (.tmp 24) .skip (.exit 0))) (.seq (.block 1 (.seq
  (.reg [zF 1 2 27, zL 27 28, zM 5 29, zJ 3 28 29 30, zN 3 30 31, zF 1 3 32, zL 32 33, zM 5 34, zJ 3 33 34 35, zN 3 35 36, zC 128 [31, 36] 37, (none, (.un .not (.tmp 37), .some 38))] [(1, 6), (4, 6), (1, 9), (4, 9)]) (.cond (.tmp 38) (.seq
  (.reg [zV (.bool .false) 4] []) .ret) .skip)))
  (.reg [zM 5 25, zI .add 25 1 26, zM 26 5] [])))))) (.seq
  (.reg [zV (.bool .true) 4] []) .ret)))
theorem b65 : Tryz.f65.body.bind (compC Tryz.prog) = some c65 := by kernel_rfl
theorem r65 : compR Tryz.prog Tryz.f65 = .some [.tmp 4] := by kernel_rfl
theorem n65 : (Tryz.f65.name == "runtime.NumGoroutine") = false := by kernel_rfl
def c74 : C := .seq
  (.reg [zV (.bool .false) 4] []) (.seq (.seq
  (.reg [zM 0 7, zU 7 8, zV (.int .i64 0) 9] []) (.block 0 (.loop (.seq
  (.reg [zB .lss 9 8 10] []) (.seq (.cond (.tmp 10) .skip (.exit 0)) (.seq (.block 1 (.seq
  (.reg [zM 9 11, zJ 4 7 9 12, zN 4 12 13, (none, (.new [.int .u64 0, .int .u64 0, .bool .false, .slice none 0 0], .some 6)), zM 11 5, zS 4 6 13] []) (.seq
  (.reg [zM 1 14, zM 5 15, zN 4 6 16, (none, (.call (.tmp 14) [.tmp 15, .tmp 16], .some 17)), (none, (.un .not (.tmp 17), .some 18))] []) (.cond (.tmp 18) (.seq
  (.reg [zV (.bool .false) 4] []) .ret) .skip))))
  (.reg [zI .add 9 1 19, zM 19 9] []))))))) (.seq
  (.reg [zV (.bool .true) 4] []) .ret))
theorem b74 : Tryz.f74.body.bind (compC Tryz.prog) = some c74 := by kernel_rfl
theorem r74 : compR Tryz.prog Tryz.f74 = .some [.tmp 4] := by kernel_rfl
theorem n74 : (Tryz.f74.name == "runtime.NumGoroutine") = false := by kernel_rfl
def c75 : C := .seq
  (.reg [(none, (.box (.tmp 1), .some 4)), zV (.bool .false) 5] []) (.seq
  (.reg [zF 2 4 6, zL 6 7, zM 7 8, zG 8 true (zF 1 4 9), zG 8 true (zL 9 10), zG 8 true (zF 1 2 11), zG 8 true (zL 11 12), zG 8 true (zM 0 13), (.some (8, .true), (.cvt .u64 (.tmp 13), .some 14)), zG 8 true (zB .add 12 14 15), zG 8 true (zB .lss 10 15 16), (none, (.pick (.tmp 8) (.tmp 16) (.const (.bool .false)), .some 17)), zM 17 18, zG 18 false (zF 2 4 19), zG 18 false (zL 19 20), (.some (18, .false), (.un .not (.tmp 20), .some 21)), zG 18 false (zM 21 22), zG 22 true (zF 1 4 23), zG 22 true (zL 23 24), (.some (22, .true), (.bin .eql (.tmp 24) (.const (.int .u64 0)), .some 25)), (.some (18, .false), (.pick (.tmp 22) (.tmp 25) (.const (.bool .false)), .some 26)), (none, (.pick (.tmp 18) (.const (.bool .true)) (.tmp 26), .some 27)), zM 27 5] []) .ret)
theorem b75 : Tryz.f75.body.bind (compC Tryz.prog) = some c75 := by kernel_rfl
theorem r75 : compR Tryz.prog Tryz.f75 = .some [.tmp 5] := by kernel_rfl
theorem n75 : (Tryz.f75.name == "runtime.NumGoroutine") = false := by kernel_rfl
def c87 : C := .seq
  (.reg [(none, (.box (.tmp 0), .some 1)), zV (.slice none 0 0) 2] []) (.seq
  (.reg [zV (.int .i64 30) 3] []) (.seq (.seq
  (.reg [zF 2 1 11, zL 11 12, zU 12 13, zV (.int .i64 0) 14] []) (.block 0 (.loop (.seq
  (.reg [zB .lss 14 13 15] []) (.seq (.cond (.tmp 15) .skip (.exit 0)) (.seq (.block 1 (.seq
  (.reg [zM 14 16, zJ 2 12 14 17, zN 2 17 18, (none, (.new [.slice none 0 0, .slice none 0 0], .some 5)), zM 16 4, zS 2 5 18] [])
  (.reg [zM 3 19, zF 1 1 20, zL 20 21, zM 4 22, (none, (.cvt .u64 (.tmp 22), .some 23)), zB .add 21 23 24, zN 2 5 25, zC 135 [24, 25] 26, zF 1 5 27, zL 27 28, zU 28 29, zB .add 26 29 30, zB .add 19 30 31, zM 31 3] [(2, 6), (2, 9), (6, 9), (7, 9)])))
  (.reg [zI .add 14 1 32, zM 32 14] []))))))) (.seq
  (.reg [zM 3 33, zC 66 [33] 34, zM 34 6] []) (.seq
  (.reg [zM 6 35, zF 0 1 36, zL 36 37, zC 136 [35, 37] 38] []) (.seq
  (.reg [zM 6 39, zF 1 1 40, zL 40 41, zC 137 [39, 41] 42] []) (.seq
  (.reg [zM 6 43, zF 2 1 44, zL 44 45, zU 45 46, (none, (.cvt .u64 (.tmp 46), .some 47)), zC 68 [43, 47] 48] []) (.seq (.seq
  (.reg [zF 2 1 49, zL 49 50, zU 50 51, zV (.int .i64 0) 52] []) (.block 2 (.loop (.seq
  (.reg [zB .lss 52 51 53] []) (.seq (.cond (.tmp 53) .skip (.exit 2)) (.seq (.block 3 (.seq
  (.reg [zM 52 54, zJ 2 50 52 55, zN 2 55 56, (none, (.new [.slice none 0 0, .slice none 0 0], .some 8)), zM 54 7, zS 2 8 56] []) (.seq
  (.reg [zM 6 57, zF 1 1 58, zL 58 59, zM 7 60, (none, (.cvt .u64 (.tmp 60), .some 61)), zB .add 59 61 62, zF 0 8 63, zL 63 64, zC 138 [57, 62, 64] 65] [])
  (.reg [zM 6 66, zF 1 8 67, zL 67 68, zC 69 [66, 68] 69] []))))
  (.reg [zI .add 52 1 70, zM 70 52] []))))))) (.seq
  (.reg [zM 6 72, zC 70 [72] 73, zM 73 71, zE 71 0 74, zE 71 1 75, zM 74 9, zM 75 10] []) (.seq
  (.reg [zM 9 76, zM 76 2] []) .ret)))))))))
theorem b87 : Tryz.f87.body.bind (compC Tryz.prog) = some c87 := by kernel_rfl
theorem r87 : compR Tryz.prog Tryz.f87 = .some [.tmp 2] := by kernel_rfl
theorem n87 : (Tryz.f87.name == "runtime.NumGoroutine") = false := by kernel_rfl
def c93 : C := .seq
  (.reg [zV (.bool .false) 4] []) (.seq (.seq
  (.reg [zM 0 7, zU 7 8, zV (.int .i64 0) 9] []) (.block 0 (.loop (.seq
  (.reg [zB .lss 9 8 10] []) (.seq (.cond (.tmp 10) .skip (.exit 0)) (.seq (.block 1 (.seq
  (.reg [zM 9 11, zJ 2 7 9 12, zN 2 12 13, (none, (.new [.slice none 0 0, .slice none 0 0], .some 6)), zM 11 5, zS 2 6 13] []) (.seq
  (.reg [zM 1 14, zM 5 15, zN 2 6 16, (none, (.call (.tmp 14) [.tmp 15, .tmp 16], .some 17)), (none, (.un .not (.tmp 17), .some 18))] []) (.cond (.tmp 18) (.seq
  (.reg [zV (.bool .false) 4] []) .ret) .skip))))
  (.reg [zI .add 9 1 19, zM 19 9] []))))))) (.seq
  (.reg [zV (.bool .true) 4] []) .ret))
theorem b93 : Tryz.f93.body.bind (compC Tryz.prog) = some c93 := by kernel_rfl
theorem r93 : compR Tryz.prog Tryz.f93 = .some [.tmp 4] := by kernel_rfl
theorem n93 : (Tryz.f93.name == "runtime.NumGoroutine") = false := by kernel_rfl
def c102 : C := .seq
  (.reg [(none, (.box (.tmp 1), .some 3))] []) (.seq (.seq
  (.reg [zN 3 3 5, zC 151 [5] 6, (none, (.un .not (.tmp 6), .some 7))] []) (.cond (.tmp 7) (.seq
  (.reg [zM 0 8, (none, (.call (.func 152) [.tmp 8, .const (.int .i64 3)], .some 9))] []) .ret) .skip)) (.seq
  (.reg [zN 3 3 10, zC 153 [10] 11, zM 11 4] []) (.seq
  (.reg [zM 0 12, zM 4 13, zC 129 [12, 13] 14] [])
  (.reg [zM 0 15, zM 4 16, zC 37 [16] 17, (none, (.cvt .u64 (.tmp 17), .some 18)), (none, (.call (.func 154) [.tmp 15, .tmp 18, .const (.int .i64 4)], .some 19))] []))))
theorem b102 : Tryz.f102.body.bind (compC Tryz.prog) = some c102 := by kernel_rfl
theorem r102 : compR Tryz.prog Tryz.f102 = .some [] := by kernel_rfl
theorem n102 : (Tryz.f102.name == "runtime.NumGoroutine") = false := by kernel_rfl
def c110 : C := .seq
  (.reg [(none, (.new [.int .i64 0, .int .i64 0], .some 4))] []) (.seq (.seq
  (.reg [zM 0 5, zI .eql 5 0 6] []) (.cond (.tmp 6) (.seq
  (.reg [(none, (.build [.int .i64 0, .int .i64 0] [], .some 7)), zS 2 4 7] []) .ret) .skip)) (.seq
  (.reg [zM 0 8, zM 1 9, (none, (.build [.int .i64 0, .int .i64 0] [(0, (1, .tmp 8)), (1, (1, .tmp 9))], .some 10)), zS 2 4 10] []) .ret))
theorem b110 : Tryz.f110.body.bind (compC Tryz.prog) = some c110 := by kernel_rfl
theorem r110 : compR Tryz.prog Tryz.f110 = .some [.cell 4 (.some 2)] := by kernel_rfl
theorem n110 : (Tryz.f110.name == "runtime.NumGoroutine") = false := by kernel_rfl
def c119 : C := .seq
  (.reg [zV (.int .u64 0) 2] []) (.seq
  (.reg [zM 0 3, (none, (.call (.func 162) [.tmp 3, .func 72], .some 4)), zM 4 2] []) .ret)
theorem b119 : Tryz.f119.body.bind (compC Tryz.prog) = some c119 := by kernel_rfl
theorem r119 : compR Tryz.prog Tryz.f119 = .some [.tmp 2] := by kernel_rfl
theorem n119 : (Tryz.f119.name == "runtime.NumGoroutine") = false := by kernel_rfl
def c122 : C := .seq
  (.reg [(none, (.new [.slice none 0 0, .slice none 0 0], .some 5))] []) (.seq
  (.reg [zL 1 8, zC 30 [8] 9, zM 9 6] []) (.seq
  (.reg [zL 1 10, zF 1 2 11, zL 11 12, zM 0 13, (none, (.cvt .u64 (.tmp 13), .some 14)), zB .add 12 14 15, zC 123 [10, 15] 16, (none, (.build [.slice none 0 0, .slice none 0 0] [(0, (1, .tmp 16))], .some 17)), (none, (.new [.slice none 0 0, .slice none 0 0], .some 7)), zS 2 7 17] []) (.seq (.seq
  (.reg [zF 0 7 18, zL 18 19, zC 95 [19] 20, (none, (.un .not (.tmp 20), .some 21))] []) (.cond (.tmp 21)
  (.reg [zL 1 22, zM 6 23, (none, (.call (.func 38) [.tmp 22, .const (.int .i64 3), .tmp 23], .some 24))] []) .skip)) (.seq
  (.reg [zL 1 25, zL 3 26, zC 105 [25, 26] 27, zF 1 7 28, zS 1 28 27] []) (.seq
  (.reg [zL 3 29, zF 1 7 30, zL 30 31, zU 31 32, zB .sub 29 32 33, zS 1 3 33] []) (.seq
  (.reg [zN 2 7 34, zS 2 5 34] []) .ret))))))
theorem b122 : Tryz.f122.body.bind (compC Tryz.prog) = some c122 := by kernel_rfl
theorem r122 : compR Tryz.prog Tryz.f122 = .some [.cell 5 (.some 2)] := by kernel_rfl
theorem n122 : (Tryz.f122.name == "runtime.NumGoroutine") = false := by kernel_rfl
def c124 : C := .seq
  (.reg [(none, (.box (.tmp 0), .some 1)), zV (.int .u64 0) 2] []) (.seq
  (.reg [zF 1 1 3, zL 3 4, zF 2 1 5, zL 5 6, zU 6 7, (none, (.cvt .u64 (.tmp 7), .some 8)), zB .add 4 8 9, zM 9 2] []) .ret)
theorem b124 : Tryz.f124.body.bind (compC Tryz.prog) = some c124 := by kernel_rfl
theorem r124 : compR Tryz.prog Tryz.f124 = .some [.tmp 2] := by kernel_rfl
theorem n124 : (Tryz.f124.name == "runtime.NumGoroutine") = false := by kernel_rfl
def c135 : C := .seq
  (.reg [(none, (.box (.tmp 1), .some 3)), zV (.int .i64 0) 4] []) (.seq (.seq
  (.reg [zM 0 5, zN 2 3 6, zC 147 [5, 6] 7, (none, (.un .not (.tmp 7), .some 8))] []) (.cond (.tmp 8) (.seq
  (.reg [zV (.int .i64 0) 4] []) .ret) .skip)) (.seq
  (.reg [zM 0 9, zF 0 3 10, zL 10 11, zC 168 [9, 11] 12, zF 1 3 13, zL 13 14, zU 14 15, (none, (.cvt .u64 (.tmp 15), .some 16)), zC 150 [16] 17, zB .add 12 17 18, zM 18 4] [(2, 5), (3, 5)]) .ret))
theorem b135 : Tryz.f135.body.bind (compC Tryz.prog) = some c135 := by kernel_rfl
theorem r135 : compR Tryz.prog Tryz.f135 = .some [.tmp 4] := by kernel_rfl
theorem n135 : (Tryz.f135.name == "runtime.NumGoroutine") = false := by kernel_rfl
def c136 : C := .reg [zM 0 4, zM 1 5, zM 1 6, zC 72 [6] 7, zC 169 [4, 5, 7] 8] []
theorem b136 : Tryz.f136.body.bind (compC Tryz.prog) = some c136 := by kernel_rfl
theorem r136 : compR Tryz.prog Tryz.f136 = .some [] := by kernel_rfl
theorem n136 : (Tryz.f136.name == "runtime.NumGoroutine") = false := by kernel_rfl
def c140 : C := .seq
  (.reg [zV (.slice none 0 0) 2] []) (.seq
  (.reg [zV (.slice none 0 0) 3] []) (.seq (.seq
  (.reg [zV (.int .i64 0) 4] []) (.block 0 (.loop (.seq (.seq
  (.reg [zM 4 5, zM 0 6, zU 6 7, zB .lss 5 7 8] []) (.cond (.tmp 8) .skip (.exit 0))) (.seq (.block 1
  (.reg [zM 3 11, zM 0 12, zM 4 13, zJ 2 12 13 14, zF 1 14 15, zL 15 16, (none, (.app 1 1 (.tmp 11) (.tmp 16), .some 17)), zM 17 3] []))
  (.reg [zM 4 9, zI .add 9 1 10, zM 10 4] [])))))) (.seq
  (.reg [zM 3 18, zM 18 2] []) .ret)))
theorem b140 : Tryz.f140.body.bind (compC Tryz.prog) = some c140 := by kernel_rfl
theorem r140 : compR Tryz.prog Tryz.f140 = .some [.tmp 2] := by kernel_rfl
theorem n140 : (Tryz.f140.name == "runtime.NumGoroutine") = false := by kernel_rfl
def c141 : C := .seq
  (.reg [(none, (.box (.tmp 1), .some 3)), zV (.bool .false) 4] []) (.seq
  (.reg [zM 0 5, zF 0 3 6, zL 6 7, zC 173 [5, 7] 8, zM 8 9, zG 9 true (zF 1 3 10), zG 9 true (zL 10 11), zG 9 true (zU 11 12), zG 9 true (zI .leq 12 1048576 13), (none, (.pick (.tmp 9) (.tmp 13) (.const (.bool .false)), .some 14)), zM 14 4] []) .ret)
theorem b141 : Tryz.f141.body.bind (compC Tryz.prog) = some c141 := by kernel_rfl
theorem r141 : compR Tryz.prog Tryz.f141 = .some [.tmp 4] := by kernel_rfl
theorem n141 : (Tryz.f141.name == "runtime.NumGoroutine") = false := by kernel_rfl
def c142 : C := .seq
  (.reg [(none, (.box (.tmp 0), .some 1)), zV (.bool .false) 2] []) (.seq
  (.reg [zV (.int .i64 0) 3] []) (.seq (.seq
  (.reg [zV (.int .i64 0) 4] []) (.block 0 (.loop (.seq (.seq
  (.reg [zM 4 5, zF 2 1 6, zL 6 7, zU 7 8, zB .lss 5 8 9, zM 9 10, zG 10 true (zM 4 11), zG 10 true (zI .lss 11 30 12), (none, (.pick (.tmp 10) (.tmp 12) (.const (.bool .false)), .some 13))] []) (.cond (.tmp 13) .skip (.exit 0))) (.seq (.block 1
  (.reg [zM 3 16, zF 2 1 17, zL 17 18, zM 4 19, zJ 2 18 19 20, zF 1 20 21, zL 21 22, zU 22 23, zB .add 16 23 24, zM 24 3] []))
  (.reg [zM 4 14, zI .add 14 1 15, zM 15 4] [])))))) (.seq
  (.reg [zF 2 1 25, zL 25 26, zC 174 [26] 27, zM 27 28, zG 28 false (zM 3 29), zG 28 false (zI .gtr 29 300 30), (none, (.pick (.tmp 28) (.const (.bool .true)) (.tmp 30), .some 31)), zM 31 2] []) .ret)))
theorem b142 : Tryz.f142.body.bind (compC Tryz.prog) = some c142 := by kernel_rfl
theorem r142 : compR Tryz.prog Tryz.f142 = .some [.tmp 2] := by kernel_rfl
theorem n142 : (Tryz.f142.name == "runtime.NumGoroutine") = false := by kernel_rfl
def c144 : C := .seq
  (.reg [(none, (.box (.tmp 1), .some 3)), zV (.bool .false) 4] []) (.seq
  (.reg [zF 1 3 5, zL 5 6, zU 6 7, zI .leq 7 1 8, zM 8 4] []) .ret)
theorem b144 : Tryz.f144.body.bind (compC Tryz.prog) = some c144 := by kernel_rfl
theorem r144 : compR Tryz.prog Tryz.f144 = .some [.tmp 4] := by kernel_rfl
theorem n144 : (Tryz.f144.name == "runtime.NumGoroutine") = false := by kernel_rfl
def c145 : C := .seq
  (.reg [zV (.bool .false) 4] []) (.seq
  (.reg [zM 1 5, zI .geq 5 1 6, zM 6 7, zG 7 true (zM 1 8), zG 7 true (zI .leq 8 16 9), (none, (.pick (.tmp 7) (.tmp 9) (.const (.bool .false)), .some 10)), zM 10 11, zG 11 true (zM 0 12), zG 11 true (zC 131 [12] 13), (none, (.pick (.tmp 11) (.tmp 13) (.const (.bool .false)), .some 14)), zM 14 15, zG 15 true (zM 0 16), zG 15 true (zM 1 17), (.some (15, .true), (.cvt .u64 (.tmp 17), .some 18)), zG 15 true (zB .add 16 18 19), (.some (15, .true), (.bin .leq (.tmp 19) (.const (.int .u64 4611686018427387904)), .some 20)), (none, (.pick (.tmp 15) (.tmp 20) (.const (.bool .false)), .some 21)), zM 21 4] []) .ret)
theorem b145 : Tryz.f145.body.bind (compC Tryz.prog) = some c145 := by kernel_rfl
theorem r145 : compR Tryz.prog Tryz.f145 = .some [.tmp 4] := by kernel_rfl
theorem n145 : (Tryz.f145.name == "runtime.NumGoroutine") = false := by kernel_rfl
def c147 : C := .seq
  (.reg [(none, (.box (.tmp 1), .some 3)), zV (.bool .false) 4] []) (.seq
  (.reg [zM 0 5, zF 0 3 6, zL 6 7, zC 170 [5, 7] 8, zM 8 9, zG 9 true (zF 1 3 10), zG 9 true (zL 10 11), zG 9 true (zU 11 12), zG 9 true (zI .leq 12 1048576 13), (none, (.pick (.tmp 9) (.tmp 13) (.const (.bool .false)), .some 14)), zM 14 4] []) .ret)
theorem b147 : Tryz.f147.body.bind (compC Tryz.prog) = some c147 := by kernel_rfl
theorem r147 : compR Tryz.prog Tryz.f147 = .some [.tmp 4] := by kernel_rfl
theorem n147 : (Tryz.f147.name == "runtime.NumGoroutine") = false := by kernel_rfl
def c152 : C := .seq
  (.reg [zM 0 4, zC 130 [4] 5, zI .eql 5 0 6] []) (.cond (.tmp 6)
  (.reg [zM 0 7, zM 1 8, (none, (.nilc (.tmp 7), .some 9)), zF 2 9 10, zS 1 10 8] []) .skip)
theorem b152 : Tryz.f152.body.bind (compC Tryz.prog) = some c152 := by kernel_rfl
theorem r152 : compR Tryz.prog Tryz.f152 = .some [] := by kernel_rfl
theorem n152 : (Tryz.f152.name == "runtime.NumGoroutine") = false := by kernel_rfl
def c153 : C := .seq
  (.reg [(none, (.box (.tmp 0), .some 1)), zV (.slice none 0 0) 2] []) (.seq
  (.reg [zC 101 [] 6, zC 66 [6] 7, zM 7 3] []) (.seq
  (.reg [zM 3 8, (none, (.call (.func 178) [.tmp 8, .const (.string (.mk (#[84, 72, 79, 76])))], .some 9))] []) (.seq
  (.reg [zM 3 10, zF 0 1 11, zL 11 12, (none, (.cvt .u8 (.tmp 12), .some 13)), (none, (.bsl 1 [.tmp 13], .some 14)), zC 129 [10, 14] 15] []) (.seq
  (.reg [zM 3 16, zF 1 1 17, zL 17 18, zC 136 [16, 18] 19] []) (.seq (.seq
  (.reg [zF 0 1 20, zL 20 21, zC 156 [21] 22] []) (.cond (.tmp 22)
  (.reg [zM 3 23, zF 2 1 24, zL 24 25, zC 137 [23, 25] 26] []) .skip)) (.seq
  (.reg [zM 3 28, zC 70 [28] 29, zM 29 27, zE 27 0 30, zE 27 1 31, zM 30 4, zM 31 5] []) (.seq
  (.reg [zM 4 32, zM 32 2] []) .ret)))))))
theorem b153 : Tryz.f153.body.bind (compC Tryz.prog) = some c153 := by kernel_rfl
theorem r153 : compR Tryz.prog Tryz.f153 = .some [.tmp 2] := by kernel_rfl
theorem n153 : (Tryz.f153.name == "runtime.NumGoroutine") = false := by kernel_rfl
def c155 : C := .seq
  (.reg [zV (.int .i64 0) 2] []) (.seq
  (.reg [zM 0 5, zC 30 [5] 6, zM 6 3] []) (.seq (.seq
  (.reg [zM 0 7, (none, (.call (.func 106) [.tmp 7, .const (.int .i64 4)], .some 8)), (none, (.b2s (.tmp 8), .some 9)), (none, (.bin .neq (.tmp 9) (.const (.string (.mk (#[84, 72, 79, 76])))), .some 10))] []) (.cond (.tmp 10)
  (.reg [zM 0 11, zM 3 12, (none, (.call (.func 38) [.tmp 11, .const (.int .i64 14), .tmp 12], .some 13))] []) .skip)) (.seq
  (.reg [zM 0 14, zC 157 [14] 15, (none, (.cvt .i64 (.tmp 15), .some 16)), zM 16 4] []) (.seq (.seq
  (.reg [zM 4 17, zI .lss 17 1 18, zM 18 19, zG 19 false (zM 4 20), zG 19 false (zI .gtr 20 3 21), (none, (.pick (.tmp 19) (.const (.bool .true)) (.tmp 21), .some 22))] []) (.cond (.tmp 22)
  (.reg [zM 0 23, zM 0 24, zC 30 [24] 25, zI .sub 25 1 26, (none, (.call (.func 38) [.tmp 23, .const (.int .i64 8), .tmp 26], .some 27))] []) .skip)) (.seq (.seq
  (.reg [zM 0 28, zC 53 [28] 29, (none, (.un .not (.tmp 29), .some 30))] []) (.cond (.tmp 30) (.seq
  (.reg [zV (.int .i64 0) 2] []) .ret) .skip)) (.seq
  (.reg [zM 4 31, zM 31 2] []) .ret))))))
theorem b155 : Tryz.f155.body.bind (compC Tryz.prog) = some c155 := by kernel_rfl
theorem r155 : compR Tryz.prog Tryz.f155 = .some [.tmp 2] := by kernel_rfl
theorem n155 : (Tryz.f155.name == "runtime.NumGoroutine") = false := by kernel_rfl
def c161 : C := .seq
  (.reg [zV (.int .u32 0) 4] []) (.seq
  (.reg [zM 0 7, zM 1 8, (none, (.cvt .u32 (.tmp 8), .some 9)), zB .xor 7 9 10, zM 10 0] []) (.seq (.seq
  (.reg [zV (.int .i64 0) 5] []) (.block 0 (.loop (.seq (.seq
  (.reg [zM 5 11, zI .lss 11 8 12] []) (.cond (.tmp 12) .skip (.exit 0))) (.seq (.block 1 (.seq
  (.reg [zM 0 15, (none, (.bin .rem (.tmp 15) (.const (.int .u32 2)), .some 16)), zM 16 6] []) (.seq
  (.reg [zM 0 17, (none, (.bin .quo (.tmp 17) (.const (.int .u32 2)), .some 18)), zM 18 0] []) (.seq
  (.reg [zM 6 19, (none, (.bin .eql (.tmp 19) (.const (.int .u32 1)), .some 20))] []) (.cond (.tmp 20)
  (.reg [zM 0 21, (none, (.bin .xor (.tmp 21) (.const (.int .u32 2197175160)), .some 22)), zM 22 0] []) .skip)))))
  (.reg [zM 5 13, zI .add 13 1 14, zM 14 5] [])))))) (.seq
  (.reg [zM 0 23, zM 23 4] []) .ret)))
theorem b161 : Tryz.f161.body.bind (compC Tryz.prog) = some c161 := by kernel_rfl
theorem r161 : compR Tryz.prog Tryz.f161 = .some [.tmp 4] := by kernel_rfl
theorem n161 : (Tryz.f161.name == "runtime.NumGoroutine") = false := by kernel_rfl
def c166 : C := .seq
  (.reg [zV (.int .i64 0) 2] []) (.seq (.seq
  (.reg [zM 0 3, (none, (.eqp .false (.tmp 3) (.const (.pointer none)), .some 4))] []) (.cond (.tmp 4) (.seq
  (.reg [zV (.int .i64 0) 2] []) .ret) .skip)) (.seq
  (.reg [zM 0 5, (none, (.nilc (.tmp 5), .some 6)), zF 0 6 7, zL 7 8, zM 0 9, (none, (.nilc (.tmp 9), .some 10)), zF 1 10 11, zL 11 12, zU 12 13, zB .sub 8 13 14, zM 14 2] [(3, 7)]) .ret))
theorem b166 : Tryz.f166.body.bind (compC Tryz.prog) = some c166 := by kernel_rfl
theorem r166 : compR Tryz.prog Tryz.f166 = .some [.tmp 2] := by kernel_rfl
theorem n166 : (Tryz.f166.name == "runtime.NumGoroutine") = false := by kernel_rfl
def c168 : C := .seq
  (.reg [zV (.int .i64 0) 4] []) (.seq (.seq
  (.reg [zM 0 8, zM 1 9, zC 170 [8, 9] 10, (none, (.un .not (.tmp 10), .some 11))] []) (.cond (.tmp 11) (.seq
  (.reg [zV (.int .i64 0) 4] []) .ret) .skip)) (.seq
  (.reg [zM 1 12, zU 12 13, (none, (.cvt .u64 (.tmp 13), .some 14)), zC 150 [14] 15, zM 15 5] []) (.seq (.seq
  (.reg [zM 1 16, zC 171 [16] 17, zU 17 18, zV (.int .i64 0) 19] []) (.block 0 (.loop (.seq
  (.reg [zB .lss 19 18 20] []) (.seq (.cond (.tmp 20) .skip (.exit 0)) (.seq (.block 1 (.seq
  (.reg [zM 19 21, zJ 1 17 19 22, zL 22 23, zM 21 6, zM 23 7] [])
  (.reg [zM 5 24, zM 7 25, zC 150 [25] 26, zM 0 27, zM 1 28, zM 6 29, zJ 2 28 29 30, zF 1 30 31, zL 31 32, zC 181 [27, 32] 33, zB .add 26 33 34, zB .add 24 34 35, zM 35 5] [(2, 8)])))
  (.reg [zI .add 19 1 36, zM 36 19] []))))))) (.seq
  (.reg [zM 5 37, zM 37 4] []) .ret))))
theorem b168 : Tryz.f168.body.bind (compC Tryz.prog) = some c168 := by kernel_rfl
theorem r168 : compR Tryz.prog Tryz.f168 = .some [.tmp 4] := by kernel_rfl
theorem n168 : (Tryz.f168.name == "runtime.NumGoroutine") = false := by kernel_rfl
def c170 : C := .seq
  (.reg [(none, (.box (.tmp 0), .some 2)), zV (.bool .false) 4] []) (.seq (.seq
  (.reg [zM 1 6, zU 6 7, zI .gtr 7 16 8, zM 8 9, zG 9 false (zM 1 10), (.some (9, .false), (.call (.func 182) [.tmp 10, .func 183], .some 11)), (.some (9, .false), (.un .not (.tmp 11), .some 12)), (none, (.pick (.tmp 9) (.const (.bool .true)) (.tmp 12), .some 13))] []) (.cond (.tmp 13) (.seq
  (.reg [zV (.bool .false) 4] []) .ret) .skip)) (.seq
  (.reg [(none, (.mkf 184 [] [.tmp 2], .some 14)), zM 14 5] []) (.seq
  (.reg [zM 1 15, zM 5 16, zC 186 [15, 16] 17, zM 1 18, zU 18 19, zB .eql 17 19 20, zM 20 4] []) .ret)))
theorem b170 : Tryz.f170.body.bind (compC Tryz.prog) = some c170 := by kernel_rfl
theorem r170 : compR Tryz.prog Tryz.f170 = .some [.tmp 4] := by kernel_rfl
theorem n170 : (Tryz.f170.name == "runtime.NumGoroutine") = false := by kernel_rfl
def c178 : C := .reg [zM 0 4, zM 1 5, (none, (.s2b (.tmp 5), .some 6)), zC 129 [4, 6] 7] []
theorem b178 : Tryz.f178.body.bind (compC Tryz.prog) = some c178 := by kernel_rfl
theorem r178 : compR Tryz.prog Tryz.f178 = .some [] := by kernel_rfl
theorem n178 : (Tryz.f178.name == "runtime.NumGoroutine") = false := by kernel_rfl
def c183 : C := .seq
  (.reg [(none, (.box (.tmp 0), .some 1)), zV (.int .u64 0) 2] []) (.seq
  (.reg [zF 0 1 3, zL 3 4, zM 4 2] []) .ret)
theorem b183 : Tryz.f183.body.bind (compC Tryz.prog) = some c183 := by kernel_rfl
theorem r183 : compR Tryz.prog Tryz.f183 = .some [.tmp 2] := by kernel_rfl
theorem n183 : (Tryz.f183.name == "runtime.NumGoroutine") = false := by kernel_rfl
def c185 : C := .seq
  (.reg [zV (.bool .false) 4] []) (.seq
  (.reg [zM 0 8, zM 1 9, zC 187 [8, 9] 10, zM 10 7, zE 7 0 11, zE 7 1 12, zM 11 5, zM 12 6] []) (.seq
  (.reg [zM 6 13, zM 13 4] []) .ret))
theorem b185 : Tryz.f185.body.bind (compC Tryz.prog) = some c185 := by kernel_rfl
theorem r185 : compR Tryz.prog Tryz.f185 = .some [.tmp 4] := by kernel_rfl
theorem n185 : (Tryz.f185.name == "runtime.NumGoroutine") = false := by kernel_rfl
def c192 : C := .seq
  (.reg [zV (.bool .false) 4] []) (.seq (.seq
  (.reg [zM 0 6, zU 6 7, zM 1 8, zU 8 9, zB .neq 7 9 10] []) (.cond (.tmp 10) (.seq
  (.reg [zV (.bool .false) 4] []) .ret) .skip)) (.seq (.seq
  (.reg [zV (.int .i64 0) 5] []) (.block 0 (.loop (.seq (.seq
  (.reg [zM 5 11, zM 0 12, zU 12 13, zB .lss 11 13 14] []) (.cond (.tmp 14) .skip (.exit 0))) (.seq (.block 1 (.seq
  (.reg [zM 0 17, zM 5 18, zJ 2 17 18 19, zN 2 19 20, zM 1 21, zM 5 22, zJ 2 21 22 23, zN 2 23 24, zC 197 [20, 24] 25, (none, (.un .not (.tmp 25), .some 26))] [(3, 7)]) (.cond (.tmp 26) (.seq
  (.reg [zV (.bool .false) 4] []) .ret) .skip)))
  (.reg [zM 5 15, zI .add 15 1 16, zM 16 5] [])))))) (.seq
  (.reg [zV (.bool .true) 4] []) .ret)))
theorem b192 : Tryz.f192.body.bind (compC Tryz.prog) = some c192 := by kernel_rfl
theorem r192 : compR Tryz.prog Tryz.f192 = .some [.tmp 4] := by kernel_rfl
theorem n192 : (Tryz.f192.name == "runtime.NumGoroutine") = false := by kernel_rfl
def c195 : C := .seq
  (.reg [(none, (.box (.tmp 0), .some 2)), (none, (.box (.tmp 1), .some 3)), zV (.bool .false) 4] []) (.seq
  (.reg [zF 0 2 5, zL 5 6, zF 0 3 7, zL 7 8, zB .eql 6 8 9, zM 9 10, zG 10 true (zF 1 2 11), zG 10 true (zL 11 12), zG 10 true (zF 1 3 13), zG 10 true (zL 13 14), zG 10 true (zC 196 [12, 14] 15), (none, (.pick (.tmp 10) (.tmp 15) (.const (.bool .false)), .some 16)), zM 16 4] []) .ret)
theorem b195 : Tryz.f195.body.bind (compC Tryz.prog) = some c195 := by kernel_rfl
theorem r195 : compR Tryz.prog Tryz.f195 = .some [.tmp 4] := by kernel_rfl
theorem n195 : (Tryz.f195.name == "runtime.NumGoroutine") = false := by kernel_rfl
end Go.Proofs.YtnfagphepkeedaaGreat
end
section
namespace Go.Proofs.YtnfagphepkeedaaGreat
def c13 : C := .seq
  (.reg [(none, (.box (.tmp 0), .some 2)), (none, (.box (.tmp 1), .some 3)), zV (.bool .false) 4] []) (.seq
  (.reg [zF 0 2 5, zL 5 6, zF 1 2 7, zL 7 8, (none, (.build [.int .u64 0, .slice none 0 0] [(0, (1, .tmp 6)), (1, (1, .tmp 8))], .some 9)), zF 0 3 10, zL 10 11, zF 1 3 12, zL 12 13, (none, (.build [.int .u64 0, .slice none 0 0] [(0, (1, .tmp 11)), (1, (1, .tmp 13))], .some 14)), zC 65 [9, 14] 15, zM 15 4] []) .ret)
theorem b13 : Tryz.f13.body.bind (compC Tryz.prog) = some c13 := by kernel_rfl
theorem r13 : compR Tryz.prog Tryz.f13 = .some [.tmp 4] := by kernel_rfl
theorem n13 : (Tryz.f13.name == "runtime.NumGoroutine") = false := by kernel_rfl
def c22 : C := .seq
  (.reg [(none, (.box (.tmp 0), .some 1)), zV (.bool .false) 2] []) (.seq (.seq
  (.reg [zF 0 1 6, zL 6 7, zC 76 [7] 8, (none, (.un .not (.tmp 8), .some 9)), zM 9 10, zG 10 false (zF 1 1 11), zG 10 false (zL 11 12), zG 10 false (zU 12 13), zG 10 false (zI .gtr 13 32 14), (none, (.pick (.tmp 10) (.const (.bool .true)) (.tmp 14), .some 15))] []) (.cond (.tmp 15) (.seq
  (.reg [zV (.bool .false) 2] []) .ret) .skip)) (.seq (.seq
  (.reg [zV (.int .i64 0) 3] []) (.block 0 (.loop (.seq (.seq
  (.reg [zM 3 16, zF 1 1 17, zL 17 18, zU 18 19, zB .lss 16 19 20] []) (.cond (.tmp 20) .skip (.exit 0))) (.seq (.block 1 (.seq
  (.reg [zF 1 1 23, zL 23 24, zM 3 25, zJ 3 24 25 26, zN 3 26 27, (none, (.new [.int .u64 0, .int .u64 0, .slice none 0 0], .some 4)), zS 3 4 27] []) (.seq (.seq
  (.reg [zN 3 4 28, zC 88 [28] 29, (none, (.un .not (.tmp 29), .some 30)), zM 30 31, zG 31 false (zF 0 1 32), zG 31 false (zL 32 33), zG 31 false (zF 1 1 34), zG 31 false (zL 34 35), (.some (31, .false), (.build [.int .u64 0, .slice none 0 0] [(0, (1, .tmp 33)), (1, (1, .tmp 35))], .some 36)), zG 31 false (zM 3 37), zG 31 false (zN 3 4 38), zG 31 false (zC 63 [36, 37, 38] 39), (.some (31, .false), (.un .not (.tmp 39), .some 40)), (none, (.pick (.tmp 31) (.const (.bool .true)) (.tmp 40), .some 41))] []) (.cond (.tmp 41) (.seq
  (.reg [zV (.bool .false) 2] []) .ret) .skip)) (.seq
  (.reg [zV (.int .i64 0) 5] []) (.block 2 (.loop (.seq (.seq
  (.reg [zM 5 42, zF 2 4 43, zL 43 44, zU 44 45, zB .lss 42 45 46] []) (.cond (.tmp 46) .skip (.exit 2))) (.seq (.block 3 (.seq
  (.reg [zF 2 4 49, zL 49 50, zM 5 51, zJ 2 50 51 52, zF 0 52 53, zL 53 54, zC 89 [54] 55, (none, (.un .not (.tmp 55), .some 56))] []) (.cond (.tmp 56) (.seq
  (.reg [zV (.bool .false) 2] []) .ret) .skip)))
  (.reg [zM 5 47, zI .add 47 1 48, zM 48 5] [])))))))))
  (.reg [zM 3 21, zI .add 21 1 22, zM 22 3] [])))))) (.seq
  (.reg [zV (.bool .true) 2] []) .ret)))
theorem b22 : Tryz.f22.body.bind (compC Tryz.prog) = some c22 := by kernel_rfl
theorem r22 : compR Tryz.prog Tryz.f22 = .some [.tmp 2] := by kernel_rfl
theorem n22 : (Tryz.f22.name == "runtime.NumGoroutine") = false := by kernel_rfl
def c47 : C := .seq
  (.reg [zV (.int .u32 0) 2] []) (.seq
  (.reg [zM 0 3, (none, (.call (.func 115) [.const (.int .u32 4294967295), .tmp 3], .some 4)), (none, (.bin .sub (.const (.int .u32 4294967295)) (.tmp 4), .some 5)), zM 5 2] []) .ret)
theorem b47 : Tryz.f47.body.bind (compC Tryz.prog) = some c47 := by kernel_rfl
theorem r47 : compR Tryz.prog Tryz.f47 = .some [.tmp 2] := by kernel_rfl
theorem n47 : (Tryz.f47.name == "runtime.NumGoroutine") = false := by kernel_rfl
def c49 : C := .seq
  (.reg [zV (.int .i64 0) 4] []) (.seq (.seq
  (.reg [zM 1 6, zI .geq 6 0 7] []) (.cond (.tmp 7) (.seq
  (.reg [zM 0 8, zM 1 9, (none, (.cvt .u64 (.tmp 9), .some 10)), zC 116 [8, 10] 11, (none, (.cvt .i64 (.tmp 11), .some 12)), zM 12 4] []) .ret) .skip)) (.seq
  (.reg [zM 0 13, zC 30 [13] 14, zM 14 5] []) (.seq
  (.reg [zM 0 15, zC 104 [15] 16] []) (.seq
  (.reg [zM 0 17, zM 5 18, (none, (.call (.func 38) [.tmp 17, .const (.int .i64 2), .tmp 18], .some 19))] []) (.seq
  (.reg [zV (.int .i64 0) 4] []) .ret)))))
theorem b49 : Tryz.f49.body.bind (compC Tryz.prog) = some c49 := by kernel_rfl
theorem r49 : compR Tryz.prog Tryz.f49 = .some [.tmp 4] := by kernel_rfl
theorem n49 : (Tryz.f49.name == "runtime.NumGoroutine") = false := by kernel_rfl
def c52 : C := .seq
  (.reg [zV (.slice none 0 0) 4] []) (.seq
  (.reg [zM 0 8, zM 1 9, zC 117 [9] 10, zC 105 [8, 10] 11, zM 11 5] []) (.seq
  (.reg [zM 0 12, zC 30 [12] 13, zM 13 6] []) (.seq
  (.reg [zM 0 14, (none, (.call (.func 36) [.tmp 14, .const (.int .i64 4)], .some 15)), zM 15 7] []) (.seq
  (.reg [zM 5 16, zM 7 17, zM 0 18, (none, (.mkf 38 [.tmp 18] [], .some 19)), zM 6 20, zC 118 [16, 17, 19, 20] 21] []) (.seq (.seq
  (.reg [zM 0 22, zC 53 [22] 23, (none, (.un .not (.tmp 23), .some 24))] []) (.cond (.tmp 24) (.seq
  (.reg [zV (.slice none 0 0) 4] []) .ret) .skip)) (.seq
  (.reg [zM 5 25, zM 25 4] []) .ret))))))
theorem b52 : Tryz.f52.body.bind (compC Tryz.prog) = some c52 := by kernel_rfl
theorem r52 : compR Tryz.prog Tryz.f52 = .some [.tmp 4] := by kernel_rfl
theorem n52 : (Tryz.f52.name == "runtime.NumGoroutine") = false := by kernel_rfl
def c53 : C := .seq
  (.reg [zV (.bool .false) 2] []) (.seq
  (.reg [zM 0 3, (none, (.eqp .true (.tmp 3) (.const (.pointer none)), .some 4)), zM 4 5, zG 5 true (zM 0 6), (.some (5, .true), (.nilc (.tmp 6), .some 7)), zG 5 true (zF 2 7 8), zG 5 true (zN 2 8 9), zG 5 true (zC 57 [9] 10), (none, (.pick (.tmp 5) (.tmp 10) (.const (.bool .false)), .some 11)), zM 11 2] []) .ret)
theorem b53 : Tryz.f53.body.bind (compC Tryz.prog) = some c53 := by kernel_rfl
theorem r53 : compR Tryz.prog Tryz.f53 = .some [.tmp 2] := by kernel_rfl
theorem n53 : (Tryz.f53.name == "runtime.NumGoroutine") = false := by kernel_rfl
def c59 : C := .seq
  (.reg [(none, (.box (.tmp 1), .some 3)), (none, (.new [.int .u64 0, .slice none 0 0], .some 4)), (none, (.new [.int .i64 0, .int .i64 0], .some 5))] []) (.seq (.seq
  (.reg [zM 0 8, zC 56 [8] 9, (none, (.new [.int .i64 0, .int .i64 0], .some 6)), zS 2 6 9] []) (.seq
  (.reg [zN 2 6 10, zC 57 [10] 11, (none, (.un .not (.tmp 11), .some 12))] []) (.cond (.tmp 12) (.seq
  (.reg [(none, (.new [.int .u64 0, .slice none 0 0], .some 7))] []) (.seq
  (.reg [zN 2 7 13, zN 2 6 14, zS 2 4 13, zS 2 5 14] [(0, 1), (1, 2)]) .ret)) .skip))) (.seq
  (.reg [zN 2 3 15, (none, (.build [.int .i64 0, .int .i64 0] [], .some 16)), zS 2 4 15, zS 2 5 16] []) .ret))
theorem b59 : Tryz.f59.body.bind (compC Tryz.prog) = some c59 := by kernel_rfl
theorem r59 : compR Tryz.prog Tryz.f59 = .some [.cell 4 (.some 2), .cell 5 (.some 2)] := by kernel_rfl
theorem n59 : (Tryz.f59.name == "runtime.NumGoroutine") = false := by kernel_rfl
def c63 : C := .seq
  (.reg [(none, (.box (.tmp 0), .some 3)), (none, (.box (.tmp 2), .some 5)), zV (.bool .false) 6] []) (.seq (.seq
  (.reg [zF 0 5 8, zL 8 9, zF 0 3 10, zL 10 11, zB .gtr 9 11 12] []) (.cond (.tmp 12) (.seq
  (.reg [zV (.bool .false) 6] []) .ret) .skip)) (.seq (.seq
  (.reg [zM 1 13, zI .eql 13 0 14] []) (.cond (.tmp 14) (.seq
  (.reg [zV (.bool .true) 6] []) .ret) .skip)) (.seq
  (.reg [zF 1 3 15, zL 15 16, zM 1 17, zI .sub 17 1 18, zJ 3 16 18 19, zN 3 19 20, (none, (.new [.int .u64 0, .int .u64 0, .slice none 0 0], .some 7)), zS 3 7 20] []) (.seq
  (.reg [zF 0 5 21, zL 21 22, zF 0 7 23, zL 23 24, zB .geq 22 24 25, zM 25 26, zG 26 true (zF 1 5 27), zG 26 true (zL 27 28), zG 26 true (zF 1 7 29), zG 26 true (zL 29 30), zG 26 true (zF 2 7 31), zG 26 true (zL 31 32), zG 26 true (zU 32 33), (.some (26, .true), (.cvt .u64 (.tmp 33), .some 34)), zG 26 true (zB .add 30 34 35), zG 26 true (zB .geq 28 35 36), (none, (.pick (.tmp 26) (.tmp 36) (.const (.bool .false)), .some 37)), zM 37 6] []) .ret))))
theorem b63 : Tryz.f63.body.bind (compC Tryz.prog) = some c63 := by kernel_rfl
theorem r63 : compR Tryz.prog Tryz.f63 = .some [.tmp 6] := by kernel_rfl
theorem n63 : (Tryz.f63.name == "runtime.NumGoroutine") = false := by kernel_rfl
def c69 : C := .seq
  (.reg [zM 0 4, zM 1 5, zU 5 6, (none, (.cvt .u64 (.tmp 6), .some 7)), zC 68 [4, 7] 8] [])
  (.reg [zM 0 9, zM 1 10, zC 129 [9, 10] 11] [])
theorem b69 : Tryz.f69.body.bind (compC Tryz.prog) = some c69 := by kernel_rfl
theorem r69 : compR Tryz.prog Tryz.f69 = .some [] := by kernel_rfl
theorem n69 : (Tryz.f69.name == "runtime.NumGoroutine") = false := by kernel_rfl
def c70 : C := .seq
  (.reg [zV (.slice none 0 0) 2, zV (.int .i64 0) 3] []) (.seq (.seq
  (.reg [zM 0 5, zC 130 [5] 6, zM 6 4] []) (.seq
  (.reg [zM 4 7, zI .neq 7 0 8] []) (.cond (.tmp 8) (.seq
  (.reg [zM 4 9, zV (.slice none 0 0) 2, zM 9 3] []) .ret) .skip))) (.seq
  (.reg [(none, (.bsl 1 [], .some 10)), zM 0 11, (none, (.nilc (.tmp 11), .some 12)), zF 1 12 13, zL 13 14, (none, (.app 1 1 (.tmp 10) (.tmp 14), .some 15)), zM 15 2, zV (.int .i64 0) 3] []) .ret))
theorem b70 : Tryz.f70.body.bind (compC Tryz.prog) = some c70 := by kernel_rfl
theorem r70 : compR Tryz.prog Tryz.f70 = .some [.tmp 2, .tmp 3] := by kernel_rfl
theorem n70 : (Tryz.f70.name == "runtime.NumGoroutine") = false := by kernel_rfl
def c72 : C := .seq
  (.reg [zV (.bool .false) 2] []) (.seq
  (.reg [zM 0 3, (none, (.bin .geq (.tmp 3) (.const (.int .u64 1)), .some 4)), zM 4 5, zG 5 true (zM 0 6), (.some (5, .true), (.bin .lss (.tmp 6) (.const (.int .u64 4611686018427387904)), .some 7)), (none, (.pick (.tmp 5) (.tmp 7) (.const (.bool .false)), .some 8)), zM 8 2] []) .ret)
theorem b72 : Tryz.f72.body.bind (compC Tryz.prog) = some c72 := by kernel_rfl
theorem r72 : compR Tryz.prog Tryz.f72 = .some [.tmp 2] := by kernel_rfl
theorem n72 : (Tryz.f72.name == "runtime.NumGoroutine") = false := by kernel_rfl
def c100 : C := .seq
  (.reg [(none, (.box (.tmp 0), .some 1)), zV (.slice none 0 0) 2] []) (.seq
  (.reg [zF 0 1 5, zL 5 6, zC 82 [6] 7, zF 1 1 8, zL 8 9, zC 82 [9] 10, (none, (.app 1 1 (.tmp 7) (.tmp 10), .some 11)), zM 11 3] [(1, 4), (2, 4)]) (.seq
  (.reg [zM 3 12, zF 2 1 13, zL 13 14, zU 14 15, (none, (.cvt .u8 (.tmp 15), .some 16)), (none, (.bsl 1 [.tmp 16], .some 17)), (none, (.app 1 1 (.tmp 12) (.tmp 17), .some 18)), zM 18 3] []) (.seq (.seq
  (.reg [zV (.int .i64 0) 4] []) (.block 0 (.loop (.seq (.seq
  (.reg [zM 4 19, zF 2 1 20, zL 20 21, zU 21 22, zB .lss 19 22 23] []) (.cond (.tmp 23) .skip (.exit 0))) (.seq (.block 1 (.seq
  (.reg [zM 3 26, zF 1 1 27, zL 27 28, zM 4 29, (none, (.cvt .u64 (.tmp 29), .some 30)), zB .add 28 30 31, zF 2 1 32, zL 32 33, zM 4 34, zJ 2 33 34 35, zF 0 35 36, zL 36 37, zC 149 [31, 37] 38, (none, (.app 1 1 (.tmp 26) (.tmp 38), .some 39)), zM 39 3] [(2, 7), (2, 11)])
  (.reg [zM 3 40, zF 2 1 41, zL 41 42, zM 4 43, zJ 2 42 43 44, zF 1 44 45, zL 45 46, zC 83 [46] 47, (none, (.app 1 1 (.tmp 40) (.tmp 47), .some 48)), zM 48 3] [])))
  (.reg [zM 4 24, zI .add 24 1 25, zM 25 4] [])))))) (.seq
  (.reg [zM 3 49, zM 49 2] []) .ret))))
theorem b100 : Tryz.f100.body.bind (compC Tryz.prog) = some c100 := by kernel_rfl
theorem r100 : compR Tryz.prog Tryz.f100 = .some [.tmp 2] := by kernel_rfl
theorem n100 : (Tryz.f100.name == "runtime.NumGoroutine") = false := by kernel_rfl
def c104 : C := .seq
  (.reg [zV (.int .u64 0) 2] []) (.scope (.seq
  (.reg [zV (.int .u64 0) 3] []) (.seq
  (.reg [zV (.int .u8 0) 4] []) (.seq
  (.reg [zM 0 7, zC 30 [7] 8, zV (.int .i64 0) 5, zM 8 6] []) (.seq (.label 0) (.seq
  (.reg [zM 0 9, zC 157 [9] 10, zM 10 4] []) (.seq (.block 0 (.seq
  (.reg [zM 0 12, zC 53 [12] 13, (none, (.un .not (.tmp 13), .some 14)), zM 14 11] []) (.cond (.tmp 11) (.seq
  (.reg [zV (.int .u64 0) 2] []) .ret) (.seq
  (.reg [zM 5 16, zI .eql 16 63 17, zM 17 18, zG 18 true (zM 4 19), (.some (18, .true), (.bin .gtr (.tmp 19) (.const (.int .u8 1)), .some 20)), (none, (.pick (.tmp 18) (.tmp 20) (.const (.bool .false)), .some 21)), zM 21 15] []) (.cond (.tmp 15) (.seq
  (.reg [zM 0 22, zM 0 23, zC 30 [23] 24, zI .sub 24 1 25, (none, (.call (.func 38) [.tmp 22, .const (.int .i64 5), .tmp 25], .some 26))] []) (.seq
  (.reg [zV (.int .u64 0) 2] []) .ret)) (.seq
  (.reg [zM 4 28, (none, (.bin .eql (.tmp 28) (.const (.int .u8 0)), .some 29)), zM 29 30, zG 30 true (zM 0 31), zG 30 true (zC 30 [31] 32), zG 30 true (zI .sub 32 1 33), zG 30 true (zM 6 34), zG 30 true (zB .gtr 33 34 35), (none, (.pick (.tmp 30) (.tmp 35) (.const (.bool .false)), .some 36)), zM 36 27] []) (.cond (.tmp 27) (.seq
  (.reg [zM 0 37, zM 0 38, zC 30 [38] 39, zI .sub 39 1 40, (none, (.call (.func 38) [.tmp 37, .const (.int .i64 4), .tmp 40], .some 41))] []) (.seq
  (.reg [zV (.int .u64 0) 2] []) .ret)) .skip))))))) (.seq
  (.reg [zM 3 42, zM 4 43, (none, (.bin .rem (.tmp 43) (.const (.int .u8 128)), .some 44)), (none, (.cvt .u64 (.tmp 44), .some 45)), zM 5 46, zB .shl 45 46 47, zB .or 42 47 48, zM 48 3] []) (.seq
  (.reg [zM 5 49, zI .add 49 7 50, zM 50 5] []) (.seq (.seq
  (.reg [zM 4 51, (none, (.bin .geq (.tmp 51) (.const (.int .u8 128)), .some 52))] []) (.cond (.tmp 52) (.goto 0) .skip)) (.seq
  (.reg [zM 3 53, zM 53 2] []) .ret)))))))))))
theorem b104 : Tryz.f104.body.bind (compC Tryz.prog) = some c104 := by kernel_rfl
theorem r104 : compR Tryz.prog Tryz.f104 = .some [.tmp 2] := by kernel_rfl
theorem n104 : (Tryz.f104.name == "runtime.NumGoroutine") = false := by kernel_rfl
def c105 : C := .seq
  (.reg [zV (.slice none 0 0) 4] []) (.seq
  (.reg [zM 0 6, zM 1 7, zC 49 [6, 7] 8, zM 8 5] []) (.seq
  (.reg [zM 0 9, zM 5 10, zC 106 [9, 10] 11, zM 11 4] []) .ret))
theorem b105 : Tryz.f105.body.bind (compC Tryz.prog) = some c105 := by kernel_rfl
theorem r105 : compR Tryz.prog Tryz.f105 = .some [.tmp 4] := by kernel_rfl
theorem n105 : (Tryz.f105.name == "runtime.NumGoroutine") = false := by kernel_rfl
def c107 : C := .seq
  (.reg [zV (.int .u32 0) 2] []) (.seq
  (.reg [zM 0 3, (none, (.un .xor (.tmp 3), .some 4)), zM 4 2] []) .ret)
theorem b107 : Tryz.f107.body.bind (compC Tryz.prog) = some c107 := by kernel_rfl
theorem r107 : compR Tryz.prog Tryz.f107 = .some [.tmp 2] := by kernel_rfl
theorem n107 : (Tryz.f107.name == "runtime.NumGoroutine") = false := by kernel_rfl
def c111 : C := .seq
  (.reg [zV (.int .i64 0) 2] []) (.seq (.seq
  (.reg [zM 0 3, (none, (.eqp .false (.tmp 3) (.const (.pointer none)), .some 4))] []) (.cond (.tmp 4) (.seq
  (.reg [zV (.int .i64 0) 2] []) .ret) .skip)) (.seq
  (.reg [zM 0 5, (none, (.nilc (.tmp 5), .some 6)), zF 0 6 7, zL 7 8, zU 8 9, zM 0 10, (none, (.nilc (.tmp 10), .some 11)), zF 1 11 12, zL 12 13, zB .sub 9 13 14, zM 14 2] [(3, 8)]) .ret))
theorem b111 : Tryz.f111.body.bind (compC Tryz.prog) = some c111 := by kernel_rfl
theorem r111 : compR Tryz.prog Tryz.f111 = .some [.tmp 2] := by kernel_rfl
theorem n111 : (Tryz.f111.name == "runtime.NumGoroutine") = false := by kernel_rfl
def c117 : C := .seq
  (.reg [zV (.int .i64 0) 2] []) (.seq
  (.reg [zM 0 3, (none, (.mx .false (.tmp 3) (.const (.int .i64 2097152)), .some 4)), zM 4 2] []) .ret)
theorem b117 : Tryz.f117.body.bind (compC Tryz.prog) = some c117 := by kernel_rfl
theorem r117 : compR Tryz.prog Tryz.f117 = .some [.tmp 2] := by kernel_rfl
theorem n117 : (Tryz.f117.name == "runtime.NumGoroutine") = false := by kernel_rfl
def c121 : C := .seq
  (.reg [zV (.slice none 0 0) 6] []) (.seq
  (.reg [zV (.slice none 0 0) 7] []) (.seq (.seq
  (.reg [zM 1 10, zV (.int .i64 0) 11] []) (.block 0 (.loop (.seq
  (.reg [zB .lss 11 10 12] []) (.seq (.cond (.tmp 12) .skip (.exit 0)) (.seq (.block 1 (.seq
  (.reg [zM 11 13, zM 13 8] []) (.seq
  (.reg [zM 2 14, zM 8 15, (none, (.call (.tmp 14) [.tmp 15], .some 16)), (none, (.new [.slice none 0 0, .slice none 0 0], .some 9)), zS 2 9 16] []) (.seq (.seq
  (.reg [zM 0 17, zC 53 [17] 18, (none, (.un .not (.tmp 18), .some 19))] []) (.cond (.tmp 19) (.seq
  (.reg [zV (.slice none 0 0) 6] []) .ret) .skip))
  (.reg [zM 7 20, zN 2 9 21, (none, (.bsl 2 [.tmp 21], .some 22)), (none, (.app 2 48 (.tmp 20) (.tmp 22), .some 23)), zM 23 7] [])))))
  (.reg [zI .add 11 1 24, zM 24 11] []))))))) (.seq
  (.reg [zM 7 25, zM 25 6] []) .ret)))
theorem b121 : Tryz.f121.body.bind (compC Tryz.prog) = some c121 := by kernel_rfl
theorem r121 : compR Tryz.prog Tryz.f121 = .some [.tmp 6] := by kernel_rfl
theorem n121 : (Tryz.f121.name == "runtime.NumGoroutine") = false := by kernel_rfl
def c128 : C := .seq
  (.reg [(none, (.box (.tmp 0), .some 2)), (none, (.box (.tmp 1), .some 3)), zV (.bool .false) 4] []) (.seq
  (.reg [zF 0 2 5, zL 5 6, zF 0 3 7, zL 7 8, zB .eql 6 8 9, zM 9 10, zG 10 true (zF 1 2 11), zG 10 true (zL 11 12), zG 10 true (zF 1 3 13), zG 10 true (zL 13 14), zG 10 true (zB .eql 12 14 15), (none, (.pick (.tmp 10) (.tmp 15) (.const (.bool .false)), .some 16)), zM 16 17, zG 17 true (zF 2 2 18), zG 17 true (zL 18 19), zG 17 true (zF 2 3 20), zG 17 true (zL 20 21), zG 17 true (zC 165 [19, 21] 22), (none, (.pick (.tmp 17) (.tmp 22) (.const (.bool .false)), .some 23)), zM 23 4] []) .ret)
theorem b128 : Tryz.f128.body.bind (compC Tryz.prog) = some c128 := by kernel_rfl
theorem r128 : compR Tryz.prog Tryz.f128 = .some [.tmp 4] := by kernel_rfl
theorem n128 : (Tryz.f128.name == "runtime.NumGoroutine") = false := by kernel_rfl
def c129 : C := .block 0 (.seq
  (.reg [zM 0 14, zC 130 [14] 15, zI .neq 15 0 16, zM 16 13] []) (.cond (.tmp 13) .skip (.seq
  (.reg [zM 1 18, zU 18 19, zM 0 20, zC 166 [20] 21, zB .gtr 19 21 22, zM 22 17] []) (.cond (.tmp 17)
  (.reg [zM 0 23, (none, (.call (.func 152) [.tmp 23, .const (.int .i64 2)], .some 24))] [])
  (.reg [zM 0 4, zM 0 5, (none, (.nilc (.tmp 5), .some 6)), zF 1 6 7, zL 7 8, zM 1 9, (none, (.app 1 1 (.tmp 8) (.tmp 9), .some 10)), (none, (.nilc (.tmp 4), .some 11)), zF 1 11 12, zS 1 12 10] [])))))
theorem b129 : Tryz.f129.body.bind (compC Tryz.prog) = some c129 := by kernel_rfl
theorem r129 : compR Tryz.prog Tryz.f129 = .some [] := by kernel_rfl
theorem n129 : (Tryz.f129.name == "runtime.NumGoroutine") = false := by kernel_rfl
def c131 : C := .seq
  (.reg [zV (.bool .false) 2] []) (.seq
  (.reg [zM 0 3, (none, (.bin .lss (.tmp 3) (.const (.int .u64 4611686018427387904)), .some 4)), zM 4 2] []) .ret)
theorem b131 : Tryz.f131.body.bind (compC Tryz.prog) = some c131 := by kernel_rfl
theorem r131 : compR Tryz.prog Tryz.f131 = .some [.tmp 2] := by kernel_rfl
theorem n131 : (Tryz.f131.name == "runtime.NumGoroutine") = false := by kernel_rfl
def c133 : C := .seq
  (.reg [zV (.int .i64 0) 2] []) (.seq
  (.reg [zM 0 3, zC 167 [3] 4, zI .add 4 4 5, zM 5 2] []) .ret)
theorem b133 : Tryz.f133.body.bind (compC Tryz.prog) = some c133 := by kernel_rfl
theorem r133 : compR Tryz.prog Tryz.f133 = .some [.tmp 2] := by kernel_rfl
theorem n133 : (Tryz.f133.name == "runtime.NumGoroutine") = false := by kernel_rfl
def c138 : C := .seq (.seq
  (.reg [zM 1 8, zM 2 9, zC 170 [8, 9] 10, (none, (.un .not (.tmp 10), .some 11))] []) (.cond (.tmp 11) (.seq
  (.reg [zM 0 12, (none, (.call (.func 152) [.tmp 12, .const (.int .i64 3)], .some 13))] []) .ret) .skip)) (.seq
  (.reg [zM 0 14, zM 2 15, zU 15 16, (none, (.cvt .u64 (.tmp 16), .some 17)), zC 68 [14, 17] 18] []) (.seq
  (.reg [zM 2 19, zC 171 [19] 20, zU 20 21, zV (.int .i64 0) 22] []) (.block 0 (.loop (.seq
  (.reg [zB .lss 22 21 23] []) (.seq (.cond (.tmp 23) .skip (.exit 0)) (.seq (.block 1 (.seq
  (.reg [zM 22 24, zJ 1 20 22 25, zL 25 26, zM 24 6, zM 26 7] []) (.seq
  (.reg [zM 0 27, zM 7 28, zC 68 [27, 28] 29] [])
  (.reg [zM 0 30, zM 1 31, zM 2 32, zM 6 33, zJ 2 32 33 34, zF 1 34 35, zL 35 36, zC 172 [30, 31, 36] 37] []))))
  (.reg [zI .add 22 1 38, zM 38 22] []))))))))
theorem b138 : Tryz.f138.body.bind (compC Tryz.prog) = some c138 := by kernel_rfl
theorem r138 : compR Tryz.prog Tryz.f138 = .some [] := by kernel_rfl
theorem n138 : (Tryz.f138.name == "runtime.NumGoroutine") = false := by kernel_rfl
def c139 : C := .seq
  (.reg [zV (.bool .false) 4] []) (.seq
  (.reg [zM 1 5, zI .geq 5 1 6, zM 6 7, zG 7 true (zM 1 8), zG 7 true (zI .leq 8 16 9), (none, (.pick (.tmp 7) (.tmp 9) (.const (.bool .false)), .some 10)), zM 10 11, zG 11 true (zM 0 12), zG 11 true (zC 132 [12] 13), (none, (.pick (.tmp 11) (.tmp 13) (.const (.bool .false)), .some 14)), zM 14 15, zG 15 true (zM 0 16), (.some (15, .true), (.bin .sub (.const (.int .u64 4611686018427387904)) (.tmp 16), .some 17)), zG 15 true (zM 1 18), (.some (15, .true), (.cvt .u64 (.tmp 18), .some 19)), zG 15 true (zB .geq 17 19 20), (none, (.pick (.tmp 15) (.tmp 20) (.const (.bool .false)), .some 21)), zM 21 4] []) .ret)
theorem b139 : Tryz.f139.body.bind (compC Tryz.prog) = some c139 := by kernel_rfl
theorem r139 : compR Tryz.prog Tryz.f139 = .some [.tmp 4] := by kernel_rfl
theorem n139 : (Tryz.f139.name == "runtime.NumGoroutine") = false := by kernel_rfl
def c143 : C := .seq
  (.reg [zV (.bool .false) 4] []) (.seq (.seq
  (.reg [zM 0 7, zU 7 8, zV (.int .i64 0) 9] []) (.block 0 (.loop (.seq
  (.reg [zB .lss 9 8 10] []) (.seq (.cond (.tmp 10) .skip (.exit 0)) (.seq (.block 1 (.seq
  (.reg [zM 9 11, zJ 2 7 9 12, zN 2 12 13, (none, (.new [.int .u64 0, .slice none 0 0], .some 6)), zM 11 5, zS 2 6 13] []) (.seq
  (.reg [zM 1 14, zM 5 15, zN 2 6 16, (none, (.call (.tmp 14) [.tmp 15, .tmp 16], .some 17)), (none, (.un .not (.tmp 17), .some 18))] []) (.cond (.tmp 18) (.seq
  (.reg [zV (.bool .false) 4] []) .ret) .skip))))
  (.reg [zI .add 9 1 19, zM 19 9] []))))))) (.seq
  (.reg [zV (.bool .true) 4] []) .ret))
theorem b143 : Tryz.f143.body.bind (compC Tryz.prog) = some c143 := by kernel_rfl
theorem r143 : compR Tryz.prog Tryz.f143 = .some [.tmp 4] := by kernel_rfl
theorem n143 : (Tryz.f143.name == "runtime.NumGoroutine") = false := by kernel_rfl
def c150 : C := .seq
  (.reg [zV (.int .i64 0) 2] []) (.seq
  (.reg [zV (.int .i64 1) 3] []) (.seq (.block 0 (.loop (.seq (.seq
  (.reg [zM 0 4, (none, (.bin .geq (.tmp 4) (.const (.int .u64 128)), .some 5))] []) (.cond (.tmp 5) .skip (.exit 0))) (.block 1 (.seq
  (.reg [zM 0 6, (none, (.bin .shr (.tmp 6) (.const (.int .u64 7)), .some 7)), zM 7 0] [])
  (.reg [zM 3 8, zI .add 8 1 9, zM 9 3] [])))))) (.seq
  (.reg [zM 3 10, zM 10 2] []) .ret)))
theorem b150 : Tryz.f150.body.bind (compC Tryz.prog) = some c150 := by kernel_rfl
theorem r150 : compR Tryz.prog Tryz.f150 = .some [.tmp 2] := by kernel_rfl
theorem n150 : (Tryz.f150.name == "runtime.NumGoroutine") = false := by kernel_rfl
def c151 : C := .seq
  (.reg [(none, (.box (.tmp 0), .some 1)), zV (.bool .false) 2] []) (.seq
  (.reg [zF 0 1 4, zL 4 5, zI .geq 5 1 6, zM 6 7, zG 7 true (zF 0 1 8), zG 7 true (zL 8 9), zG 7 true (zI .leq 9 3 10), (none, (.pick (.tmp 7) (.tmp 10) (.const (.bool .false)), .some 11)), zM 11 3] []) (.seq
  (.reg [zM 3 12, zM 12 13, zG 13 true (zF 1 1 14), zG 13 true (zL 14 15), zG 13 true (zC 72 [15] 16), (none, (.pick (.tmp 13) (.tmp 16) (.const (.bool .false)), .some 17)), zM 17 18, zG 18 true (zF 2 1 19), zG 18 true (zL 19 20), zG 18 true (zC 131 [20] 21), (none, (.pick (.tmp 18) (.tmp 21) (.const (.bool .false)), .some 22)), zM 22 23, zG 23 true (zF 0 1 24), zG 23 true (zL 24 25), zG 23 true (zC 156 [25] 26), zG 23 true (zM 26 27), zG 27 false (zF 2 1 28), zG 27 false (zL 28 29), (.some (27, .false), (.bin .eql (.tmp 29) (.const (.int .u64 0)), .some 30)), (.some (23, .true), (.pick (.tmp 27) (.const (.bool .true)) (.tmp 30), .some 31)), (none, (.pick (.tmp 23) (.tmp 31) (.const (.bool .false)), .some 32)), zM 32 2] []) .ret))
theorem b151 : Tryz.f151.body.bind (compC Tryz.prog) = some c151 := by kernel_rfl
theorem r151 : compR Tryz.prog Tryz.f151 = .some [.tmp 2] := by kernel_rfl
theorem n151 : (Tryz.f151.name == "runtime.NumGoroutine") = false := by kernel_rfl
def c156 : C := .seq
  (.reg [zV (.bool .false) 2] []) (.seq
  (.reg [zM 0 3, zI .eql 3 1 4, zM 4 2] []) .ret)
theorem b156 : Tryz.f156.body.bind (compC Tryz.prog) = some c156 := by kernel_rfl
theorem r156 : compR Tryz.prog Tryz.f156 = .some [.tmp 2] := by kernel_rfl
theorem n156 : (Tryz.f156.name == "runtime.NumGoroutine") = false := by kernel_rfl
def c167 : C := .seq
  (.reg [zV (.int .i64 0) 2] []) (.seq
  (.reg [zM 0 3, (none, (.mx .true (.tmp 3) (.const (.int .i64 0)), .some 4)), zM 4 0] []) (.seq
  (.reg [zM 0 5, (none, (.cvt .u64 (.tmp 5), .some 6)), zC 150 [6] 7, zM 0 8, zB .add 7 8 9, zM 9 2] []) .ret))
theorem b167 : Tryz.f167.body.bind (compC Tryz.prog) = some c167 := by kernel_rfl
theorem r167 : compR Tryz.prog Tryz.f167 = .some [.tmp 2] := by kernel_rfl
theorem n167 : (Tryz.f167.name == "runtime.NumGoroutine") = false := by kernel_rfl
def c169 : C := .seq (.seq
  (.reg [zM 2 6, (none, (.un .not (.tmp 6), .some 7))] []) (.cond (.tmp 7) (.seq
  (.reg [zM 0 8, (none, (.call (.func 152) [.tmp 8, .const (.int .i64 3)], .some 9))] []) .ret) .skip))
  (.reg [zM 0 10, zM 1 11, zC 68 [10, 11] 12] [])
theorem b169 : Tryz.f169.body.bind (compC Tryz.prog) = some c169 := by kernel_rfl
theorem r169 : compR Tryz.prog Tryz.f169 = .some [] := by kernel_rfl
theorem n169 : (Tryz.f169.name == "runtime.NumGoroutine") = false := by kernel_rfl
def c171 : C := .seq
  (.reg [zV (.slice none 0 0) 2] []) (.seq
  (.reg [zV (.slice none 0 0) 3] []) (.seq (.seq
  (.reg [zM 0 7, zU 7 8, zV (.int .i64 0) 9] []) (.block 0 (.loop (.seq
  (.reg [zB .lss 9 8 10] []) (.seq (.cond (.tmp 10) .skip (.exit 0)) (.seq (.block 1 (.seq
  (.reg [zM 9 11, zJ 2 7 9 12, zN 2 12 13, (none, (.new [.int .u64 0, .slice none 0 0], .some 5)), zM 11 4, zS 2 5 13] []) (.seq
  (.reg [zF 0 5 14, zL 14 15, zM 15 6] []) (.seq (.seq
  (.reg [zM 4 16, zI .gtr 16 0 17] []) (.cond (.tmp 17)
  (.reg [zM 6 18, zM 0 19, zM 4 20, zI .sub 20 1 21, zJ 2 19 21 22, zF 0 22 23, zL 23 24, (none, (.bin .add (.tmp 24) (.const (.int .u64 1)), .some 25)), zB .sub 18 25 26, zM 26 6] []) .skip))
  (.reg [zM 3 27, zM 6 28, (none, (.bsl 1 [.tmp 28], .some 29)), (none, (.app 1 8 (.tmp 27) (.tmp 29), .some 30)), zM 30 3] [])))))
  (.reg [zI .add 9 1 31, zM 31 9] []))))))) (.seq
  (.reg [zM 3 32, zM 32 2] []) .ret)))
theorem b171 : Tryz.f171.body.bind (compC Tryz.prog) = some c171 := by kernel_rfl
theorem r171 : compR Tryz.prog Tryz.f171 = .some [.tmp 2] := by kernel_rfl
theorem n171 : (Tryz.f171.name == "runtime.NumGoroutine") = false := by kernel_rfl
def c172 : C := .seq
  (.reg [zM 1 11, zM 2 12, zC 187 [11, 12] 13, zM 13 10, zE 10 0 14, zE 10 1 15, zM 14 6, zM 15 7] []) (.seq (.seq
  (.reg [zM 7 16, (none, (.un .not (.tmp 16), .some 17))] []) (.cond (.tmp 17) (.seq
  (.reg [zM 0 18, (none, (.call (.func 152) [.tmp 18, .const (.int .i64 3)], .some 19))] []) .ret) .skip)) (.seq
  (.reg [zM 0 20, zM 2 21, zU 21 22, (none, (.cvt .u64 (.tmp 22), .some 23)), zC 68 [20, 23] 24] []) (.seq
  (.reg [zM 6 25, zU 25 26, zV (.int .i64 0) 27] []) (.block 0 (.loop (.seq
  (.reg [zB .lss 27 26 28] []) (.seq (.cond (.tmp 28) .skip (.exit 0)) (.seq (.block 1 (.seq
  (.reg [zJ 1 25 27 29, zL 29 30, zM 30 9] [])
  (.reg [zM 0 31, zM 9 32, zC 68 [31, 32] 33] [])))
  (.reg [zI .add 27 1 34, zM 34 27] [])))))))))
theorem b172 : Tryz.f172.body.bind (compC Tryz.prog) = some c172 := by kernel_rfl
theorem r172 : compR Tryz.prog Tryz.f172 = .some [] := by kernel_rfl
theorem n172 : (Tryz.f172.name == "runtime.NumGoroutine") = false := by kernel_rfl
def c173 : C := .seq
  (.reg [zV (.bool .false) 4] []) (.seq (.seq
  (.reg [zM 1 6, zU 6 7, zI .gtr 7 16 8] []) (.cond (.tmp 8) (.seq
  (.reg [zV (.bool .false) 4] []) .ret) .skip)) (.seq (.seq
  (.reg [zV (.int .i64 0) 5] []) (.block 0 (.loop (.seq (.seq
  (.reg [zM 5 9, zM 1 10, zU 10 11, zB .lss 9 11 12] []) (.cond (.tmp 12) .skip (.exit 0))) (.seq (.block 1 (.seq
  (.reg [zM 5 15, zI .gtr 15 0 16, zM 16 17, zG 17 true (zM 1 18), zG 17 true (zM 5 19), zG 17 true (zJ 2 18 19 20), zG 17 true (zF 0 20 21), zG 17 true (zL 21 22), zG 17 true (zM 1 23), zG 17 true (zM 5 24), zG 17 true (zI .sub 24 1 25), zG 17 true (zJ 2 23 25 26), zG 17 true (zF 0 26 27), zG 17 true (zL 27 28), zG 17 true (zB .leq 22 28 29), (none, (.pick (.tmp 17) (.tmp 29) (.const (.bool .false)), .some 30)), zM 30 31, zG 31 false (zM 1 32), zG 31 false (zM 5 33), zG 31 false (zJ 2 32 33 34), zG 31 false (zF 1 34 35), zG 31 false (zL 35 36), zG 31 false (zU 36 37), zG 31 false (zI .gtr 37 4 38), (none, (.pick (.tmp 31) (.const (.bool .true)) (.tmp 38), .some 39)), zM 39 40, zG 40 false (zM 0 41), zG 40 false (zM 1 42), zG 40 false (zM 5 43), zG 40 false (zJ 2 42 43 44), zG 40 false (zF 1 44 45), zG 40 false (zL 45 46), zG 40 false (zC 188 [41, 46] 47), (.some (40, .false), (.un .not (.tmp 47), .some 48)), (none, (.pick (.tmp 40) (.const (.bool .true)) (.tmp 48), .some 49))] [(7, 13)]) (.cond (.tmp 49) (.seq
  (.reg [zV (.bool .false) 4] []) .ret) .skip)))
  (.reg [zM 5 13, zI .add 13 1 14, zM 14 5] [])))))) (.seq
  (.reg [zV (.bool .true) 4] []) .ret)))
theorem b173 : Tryz.f173.body.bind (compC Tryz.prog) = some c173 := by kernel_rfl
theorem r173 : compR Tryz.prog Tryz.f173 = .some [.tmp 4] := by kernel_rfl
theorem n173 : (Tryz.f173.name == "runtime.NumGoroutine") = false := by kernel_rfl
def c174 : C := .seq
  (.reg [zV (.bool .false) 2] []) (.seq (.seq
  (.reg [zV (.int .i64 0) 3] []) (.block 0 (.loop (.seq (.seq
  (.reg [zM 3 4, zM 0 5, zU 5 6, zB .lss 4 6 7, zM 7 8, zG 8 true (zM 3 9), zG 8 true (zI .lss 9 30 10), (none, (.pick (.tmp 8) (.tmp 10) (.const (.bool .false)), .some 11))] []) (.cond (.tmp 11) .skip (.exit 0))) (.seq (.block 1 (.seq
  (.reg [zM 0 14, zM 3 15, zJ 2 14 15 16, zN 2 16 17, zC 189 [17] 18] []) (.cond (.tmp 18) (.seq
  (.reg [zV (.bool .true) 2] []) .ret) .skip)))
  (.reg [zM 3 12, zI .add 12 1 13, zM 13 3] [])))))) (.seq
  (.reg [zM 0 19, zU 19 20, zI .gtr 20 30 21, zM 21 2] []) .ret))
theorem b174 : Tryz.f174.body.bind (compC Tryz.prog) = some c174 := by kernel_rfl
theorem r174 : compR Tryz.prog Tryz.f174 = .some [.tmp 2] := by kernel_rfl
theorem n174 : (Tryz.f174.name == "runtime.NumGoroutine") = false := by kernel_rfl
def c180 : C := .seq
  (.reg [(none, (.box (.tmp 0), .some 2)), (none, (.box (.tmp 1), .some 3)), zV (.bool .false) 4] []) (.seq
  (.reg [zF 0 2 5, zL 5 6, zF 0 3 7, zL 7 8, zC 192 [6, 8] 9, zM 9 10, zG 10 true (zF 1 2 11), zG 10 true (zL 11 12), zG 10 true (zF 1 3 13), zG 10 true (zL 13 14), zG 10 true (zC 19 [12, 14] 15), (none, (.pick (.tmp 10) (.tmp 15) (.const (.bool .false)), .some 16)), zM 16 4] []) .ret)
theorem b180 : Tryz.f180.body.bind (compC Tryz.prog) = some c180 := by kernel_rfl
theorem r180 : compR Tryz.prog Tryz.f180 = .some [.tmp 4] := by kernel_rfl
theorem n180 : (Tryz.f180.name == "runtime.NumGoroutine") = false := by kernel_rfl
def c187 : C := .seq
  (.reg [zV (.slice none 0 0) 4, zV (.bool .false) 5] []) (.seq
  (.reg [zV (.slice none 0 0) 6] []) (.seq (.seq
  (.reg [zM 1 9, zU 9 10, zV (.int .i64 0) 11] []) (.block 0 (.loop (.seq
  (.reg [zB .lss 11 10 12] []) (.seq (.cond (.tmp 12) .skip (.exit 0)) (.seq (.block 1 (.seq
  (.reg [zJ 1 9 11 13, zL 13 14, zM 14 8] []) (.seq (.seq
  (.reg [zM 8 15, zM 0 16, zB .geq 15 16 17] []) (.cond (.tmp 17) (.seq
  (.reg [zV (.slice none 0 0) 4, zV (.bool .false) 5] []) .ret) .skip)) (.seq
  (.reg [zM 6 18, zM 0 19, zM 8 20, zB .sub 19 20 21, (none, (.bin .sub (.tmp 21) (.const (.int .u64 1)), .some 22)), (none, (.bsl 1 [.tmp 22], .some 23)), (none, (.app 1 8 (.tmp 18) (.tmp 23), .some 24)), zM 24 6] [])
  (.reg [zM 8 25, zM 25 0] [])))))
  (.reg [zI .add 11 1 26, zM 26 11] []))))))) (.seq
  (.reg [zM 6 27, zM 27 4, zV (.bool .true) 5] []) .ret)))
theorem b187 : Tryz.f187.body.bind (compC Tryz.prog) = some c187 := by kernel_rfl
theorem r187 : compR Tryz.prog Tryz.f187 = .some [.tmp 4, .tmp 5] := by kernel_rfl
theorem n187 : (Tryz.f187.name == "runtime.NumGoroutine") = false := by kernel_rfl
def c188 : C := .seq
  (.reg [zV (.bool .false) 4] []) (.seq (.seq
  (.reg [zV (.int .i64 0) 5] []) (.block 0 (.loop (.seq (.seq
  (.reg [zM 5 6, zM 1 7, zU 7 8, zB .lss 6 8 9] []) (.cond (.tmp 9) .skip (.exit 0))) (.seq (.block 1 (.seq
  (.reg [zM 5 12, zI .eql 12 0 13, zM 13 14, zG 14 true (zM 1 15), (.some (14, .true), (.iadr 1 (.tmp 15) (.const (.int .i64 0)), .some 16)), zG 14 true (zL 16 17), zG 14 true (zM 0 18), zG 14 true (zB .geq 17 18 19), (none, (.pick (.tmp 14) (.tmp 19) (.const (.bool .false)), .some 20)), zM 20 21, zG 21 false (zM 5 22), zG 21 false (zI .gtr 22 0 23), zG 21 false (zM 23 24), zG 24 true (zM 1 25), zG 24 true (zM 5 26), zG 24 true (zJ 1 25 26 27), zG 24 true (zL 27 28), zG 24 true (zM 1 29), zG 24 true (zM 5 30), zG 24 true (zI .sub 30 1 31), zG 24 true (zJ 1 29 31 32), zG 24 true (zL 32 33), zG 24 true (zB .geq 28 33 34), (.some (21, .false), (.pick (.tmp 24) (.tmp 34) (.const (.bool .false)), .some 35)), (none, (.pick (.tmp 21) (.const (.bool .true)) (.tmp 35), .some 36))] [(16, 21)]) (.cond (.tmp 36) (.seq
  (.reg [zV (.bool .false) 4] []) .ret) .skip)))
  (.reg [zM 5 10, zI .add 10 1 11, zM 11 5] [])))))) (.seq
  (.reg [zV (.bool .true) 4] []) .ret))
theorem b188 : Tryz.f188.body.bind (compC Tryz.prog) = some c188 := by kernel_rfl
theorem r188 : compR Tryz.prog Tryz.f188 = .some [.tmp 4] := by kernel_rfl
theorem n188 : (Tryz.f188.name == "runtime.NumGoroutine") = false := by kernel_rfl
def c189 : C := .seq
  (.reg [(none, (.box (.tmp 0), .some 1)), zV (.bool .false) 2] []) (.seq
  (.reg [zF 0 1 3, zL 3 4, zC 193 [4] 5, zM 5 6, zG 6 false (zF 1 1 7), zG 6 false (zL 7 8), zG 6 false (zU 8 9), zG 6 false (zI .gtr 9 500 10), (none, (.pick (.tmp 6) (.const (.bool .true)) (.tmp 10), .some 11)), zM 11 2] []) .ret)
theorem b189 : Tryz.f189.body.bind (compC Tryz.prog) = some c189 := by kernel_rfl
theorem r189 : compR Tryz.prog Tryz.f189 = .some [.tmp 2] := by kernel_rfl
theorem n189 : (Tryz.f189.name == "runtime.NumGoroutine") = false := by kernel_rfl
def c194 : C := .seq
  (.reg [zV (.bool .false) 6] []) (.seq (.seq
  (.reg [zM 0 10, zU 10 11, zM 1 12, zU 12 13, zB .neq 11 13 14] []) (.cond (.tmp 14) (.seq
  (.reg [zV (.bool .false) 6] []) .ret) .skip)) (.seq (.seq
  (.reg [zM 0 15, zU 15 16, zV (.int .i64 0) 17] []) (.block 0 (.loop (.seq
  (.reg [zB .lss 17 16 18] []) (.seq (.cond (.tmp 18) .skip (.exit 0)) (.seq (.block 1 (.seq
  (.reg [zM 17 19, zJ 2 15 17 20, zN 2 20 21, (none, (.new [.int .u64 0, .slice none 0 0], .some 8)), zM 19 7, zS 2 8 21] []) (.seq
  (.reg [zM 1 22, zM 7 23, zJ 2 22 23 24, zN 2 24 25, (none, (.new [.int .u64 0, .slice none 0 0], .some 9)), zS 2 9 25] []) (.seq
  (.reg [zM 2 26, zN 2 8 27, zN 2 9 28, (none, (.call (.tmp 26) [.tmp 27, .tmp 28], .some 29)), (none, (.un .not (.tmp 29), .some 30))] []) (.cond (.tmp 30) (.seq
  (.reg [zV (.bool .false) 6] []) .ret) .skip)))))
  (.reg [zI .add 17 1 31, zM 31 17] []))))))) (.seq
  (.reg [zV (.bool .true) 6] []) .ret)))
theorem b194 : Tryz.f194.body.bind (compC Tryz.prog) = some c194 := by kernel_rfl
theorem r194 : compR Tryz.prog Tryz.f194 = .some [.tmp 6] := by kernel_rfl
theorem n194 : (Tryz.f194.name == "runtime.NumGoroutine") = false := by kernel_rfl
def c196 : C := .seq
  (.reg [zV (.bool .false) 4] []) (.seq (.seq
  (.reg [zM 0 6, zU 6 7, zM 1 8, zU 8 9, zB .neq 7 9 10] []) (.cond (.tmp 10) (.seq
  (.reg [zV (.bool .false) 4] []) .ret) .skip)) (.seq (.seq
  (.reg [zM 0 11, zU 11 12, zV (.int .i64 0) 13] []) (.block 0 (.loop (.seq
  (.reg [zB .lss 13 12 14] []) (.seq (.cond (.tmp 14) .skip (.exit 0)) (.seq (.block 1 (.seq
  (.reg [zM 13 15, zM 15 5] []) (.seq
  (.reg [zM 0 16, zM 5 17, zJ 1 16 17 18, zL 18 19, zM 1 20, zM 5 21, zJ 1 20 21 22, zL 22 23, zB .neq 19 23 24] [(3, 7)]) (.cond (.tmp 24) (.seq
  (.reg [zV (.bool .false) 4] []) .ret) .skip))))
  (.reg [zI .add 13 1 25, zM 25 13] []))))))) (.seq
  (.reg [zV (.bool .true) 4] []) .ret)))
theorem b196 : Tryz.f196.body.bind (compC Tryz.prog) = some c196 := by kernel_rfl
theorem r196 : compR Tryz.prog Tryz.f196 = .some [.tmp 4] := by kernel_rfl
theorem n196 : (Tryz.f196.name == "runtime.NumGoroutine") = false := by kernel_rfl
def c198 : C := .seq
  (.reg [zV (.bool .false) 4] []) (.seq (.seq
  (.reg [zM 0 6, zU 6 7, zM 1 8, zU 8 9, zB .neq 7 9 10] []) (.cond (.tmp 10) (.seq
  (.reg [zV (.bool .false) 4] []) .ret) .skip)) (.seq (.seq
  (.reg [zV (.int .i64 0) 5] []) (.block 0 (.loop (.seq (.seq
  (.reg [zM 5 11, zM 0 12, zU 12 13, zB .lss 11 13 14] []) (.cond (.tmp 14) .skip (.exit 0))) (.seq (.block 1 (.seq
  (.reg [zM 0 17, zM 5 18, zJ 1 17 18 19, zL 19 20, zM 1 21, zM 5 22, zJ 1 21 22 23, zL 23 24, zB .neq 20 24 25] [(3, 7)]) (.cond (.tmp 25) (.seq
  (.reg [zV (.bool .false) 4] []) .ret) .skip)))
  (.reg [zM 5 15, zI .add 15 1 16, zM 16 5] [])))))) (.seq
  (.reg [zV (.bool .true) 4] []) .ret)))
theorem b198 : Tryz.f198.body.bind (compC Tryz.prog) = some c198 := by kernel_rfl
theorem r198 : compR Tryz.prog Tryz.f198 = .some [.tmp 4] := by kernel_rfl
theorem n198 : (Tryz.f198.name == "runtime.NumGoroutine") = false := by kernel_rfl
end Go.Proofs.YtnfagphepkeedaaGreat
end
