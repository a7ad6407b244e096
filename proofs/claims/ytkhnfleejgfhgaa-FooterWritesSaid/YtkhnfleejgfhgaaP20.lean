/-
  Plain laws of chapter 33: footers. No program.
-/
import Derived.Test.YtkhnfleejgfhgaaP19
set_option linter.all false
set_option linter.unusedSimpArgs false
set_option linter.unusedVariables false
set_option linter.unnecessarySimpa false
namespace Go.Proofs.Ytkhnfleejgfhgaa

/-- A footer. -/
structure Ft where
  ep : Int
  bat : Int
  ent : Int
  fst : Int
  fin : Int
  at_ : Int
  size : Int
  deriving DecidableEq
def ft0 : Ft := ⟨0, 0, 0, 0, 0, 0, 0⟩
structure Ft.ok (f : Ft) : Prop where
  ep : 0 ≤ f.ep ∧ f.ep < 18446744073709551616
  bat : -9223372036854775808 ≤ f.bat ∧ f.bat < 9223372036854775808
  ent : -9223372036854775808 ≤ f.ent ∧ f.ent < 9223372036854775808
  fst : 0 ≤ f.fst ∧ f.fst < 18446744073709551616
  fin : 0 ≤ f.fin ∧ f.fin < 18446744073709551616
  at_ : -9223372036854775808 ≤ f.at_ ∧ f.at_ < 9223372036854775808
  size : -9223372036854775808 ≤ f.size ∧ f.size < 9223372036854775808
def spansF (f : Ft) : Bool := if f.bat = 0 then decide (f.fst = 0 ∧ f.fin = 0) else decide (f.fst < f.fin ∧ f.fin ≤ 4611686018427387904 ∧ f.ent ≤ f.fin - f.fst)
def rightF (f : Ft) : Bool := epRight f.ep && decide (0 ≤ f.bat ∧ f.bat ≤ 16 ∧ f.bat ≤ f.ent ∧ f.ent ≤ 16 * f.bat) && decide (1 ≤ f.at_ ∧ f.at_ ≤ 1099511627775 ∧ 1 ≤ f.size ∧ f.size ≤ 2097152) && spansF f
theorem spansF_iff {f : Ft} : spansF f = true ↔ (f.bat = 0 → f.fst = 0 ∧ f.fin = 0) ∧ (¬ f.bat = 0 → f.fst < f.fin ∧ f.fin ≤ 4611686018427387904 ∧ f.ent ≤ f.fin - f.fst) := by
  unfold spansF
  split <;> rename_i h <;> simp [h]
theorem rightF_iff {f : Ft} : rightF f = true ↔ (1 ≤ f.ep ∧ f.ep < 4611686018427387904) ∧ (0 ≤ f.bat ∧ f.bat ≤ 16 ∧ f.bat ≤ f.ent ∧ f.ent ≤ 16 * f.bat) ∧ (1 ≤ f.at_ ∧ f.at_ ≤ 1099511627775 ∧ 1 ≤ f.size ∧ f.size ≤ 2097152) ∧ spansF f = true := by
  simp only [rightF, Bool.and_eq_true, decide_eq_true_eq, epRight_iff, and_assoc]
/-- A footer's payload. -/
def payB (f : Ft) : List Int := [3] ++ vb f.ep ++ vb f.bat ++ vb f.ent ++ vb f.fst ++ vb f.fin ++ vb f.at_ ++ vb f.size
def trailB (x : Int) : List Int := lowBytes 4 x ++ lowBytes 4 (crcI (lowBytes 4 x)) ++ [76, 79, 72, 84]
def footB (f : Ft) : List Int := frameB (payB f) ++ trailB (frameB (payB f)).length
/-- The reader behind a footer's kind, and behind its numbers. -/
def RS.fkind (s : RS) : RS := if (s.take 1).1.code = 0 ∧ ¬ (s.take 1).2.getD 0 0 = 3 then (s.take 1).1.fail 7 0 else (s.take 1).1
def RS.fnums (s : RS) : RS × Ft :=
  let a := s.epo epRight
  let b := a.1.int 65536
  let c := b.1.int 65536
  let d := c.1.vint
  let e := d.1.vint
  let f := e.1.int 1099511627776
  let g := f.1.int 1099511627776
  (g.1, ⟨a.2, b.2, c.2, d.2, e.2, f.2, g.2⟩)
def RS.rest9 (s : RS) : RS := if 0 < s.left then s.fail 9 s.at_ else s
def RS.fcheck (s : RS) (f : Ft) : RS := if rightF f = true then s else s.fail 3 0
def RS.foot (s : RS) : RS × Ft := ((s.fkind.fnums.1.fcheck s.fkind.fnums.2).rest9, s.fkind.fnums.2)
/-- The footer that a payload is, and the fault. -/
def readFt (p : List Int) : Ft × (Int × Int) := if (RS.new p).foot.1.code = 0 then ((RS.new p).foot.2, (0, 0)) else (ft0, ((RS.new p).foot.1.code, (RS.new p).foot.1.fat))
theorem fkind_keep {s : RS} (h : ROk s) : ROk s.fkind ∧ s.fkind.l = s.l := by
  have a := h.take 1
  have b := (h.ok.take 1).2
  unfold RS.fkind; split
  · exact ⟨a.fail _ _, by rw [fail_l]; exact b⟩
  · exact ⟨a, b⟩
theorem fnums_keep {s : RS} (h : ROk s) : ROk s.fnums.1 ∧ s.fnums.1.l = s.l := by
  unfold RS.fnums
  simp only
  obtain ⟨a, a'⟩ := epo_keep h epRight
  obtain ⟨b, b'⟩ := a.int 65536
  obtain ⟨c, c'⟩ := b.int 65536
  obtain ⟨d, d'⟩ := c.vint
  obtain ⟨e, e'⟩ := d.vint
  obtain ⟨f, f'⟩ := e.int 1099511627776
  obtain ⟨g, g'⟩ := f.int 1099511627776
  exact ⟨g, g'.trans (f'.trans (e'.trans (d'.trans (c'.trans (b'.trans a')))))⟩
theorem vint_cut_at {s : RS} (h : ROk s) (hc : s.vint.1.code = 0) : s.at_ < s.vint.1.at_ := by have := vint_adv h hc; omega
theorem rest9_code {s : RS} (h : s.rest9.code = 0) : s.code = 0 ∧ s.left ≤ 0 ∧ s.rest9 = s := by
  unfold RS.rest9 at h ⊢
  by_cases hl : 0 < s.left
  · rw [if_pos hl] at h
    by_cases hc : s.code = 0
    · exact absurd h (fail_not0 _ _ hc (by decide))
    · unfold RS.fail at h; rw [if_neg hc] at h; exact absurd h hc
  · rw [if_neg hl] at h ⊢; exact ⟨h, by omega, rfl⟩
theorem fcheck_code {s : RS} {f : Ft} (h : (s.fcheck f).code = 0) : s.code = 0 ∧ rightF f = true ∧ s.fcheck f = s := by
  unfold RS.fcheck at h ⊢
  by_cases hr : rightF f = true
  · rw [if_pos hr] at h ⊢; exact ⟨h, hr, rfl⟩
  · rw [if_neg hr] at h
    by_cases hc : s.code = 0
    · exact absurd h (fail_not0 _ _ hc (by decide))
    · unfold RS.fail at h; rw [if_neg hc] at h; exact absurd h hc
theorem fkind_is {s : RS} (h : ROk s) (hc : s.fkind.code = 0) : s.code = 0 ∧ s.fkind.at_ = s.at_ + 1 ∧ s.l.take s.fkind.at_.toNat = s.l.take s.at_.toNat ++ [3] := by
  unfold RS.fkind at hc ⊢
  by_cases hx : (s.take 1).1.code = 0 ∧ ¬ (s.take 1).2.getD 0 0 = 3
  · rw [if_pos hx] at hc; exact absurd hc (fail_not0 _ _ hx.1 (by decide))
  · rw [if_neg hx] at hc ⊢
    obtain ⟨t1, t2, t3, t4, t5⟩ := take_bytes h hc
    have e3 : (s.take 1).2.getD 0 0 = 3 := by
      by_cases he : (s.take 1).2.getD 0 0 = 3
      · exact he
      · exact absurd ⟨hc, he⟩ hx
    have e : (s.take 1).2 = [3] := by
      match hx : (s.take 1).2, t3 with
      | [x], _ => rw [hx] at e3; simp at e3; rw [e3]
      | [], t3 => simp at t3
      | x :: y :: z, t3 => simp only [List.length_cons] at t3; omega
    rw [e] at t5
    exact ⟨t1, t4, t5⟩
theorem int_is {s : RS} (h : ROk s) {m : Int} (hc : (s.int m).1.code = 0) : s.code = 0 ∧ 0 ≤ (s.int m).2 ∧ (s.int m).2 ≤ m ∧ s.l.take (s.int m).1.at_.toNat = s.l.take s.at_.toNat ++ vb (s.int m).2 := by
  obtain ⟨a, b, c, _, e⟩ := int_bytes h hc
  exact ⟨a, b, c, e⟩
/-- What was read of a footer's numbers. -/
theorem fnums_is {s : RS} (h : ROk s) (hc : s.fnums.1.code = 0) : s.code = 0 ∧ s.fnums.2.ok ∧ s.l.take s.fnums.1.at_.toNat = s.l.take s.at_.toNat ++ (vb s.fnums.2.ep ++ vb s.fnums.2.bat ++ vb s.fnums.2.ent ++ vb s.fnums.2.fst ++ vb s.fnums.2.fin ++ vb s.fnums.2.at_ ++ vb s.fnums.2.size) := by
  unfold RS.fnums at hc ⊢
  simp only at hc ⊢
  obtain ⟨a, a'⟩ := epo_keep h epRight
  obtain ⟨b, b'⟩ := a.int 65536
  obtain ⟨c, c'⟩ := b.int 65536
  obtain ⟨d, d'⟩ := c.vint
  obtain ⟨e, e'⟩ := d.vint
  obtain ⟨f, f'⟩ := e.int 1099511627776
  obtain ⟨g1, g2, g3, g4⟩ := int_is f hc
  obtain ⟨f1, f2, f3, f4⟩ := int_is e g1
  obtain ⟨e4, _, e1⟩ := vint_bytes d f1
  have e2 := vint_range (s := (((s.epo epRight).1.int 65536).1.int 65536).1.vint.1) d.bys
  obtain ⟨d4, _, d1⟩ := vint_bytes c e1
  have d2 := vint_range (s := (((s.epo epRight).1.int 65536).1.int 65536).1) c.bys
  obtain ⟨c1, c2, c3, c4⟩ := int_is b d1
  obtain ⟨b1, b2, b3, b4⟩ := int_is a c1
  obtain ⟨a1, a2, a3, _, _, a4⟩ := epo_is h b1
  refine ⟨a1, ⟨⟨a2, a3⟩, by simp only; omega, by simp only; omega, d2, e2, by simp only; omega, by simp only; omega⟩, ?_⟩
  rw [f', e', d', c', b', a'] at g4
  rw [e', d', c', b', a'] at f4
  rw [d', c', b', a'] at e4
  rw [c', b', a'] at d4
  rw [b', a'] at c4
  rw [a'] at b4
  rw [g4, f4, e4, d4, c4, b4, a4]
  simp only [List.append_assoc]
/-- What was read of a footer. -/
theorem foot_is {p : List Int} (hp : Bys p) (hn : p.length ≤ 140737488355328) (hc : (RS.new p).foot.1.code = 0) : rightF (RS.new p).foot.2 = true ∧ (RS.new p).foot.2.ok ∧ p = payB (RS.new p).foot.2 := by
  have h : ROk (RS.new p) := ROk.new hp hn
  obtain ⟨r1, r2, r3⟩ := rest9_code hc
  obtain ⟨k1, k2, k3⟩ := fcheck_code r1
  obtain ⟨q1, q2⟩ := fkind_keep h
  obtain ⟨n1, n2, n3⟩ := fnums_is q1 k1
  obtain ⟨m1, m2, m3⟩ := fkind_is h n1
  rw [k3] at r2
  obtain ⟨z1, z2⟩ := fnums_keep q1
  refine ⟨k2, n2, ?_⟩
  rw [q2, m3] at n3
  have e0 : (RS.new p).l.take (RS.new p).at_.toNat = [] := by simp [RS.new]
  have e1 : (RS.new p).l = p := rfl
  rw [e0, e1, List.nil_append] at n3
  have ha := z1.at0
  have hl : p.length ≤ (RS.new p).fkind.fnums.1.at_.toNat := by
    unfold RS.left at r2
    rw [z2, q2, e1] at r2
    omega
  rw [List.take_of_length_le hl] at n3
  unfold payB
  simp only [List.append_assoc] at n3 ⊢
  exact n3
theorem payB_len (f : Ft) : 8 ≤ (payB f).length ∧ (payB f).length ≤ 71 := by
  unfold payB
  have h1 := vb_len f.ep
  have h2 := vb_len f.bat
  have h3 := vb_len f.ent
  have h4 := vb_len f.fst
  have h5 := vb_len f.fin
  have h6 := vb_len f.at_
  have h7 := vb_len f.size
  simp only [List.length_append, List.length_cons, List.length_nil]; omega
theorem rightF_nums {f : Ft} (hf : f.ok) (hr : rightF f = true) : (0 ≤ f.bat ∧ f.bat ≤ 16) ∧ (0 ≤ f.ent ∧ f.ent ≤ 256) ∧ (f.fst < 18446744073709551616) ∧ (1 ≤ f.at_ ∧ f.at_ ≤ 1099511627775) ∧ (1 ≤ f.size ∧ f.size ≤ 2097152) := by
  obtain ⟨a, b, c, d⟩ := rightF_iff.1 hr
  have := hf.fst
  omega
theorem payB_bys {f : Ft} (hf : f.ok) (hr : rightF f = true) : Bys (payB f) := by
  obtain ⟨a, b, c, d, e⟩ := rightF_nums hf hr
  have app : ∀ {x y : List Int}, Bys x → Bys y → Bys (x ++ y) := fun hx hy z hz => by rcases List.mem_append.1 hz with hz | hz; exact hx z hz; exact hy z hz
  unfold payB
  refine app (app (app (app (app (app (app ?_ ?_) ?_) ?_) ?_) ?_) ?_) ?_
  · intro y hy; simp at hy; omega
  · exact vb_by hf.ep.1 hf.ep.2
  · exact vb_by (by omega) (by omega)
  · exact vb_by (by omega) (by omega)
  · exact vb_by hf.fst.1 hf.fst.2
  · exact vb_by hf.fin.1 hf.fin.2
  · exact vb_by (by omega) (by omega)
  · exact vb_by (by omega) (by omega)
/-- A footer's payload that is written is read so. -/
theorem foot_own {f : Ft} (hf : f.ok) (hr : rightF f = true) : (RS.new (payB f)).foot = ((RS.new (payB f)).adv ((payB f).length : Int), f) := by
  obtain ⟨n1, n2, n3, n4, n5⟩ := rightF_nums hf hr
  obtain ⟨k1, _, _, _⟩ := rightF_iff.1 hr
  have hb := payB_bys hf hr
  have hl := payB_len f
  have h0 : ROk (RS.new (payB f)) := ROk.new hb (by omega)
  have e0 : (RS.new (payB f)).rest = [3] ++ (vb f.ep ++ (vb f.bat ++ (vb f.ent ++ (vb f.fst ++ (vb f.fin ++ (vb f.at_ ++ (vb f.size ++ []))))))) := by
    rw [new_rest]; unfold payB; simp only [List.append_assoc, List.append_nil]
  have t1 := take_own h0 rfl e0
  have t1' : (RS.new (payB f)).take 1 = ((RS.new (payB f)).adv 1, [3]) := t1
  have hk : (RS.new (payB f)).fkind = (RS.new (payB f)).adv 1 := by unfold RS.fkind; rw [t1']; simp
  have h1 : ROk ((RS.new (payB f)).adv 1) := adv_ok h0 e0
  have e1 : ((RS.new (payB f)).adv 1).rest = vb f.ep ++ (vb f.bat ++ (vb f.ent ++ (vb f.fst ++ (vb f.fin ++ (vb f.at_ ++ (vb f.size ++ [])))))) := by
    have := adv_rest (s := RS.new (payB f)) h0.at0 1
    rw [e0] at this; exact this
  generalize hs1 : (RS.new (payB f)).adv 1 = s1 at *
  have c1 : s1.code = 0 := by rw [← hs1]; rfl
  have a2 := epo_own (ok := epRight) c1 hf.ep.1 hf.ep.2 (epRight_iff.2 k1) e1
  have h2 := adv_ok h1 e1
  have e2 : (s1.adv ((vb f.ep).length : Int)).rest = vb f.bat ++ (vb f.ent ++ (vb f.fst ++ (vb f.fin ++ (vb f.at_ ++ (vb f.size ++ []))))) := by rw [adv_rest h1.at0, e1, List.drop_left]
  generalize hs2 : s1.adv ((vb f.ep).length : Int) = s2 at *
  have c2 : s2.code = 0 := by rw [← hs2]; exact c1
  have a3 := int_own (m := 65536) c2 n1.1 (by omega) (by omega) e2
  have h3 := adv_ok h2 e2
  have e3 : (s2.adv ((vb f.bat).length : Int)).rest = vb f.ent ++ (vb f.fst ++ (vb f.fin ++ (vb f.at_ ++ (vb f.size ++ [])))) := by rw [adv_rest h2.at0, e2, List.drop_left]
  generalize hs3 : s2.adv ((vb f.bat).length : Int) = s3 at *
  have c3 : s3.code = 0 := by rw [← hs3]; exact c2
  have a4 := int_own (m := 65536) c3 n2.1 (by omega) (by omega) e3
  have h4 := adv_ok h3 e3
  have e4 : (s3.adv ((vb f.ent).length : Int)).rest = vb f.fst ++ (vb f.fin ++ (vb f.at_ ++ (vb f.size ++ []))) := by rw [adv_rest h3.at0, e3, List.drop_left]
  generalize hs4 : s3.adv ((vb f.ent).length : Int) = s4 at *
  have c4 : s4.code = 0 := by rw [← hs4]; exact c3
  have a5 := vint_own c4 hf.fst.1 hf.fst.2 e4
  have h5 := adv_ok h4 e4
  have e5 : (s4.adv ((vb f.fst).length : Int)).rest = vb f.fin ++ (vb f.at_ ++ (vb f.size ++ [])) := by rw [adv_rest h4.at0, e4, List.drop_left]
  generalize hs5 : s4.adv ((vb f.fst).length : Int) = s5 at *
  have c5 : s5.code = 0 := by rw [← hs5]; exact c4
  have a6 := vint_own c5 hf.fin.1 hf.fin.2 e5
  have h6 := adv_ok h5 e5
  have e6 : (s5.adv ((vb f.fin).length : Int)).rest = vb f.at_ ++ (vb f.size ++ []) := by rw [adv_rest h5.at0, e5, List.drop_left]
  generalize hs6 : s5.adv ((vb f.fin).length : Int) = s6 at *
  have c6 : s6.code = 0 := by rw [← hs6]; exact c5
  have a7 := int_own (m := 1099511627776) c6 (by omega) (by omega) (by omega) e6
  have h7 := adv_ok h6 e6
  have e7 : (s6.adv ((vb f.at_).length : Int)).rest = vb f.size ++ [] := by rw [adv_rest h6.at0, e6, List.drop_left]
  generalize hs7 : s6.adv ((vb f.at_).length : Int) = s7 at *
  have c7 : s7.code = 0 := by rw [← hs7]; exact c6
  have a8 := int_own (m := 1099511627776) c7 (by omega) (by omega) (by omega) e7
  have hfn : s1.fnums = (s7.adv ((vb f.size).length : Int), f) := by
    unfold RS.fnums
    simp only [a2, a3, a4, a5, a6, a7, a8]
  have hend : s7.adv ((vb f.size).length : Int) = (RS.new (payB f)).adv ((payB f).length : Int) := by
    rw [← hs7, ← hs6, ← hs5, ← hs4, ← hs3, ← hs2, ← hs1]
    simp only [adv_adv]
    congr 1
    unfold payB
    simp only [List.length_append, List.length_cons, List.length_nil]; omega
  have hleft : ((RS.new (payB f)).adv ((payB f).length : Int)).left = 0 := by unfold RS.left RS.adv RS.new; simp
  unfold RS.foot
  rw [hk, hfn]; simp only
  unfold RS.fcheck
  rw [if_pos hr]
  unfold RS.rest9
  rw [hend, hleft]; simp
theorem readFt_own {f : Ft} (hf : f.ok) (hr : rightF f = true) : readFt (payB f) = (f, (0, 0)) := by
  unfold readFt
  rw [foot_own hf hr]; simp only
  rw [if_pos (show ((RS.new (payB f)).adv ((payB f).length : Int)).code = 0 from rfl)]
end Go.Proofs.Ytkhnfleejgfhgaa
