/-
  Plain: where a reader's fault may stand. No program.
-/
import Derived.Test.YtkhnfleejgfhgaaP21
set_option linter.all false
set_option linter.unusedSimpArgs false
set_option linter.unusedVariables false
set_option linter.unnecessarySimpa false
namespace Go.Proofs.Ytkhnfleejgfhgaa

def Fa (s : RS) : Prop := 0 ≤ s.fat ∧ s.fat ≤ s.l.length
theorem Fa.new (l : List Int) : Fa (RS.new l) := ⟨Int.le_refl _, by show (0 : Int) ≤ _; omega⟩
theorem Fa.fail {s : RS} (h : Fa s) {c a : Int} (a0 : 0 ≤ a) (a1 : a ≤ s.l.length) : Fa (s.fail c a) := by
  unfold RS.fail
  split
  · unfold flt
    split
    · exact ⟨Int.le_refl _, by show (0 : Int) ≤ _; omega⟩
    · exact ⟨a0, a1⟩
  · exact h
theorem Fa.skip {s : RS} (h : Fa s) (hs : ROk s) (n : Int) : Fa (s.skip n).1 := by
  have h0 := hs.at0
  have h1 := hs.at1
  unfold RS.skip
  repeat' split
  · exact h.fail h0 h1
  · exact h.fail (by omega) (by omega)
  · exact h
  · exact h
theorem Fa.take {s : RS} (h : Fa s) (hs : ROk s) (n : Int) : Fa (s.take n).1 := by
  unfold RS.take
  split <;> exact h.skip hs n
theorem vgo_ge : ∀ (l : List Int) (n : Int), n ≤ (vgo n l).2.1 := by
  intro l
  induction l with
  | nil => intro n; unfold vgo; exact Int.le_refl _
  | cons c t ih =>
    intro n
    unfold vgo
    repeat' split
    · exact Int.le_refl _
    · exact Int.le_refl _
    · show n ≤ n + 1; omega
    · have := ih (n + 1); show n ≤ (vgo (n + 1) t).2.1; omega
    · have := ih (n + 1); show n ≤ (vgo (n + 1) t).2.1; omega
theorem Fa.vint {s : RS} (h : Fa s) (hs : ROk s) : Fa s.vint.1 := by
  have hk := hs.vint.1
  have h0 := hs.at0
  have hg := vgo_ge s.rest 0
  unfold RS.vint at hk ⊢
  by_cases hc : s.code = 0
  · rw [if_pos hc] at hk ⊢
    by_cases hv : (vgo 0 s.rest).1 = 0
    · rw [if_pos hv]; exact h
    · rw [if_neg hv] at hk ⊢
      by_cases h1 : (vgo 0 s.rest).1 = 1
      · rw [if_pos h1]; exact ⟨by show (0 : Int) ≤ (s.l.length : Int); omega, Int.le_refl _⟩
      · rw [if_neg h1] at hk ⊢
        have := hk.at1
        simp only at this
        exact ⟨by show 0 ≤ s.at_ + (vgo 0 s.rest).2.1; omega, by show s.at_ + (vgo 0 s.rest).2.1 ≤ (s.l.length : Int); omega⟩
  · rw [if_neg hc]; exact h
theorem Fa.int {s : RS} (h : Fa s) (hs : ROk s) (m : Int) : Fa (s.int m).1 := by
  have hv := h.vint hs
  have hl := hs.vint.2
  have h0 := hs.at0
  have h1 := hs.at1
  have hf : Fa (s.vint.1.fail 2 s.at_) := hv.fail h0 (by rw [hl]; exact h1)
  unfold RS.int RS.most
  repeat' split
  · exact hf
  · exact hv
  · exact hf
theorem Fa.blob {s : RS} (h : Fa s) (hs : ROk s) (m : Int) : Fa (s.blob m).1 := (h.int hs m).take (hs.int m).1 _
theorem Fa.frame {s : RS} (h : Fa s) (hs : ROk s) (m : Int) : Fa (s.frame m).1 := by
  have hb := h.blob hs (mfr m)
  obtain ⟨kb, lb⟩ := RS.ok.blob hs (mfr m)
  have hf : Fa ((s.blob (mfr m)).1.fixed 4).1 := hb.take kb 4
  obtain ⟨kf, lf⟩ := fixed_keep kb 4
  unfold RS.frame
  repeat' split
  · exact hf
  · exact hf.fail kb.at0 (by rw [lf]; exact kb.at1)
  · exact hf
theorem Fa.epo {s : RS} (h : Fa s) (hs : ROk s) (ok : Int → Bool) : Fa (s.epo ok).1 := by
  have hv := h.vint hs
  have hl := hs.vint.2
  unfold RS.epo
  repeat' split
  · exact hv
  · exact hv.fail hs.at0 (by rw [hl]; exact hs.at1)
  · exact hv
theorem Fa.foot {p : List Int} (hp : Bys p) (hn : p.length ≤ 140737488355328) : Fa (RS.new p).foot.1 ∧ (RS.new p).foot.1.l = p := by
  have h0 : ROk (RS.new p) := ROk.new hp hn
  have f0 := Fa.new p
  obtain ⟨k1, l1⟩ := fkind_keep h0
  have f1 : Fa (RS.new p).fkind := by
    have ft := f0.take h0 1
    unfold RS.fkind; split
    · exact ft.fail (Int.le_refl _) (by omega)
    · exact ft
  obtain ⟨k2, l2⟩ := fnums_keep k1
  have f2 : Fa (RS.new p).fkind.fnums.1 := by
    unfold RS.fnums
    simp only
    obtain ⟨a, _⟩ := epo_keep k1 epRight
    have fa := f1.epo k1 epRight
    obtain ⟨b, _⟩ := a.int 65536
    have fb := fa.int a 65536
    obtain ⟨c, _⟩ := b.int 65536
    have fc := fb.int b 65536
    obtain ⟨d, _⟩ := c.vint
    have fd := fc.vint c
    obtain ⟨e, _⟩ := d.vint
    have fe := fd.vint d
    obtain ⟨g, _⟩ := e.int 1099511627776
    have fg := fe.int e 1099511627776
    exact fg.int g 1099511627776
  have f3 : Fa ((RS.new p).fkind.fnums.1.fcheck (RS.new p).fkind.fnums.2) ∧ ((RS.new p).fkind.fnums.1.fcheck (RS.new p).fkind.fnums.2).l = p ∧ ((RS.new p).fkind.fnums.1.fcheck (RS.new p).fkind.fnums.2).at_ = (RS.new p).fkind.fnums.1.at_ := by
    unfold RS.fcheck; split
    · exact ⟨f2, l2.trans l1, rfl⟩
    · exact ⟨f2.fail (Int.le_refl _) (by omega), by rw [fail_l]; exact l2.trans l1, fail_at _ _ _⟩
  have hat0 := k2.at0
  have hat1 := k2.at1
  rw [l2, l1] at hat1
  have e1 : (RS.new p).l = p := rfl
  rw [e1] at hat1
  unfold RS.foot RS.rest9
  simp only
  split
  · exact ⟨f3.1.fail (by rw [f3.2.2]; exact hat0) (by rw [f3.2.2, f3.2.1]; exact hat1), by rw [fail_l]; exact f3.2.1⟩
  · exact ⟨f3.1, f3.2.1⟩
theorem readFt_fat {p : List Int} (hp : Bys p) (hn : p.length ≤ 140737488355328) : 0 ≤ (readFt p).2.2 ∧ (readFt p).2.2 ≤ p.length := by
  obtain ⟨f, l⟩ := Fa.foot hp hn
  unfold readFt
  split
  · exact ⟨Int.le_refl _, by show (0 : Int) ≤ _; omega⟩
  · have := f.2
    rw [l] at this
    exact ⟨f.1, this⟩
end Go.Proofs.Ytkhnfleejgfhgaa
