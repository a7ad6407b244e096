/-
  Plain words: a reader as a value. No program.
-/
import Derived.Test.YtgphhganepjaiaaGen
import Derived.Test.YtgphhganepjaiaaVarP
namespace Go.Proofs.Ytgphhganepjaiaa

def flt (c a : Int) : Int × Int := if c = 0 then (0, 0) else (c, a)
/-- A reader: its bytes, its place, its fault. -/
structure RS where
  l : List Int
  at_ : Int
  code : Int
  fat : Int
def RS.fail (s : RS) (c a : Int) : RS := if s.code = 0 then { s with code := (flt c a).1, fat := (flt c a).2 } else s
def RS.good (s : RS) : Bool := s.code == 0
def RS.left (s : RS) : Int := s.l.length - s.at_
def RS.ok (s : RS) : Prop := 0 ≤ s.at_ ∧ s.at_ ≤ s.l.length ∧ s.l.length ≤ 140737488355328
def RS.skip (s : RS) (n : Int) : RS × Bool :=
  if s.code = 0 then (if n < 0 then (s.fail 17 s.at_, false) else if s.left < n then (s.fail 1 s.l.length, false) else ({ s with at_ := s.at_ + n }, true)) else (s, false)
def RS.byte (s : RS) : RS × Int := if (s.skip 1).2 = true then ((s.skip 1).1, s.l.getD s.at_.toNat 0) else ((s.skip 1).1, 0)
def RS.take (s : RS) (n : Int) : RS × List Int := if (s.skip n).2 = true then ((s.skip n).1, (s.l.drop s.at_.toNat).take n.toNat) else ((s.skip n).1, [])
def RS.new (l : List Int) : RS := ⟨l, 0, 0, 0⟩

theorem skip_yes {s : RS} {n : Int} (h : (s.skip n).2 = true) : s.code = 0 ∧ 0 ≤ n ∧ n ≤ s.left ∧ (s.skip n).1 = { s with at_ := s.at_ + n } := by
  unfold RS.skip at h ⊢
  by_cases h1 : s.code = 0
  · rw [if_pos h1] at h ⊢
    by_cases h2 : n < 0
    · rw [if_pos h2] at h; cases h
    · rw [if_neg h2] at h ⊢
      by_cases h3 : s.left < n
      · rw [if_pos h3] at h; cases h
      · rw [if_neg h3]; exact ⟨h1, by omega, by omega, rfl⟩
  · rw [if_neg h1] at h; cases h
theorem fail_l (s : RS) (c a : Int) : (s.fail c a).l = s.l := by unfold RS.fail; split <;> rfl
theorem fail_at (s : RS) (c a : Int) : (s.fail c a).at_ = s.at_ := by unfold RS.fail; split <;> rfl
theorem RS.ok.fail {s : RS} (h : s.ok) (c a : Int) : (s.fail c a).ok := by unfold RS.ok; rw [fail_l, fail_at]; exact h
theorem RS.ok.skip {s : RS} (h : s.ok) (n : Int) : (s.skip n).1.ok ∧ (s.skip n).1.l = s.l := by
  by_cases hy : (s.skip n).2 = true
  · obtain ⟨h1, h2, h3, h4⟩ := skip_yes hy
    rw [h4]
    obtain ⟨a, b, c⟩ := h
    unfold RS.left at h3
    exact ⟨⟨by show 0 ≤ s.at_ + n; omega, by show s.at_ + n ≤ s.l.length; omega, c⟩, rfl⟩
  · unfold RS.skip at hy ⊢
    by_cases h1 : s.code = 0
    · rw [if_pos h1] at hy ⊢
      by_cases h2 : n < 0
      · rw [if_pos h2]; exact ⟨h.fail _ _, fail_l _ _ _⟩
      · rw [if_neg h2] at hy ⊢
        by_cases h3 : s.left < n
        · rw [if_pos h3]; exact ⟨h.fail _ _, fail_l _ _ _⟩
        · rw [if_neg h3] at hy; exact absurd rfl hy
    · rw [if_neg h1]; exact ⟨h, rfl⟩
theorem RS.ok.byte {s : RS} (h : s.ok) : s.byte.1.ok ∧ s.byte.1.l = s.l := by
  unfold RS.byte; split <;> exact h.skip 1
theorem RS.ok.take {s : RS} (h : s.ok) (n : Int) : (s.take n).1.ok ∧ (s.take n).1.l = s.l := by
  unfold RS.take; split <;> exact h.skip n
theorem RS.ok.new {l : List Int} (h : l.length ≤ 140737488355328) : (RS.new l).ok := ⟨Int.le_refl _, by simp [RS.new], h⟩
theorem byte_u8 {s : RS} (h : s.ok) (hb : Bys s.l) : 0 ≤ s.byte.2 ∧ s.byte.2 < 256 := by
  unfold RS.byte
  split
  · rename_i hy
    obtain ⟨h1, h2, h3, h4⟩ := skip_yes hy
    obtain ⟨a, b, c⟩ := h
    unfold RS.left at h3
    exact hb _ (getD_mem _ _ (by omega))
  · simp
end Go.Proofs.Ytgphhganepjaiaa
