/-
  Plain words: a writer as a value. No program.
-/
import Derived.Test.YtgphhganepjaiaaPl1
namespace Go.Proofs.Ytgphhganepjaiaa

structure WS where
  most : Int
  l : List Int
  code : Int
def WS.new (most : Int) : WS := ⟨max most 0, [], 0⟩
def WS.fail (s : WS) (c : Int) : WS := if s.code = 0 then { s with code := c } else s
def WS.put (s : WS) (m : List Int) : WS := if s.code = 0 then (if s.most - s.l.length < m.length then { s with code := 2 } else { s with l := s.l ++ m }) else s
theorem WS.put_ok {s : WS} {m : List Int} (h : s.code = 0) (hm : s.l.length + m.length ≤ s.most) : s.put m = { s with l := s.l ++ m } := by
  unfold WS.put; rw [if_pos h, if_neg (by omega)]
theorem WS.put_no {s : WS} {m : List Int} (h : s.code = 0) (hm : s.most < s.l.length + m.length) : s.put m = { s with code := 2 } := by
  unfold WS.put; rw [if_pos h, if_pos (by omega)]
theorem WS.put_bad {s : WS} {m : List Int} (h : s.code ≠ 0) : s.put m = s := by
  unfold WS.put; rw [if_neg h]
theorem WS.new_is {n : Int} (h : 0 ≤ n) : WS.new n = ⟨n, [], 0⟩ := by unfold WS.new; rw [show max n 0 = n from by omega]
def WS.bytes (s : WS) : List Int := if s.code = 0 then s.l else []
def WS.putIf (s : WS) (x : Int) (ok : Bool) : WS := if ok = true then s.put (vb x) else s.fail 3
theorem putIf_20 (x : Int) : ((WS.new 20).putIf x true).code = 0 ∧ ((WS.new 20).putIf x true).bytes = vb x ∧ ((WS.new 20).putIf x true).l.length ≤ 20 ∧ ((WS.new 20).putIf x false).code = 3 ∧ ((WS.new 20).putIf x false).bytes = [] ∧ ((WS.new 20).putIf x false).l.length ≤ 20 := by
  have hl := (vb_len x).2
  have e : (WS.new 20).put (vb x) = ⟨20, vb x, 0⟩ := by
    rw [WS.new_is (by omega), WS.put_ok rfl (by simp; omega)]; rfl
  have f : (WS.new 20).fail 3 = ⟨20, [], 3⟩ := by rw [WS.new_is (by omega)]; rfl
  simp only [WS.putIf, if_true, e, f, WS.bytes]
  exact ⟨trivial, by simp, by omega, by simp, by simp, by simp⟩
/-- A number's lowest bytes. -/
def lowBytes : Nat → Int → List Int
  | 0, _ => []
  | n + 1, x => x % 256 :: lowBytes n (x / 256)
theorem lowBytes_snoc (n : Nat) : ∀ x : Int, lowBytes (n + 1) x = lowBytes n x ++ [x / 256 ^ n % 256] := by
  induction n with
  | zero => intro x; simp [lowBytes]
  | succ n ih =>
    intro x
    have := ih (x / 256)
    rw [show lowBytes (n + 1 + 1) x = x % 256 :: lowBytes (n + 1) (x / 256) from rfl, this, show lowBytes (n + 1) x = x % 256 :: lowBytes n (x / 256) from rfl]
    simp only [List.cons_append]
    congr 3
    rw [Int.ediv_ediv_of_nonneg (by omega), Int.pow_succ', ]
theorem lowBytes_len (n : Nat) : ∀ x : Int, (lowBytes n x).length = n := by
  induction n with
  | zero => intro x; rfl
  | succ n ih => intro x; simp [lowBytes, ih]
theorem lowBytes_bys (n : Nat) : ∀ x : Int, Bys (lowBytes n x) := by
  induction n with
  | zero => intro x y hy; simp [lowBytes] at hy
  | succ n ih =>
    intro x y hy
    simp only [lowBytes, List.mem_cons] at hy
    rcases hy with rfl | hy
    · omega
    · exact ih _ y hy

def WS.ok (s : WS) : Prop := 0 ≤ s.most ∧ s.most < 9223372036854775808 ∧ s.l.length ≤ s.most
def WS.room (s : WS) : Int := s.most - s.l.length
theorem WS.ok.new {n : Int} (h : n < 9223372036854775808) : (WS.new n).ok := by
  refine ⟨?_, ?_, ?_⟩ <;> simp [WS.new] <;> omega
theorem fail_parts (s : WS) (c : Int) : (s.fail c).most = s.most ∧ (s.fail c).l = s.l := by unfold WS.fail; split <;> exact ⟨rfl, rfl⟩
theorem WS.ok.fail {s : WS} (h : s.ok) (c : Int) : (s.fail c).ok := by
  obtain ⟨h1, h2⟩ := fail_parts s c
  unfold WS.ok; rw [h1, h2]; exact h
theorem put_most (s : WS) (m : List Int) : (s.put m).most = s.most := by
  unfold WS.put; split
  · split <;> rfl
  · rfl
theorem WS.ok.put {s : WS} (h : s.ok) (m : List Int) : (s.put m).ok := by
  obtain ⟨a, b, c⟩ := h
  unfold WS.put
  split
  · split
    · exact ⟨a, b, c⟩
    · exact ⟨a, b, by simp; omega⟩
  · exact ⟨a, b, c⟩
theorem WS.put_put (s : WS) (l m : List Int) : (s.put l).put m = if s.code = 0 ∧ s.most - s.l.length < l.length then s.put l else (s.put l).put m := by
  split
  · rename_i h
    unfold WS.put
    rw [if_pos h.1, if_pos h.2]
    simp
  · rfl
theorem put_len (s : WS) (m : List Int) : (s.put m).l.length ≤ s.l.length + m.length := by
  unfold WS.put
  split
  · split
    · simp
    · simp
  · simp
theorem put2 (k : Int) (m v : List Int) : (((WS.new k).put m).put v).code = 0 ∧ (((WS.new k).put m).put v).bytes = m ++ v ∧ (m.length : Int) + v.length ≤ max k 0 ∨ (((WS.new k).put m).put v).code ≠ 0 ∧ ¬ (m.length : Int) + v.length ≤ max k 0 := by
  by_cases h1 : max k 0 < m.length
  · right
    have e1 : (WS.new k).put m = ⟨max k 0, [], 2⟩ := WS.put_no rfl (by simp [WS.new]; omega)
    rw [e1, WS.put_bad (by simp)]
    exact ⟨by simp, by omega⟩
  · have e1 : (WS.new k).put m = ⟨max k 0, m, 0⟩ := by rw [WS.put_ok rfl (by simp [WS.new]; omega)]; simp [WS.new]
    by_cases h2 : max k 0 < (m.length : Int) + v.length
    · right
      rw [e1, WS.put_no rfl (by simp; omega)]
      exact ⟨by simp, by omega⟩
    · left
      rw [e1, WS.put_ok rfl (by simp; omega)]
      exact ⟨rfl, by simp [WS.bytes], by omega⟩
end Go.Proofs.Ytgphhganepjaiaa
