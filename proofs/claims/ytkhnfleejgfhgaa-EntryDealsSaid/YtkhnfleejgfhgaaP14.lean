/-
  Plain laws of chapter 8: where frames begin. No program.
-/
import Derived.Test.YtkhnfleejgfhgaaP10
set_option linter.all false
set_option linter.unusedSimpArgs false
set_option linter.unusedVariables false
set_option linter.unnecessarySimpa false
namespace Go.Proofs.Ytkhnfleejgfhgaa

/-- How many bytes a frame has. -/
def sizeF (n : Int) : Int := (vb (max n 0)).length + max n 0 + 4
theorem sizeF_frame {p : List Int} : sizeF p.length = (frameB p).length := by
  rw [frameB_len]; unfold sizeF blobB
  have : max (p.length : Int) 0 = p.length := by omega
  rw [this, List.length_append]; omega
theorem sizeF_le (n : Int) : 5 ≤ sizeF n ∧ sizeF n ≤ max n 0 + 14 := by
  unfold sizeF
  have := vb_len (max n 0)
  omega
theorem mfr_le (m : Int) : mfr m ≤ 2097152 := by unfold mfr; omega
/-- The payload of the frame that bytes begin with, where it ends, the fault. -/
def getF (b : List Int) (m : Int) : List Int × Int × (Int × Int) := if ((RS.new b).frame m).1.code = 0 then (((RS.new b).frame m).2, ((RS.new b).frame m).1.at_, (0, 0)) else ([], 0, (((RS.new b).frame m).1.code, ((RS.new b).frame m).1.fat))
/-- How many bytes a frame has, by its length (0: it can't be told). -/
def wholeF (b : List Int) (m : Int) : Int := if ((RS.new b).int (mfr m)).1.code = 0 then sizeF ((RS.new b).int (mfr m)).2 else 0
def wholeOk (b : List Int) (m : Int) : Bool := ((RS.new b).int (mfr m)).1.code == 0
/-- Does a frame begin here? -/
def okF (b : List Int) (m : Int) : Bool := ((RS.new b).frame m).1.code == 0
theorem frame_int {s : RS} (h : ROk s) {m : Int} (hc : (s.frame m).1.code = 0) : (s.int (mfr m)).1.code = 0 ∧ (s.frame m).1.at_ = (s.int (mfr m)).1.at_ + (s.int (mfr m)).2 + 4 := by
  obtain ⟨h1, h2, h3⟩ := frame_good hc
  obtain ⟨a, b⟩ := RS.ok.blob h (mfr m)
  obtain ⟨t1, t2, t3, t4, t5⟩ := take_bytes a (n := 4) h1
  have hi := h.int (mfr m)
  obtain ⟨u1, u2, u3, u4, u5⟩ := take_bytes hi.1 (n := (s.int (mfr m)).2) t1
  refine ⟨u1, ?_⟩
  rw [h3]
  show ((s.blob (mfr m)).1.take 4).1.at_ = _
  rw [t4]
  show ((s.int (mfr m)).1.take (s.int (mfr m)).2).1.at_ + 4 = _
  rw [u4]
theorem okF_whole {b : List Int} {m : Int} (hb : Bys b) (hn : b.length ≤ 140737488355328) (h : okF b m = true) : wholeOk b m = true ∧ ((RS.new b).frame m).1.at_ = wholeF b m ∧ wholeF b m ≤ b.length := by
  have hok : ROk (RS.new b) := ROk.new hb hn
  have hc : ((RS.new b).frame m).1.code = 0 := by simpa [okF] using h
  obtain ⟨h1, h2⟩ := frame_int hok hc
  obtain ⟨i1, i2, i3, i4, i5⟩ := int_bytes hok h1
  have hw : wholeF b m = sizeF ((RS.new b).int (mfr m)).2 := by unfold wholeF; rw [if_pos h1]
  obtain ⟨k1, k2⟩ := frame_keep hok m
  have hat1 := k1.at1
  rw [k2] at hat1
  have hl : ((RS.new b).int (mfr m)).1.at_ = (vb ((RS.new b).int (mfr m)).2).length := by
    have e := congrArg List.length i5
    have hi := (hok.int (mfr m)).1.at1
    have hi2 := (hok.int (mfr m)).2
    have hi0 := (hok.int (mfr m)).1.at0
    rw [hi2] at hi
    simp only [List.length_take, List.length_append, RS.new] at e hi
    simp only [RS.new] at hi0
    simp only [RS.new]
    simp at e
    omega
  have hmx : max ((RS.new b).int (mfr m)).2 0 = ((RS.new b).int (mfr m)).2 := by omega
  refine ⟨by unfold wholeOk; rw [h1]; rfl, ?_, ?_⟩
  · rw [h2, hw, hl]; unfold sizeF; rw [hmx]
  · have : ((RS.new b).frame m).1.at_ = wholeF b m := by rw [h2, hw, hl]; unfold sizeF; rw [hmx]
    rw [← this]; exact hat1
def nextGo (b : List Int) (m : Int) : Nat → Nat → Int
  | 0, _ => -1
  | n + 1, a => if okF (b.drop a) m = true then a else nextGo b m n (a + 1)
/-- The next place at which a frame begins; -1: none. -/
def nextF (b : List Int) (a : Nat) (m : Int) : Int := nextGo b m (b.length - a) a
theorem next_end {b : List Int} {a : Nat} {m : Int} (h : ¬ a < b.length) : nextF b a m = -1 := by
  unfold nextF; rw [show b.length - a = 0 by omega]; rfl
theorem next_yes {b : List Int} {a : Nat} {m : Int} (h : a < b.length) (ho : okF (b.drop a) m = true) : nextF b a m = a := by
  unfold nextF; rw [show b.length - a = (b.length - a - 1) + 1 by omega]; simp only [nextGo]; rw [if_pos ho]
theorem next_no {b : List Int} {a : Nat} {m : Int} (h : a < b.length) (ho : ¬ okF (b.drop a) m = true) : nextF b a m = nextF b (a + 1) m := by
  unfold nextF; rw [show b.length - a = (b.length - (a + 1)) + 1 by omega]; simp only [nextGo]; rw [if_neg ho]
theorem next_is (b : List Int) (m : Int) : ∀ (n a : Nat), b.length - a = n → nextF b a m = -1 ∨ ∃ k : Nat, nextF b a m = k ∧ a ≤ k ∧ k < b.length ∧ okF (b.drop k) m = true := by
  intro n
  induction n with
  | zero => intro a h; exact .inl (next_end (by omega))
  | succ n ih =>
    intro a h
    by_cases ho : okF (b.drop a) m = true
    · exact .inr ⟨a, next_yes (by omega) ho, Nat.le_refl _, by omega, ho⟩
    · rw [next_no (by omega) ho]
      rcases ih (a + 1) (by omega) with h1 | ⟨k, h1, h2, h3, h4⟩
      · exact .inl h1
      · exact .inr ⟨k, h1, by omega, h3, h4⟩
/-- The places at which frames begin, one behind the other. -/
def scanGo (b : List Int) (m : Int) : Nat → Nat → List Int
  | 0, _ => []
  | n + 1, a => if nextF b a m < 0 then [] else nextF b a m :: scanGo b m n (nextF b a m + wholeF (b.drop (nextF b a m).toNat) m).toNat
theorem whole_pos {b : List Int} {m : Int} (h : wholeOk b m = true) : 5 ≤ wholeF b m ∧ wholeF b m ≤ 2097166 := by
  have hc : ((RS.new b).int (mfr m)).1.code = 0 := by simpa [wholeOk] using h
  unfold wholeF; rw [if_pos hc]
  have := sizeF_le ((RS.new b).int (mfr m)).2
  have h2 : ((RS.new b).int (mfr m)).2 ≤ max (mfr m) 0 := by
    obtain ⟨a1, a2, a3, a4⟩ := int_code hc
    rw [a4]; omega
  have := mfr_le m
  omega
theorem scan_more {b : List Int} {m : Int} (hb : Bys b) (hn : b.length ≤ 140737488355328) : ∀ (n k a : Nat), b.length - a ≤ n → b.length - a ≤ k → 0 < n → 0 < k → scanGo b m n a = scanGo b m k a := by
  intro n
  induction n with
  | zero => intro k a _ _ h; omega
  | succ n ih =>
    intro k a h1 h2 _ hk
    obtain ⟨j, rfl⟩ : ∃ j, k = j + 1 := ⟨k - 1, by omega⟩
    simp only [scanGo]
    rcases next_is b m _ a rfl with h | ⟨q, q1, q2, q3, q4⟩
    · rw [h]; rfl
    · rw [q1, if_neg (by omega), if_neg (by omega)]
      congr 1
      obtain ⟨w1, w2, w3⟩ := okF_whole (fun x hx => hb x (List.mem_of_mem_drop hx)) (by simp; omega) q4
      have hp := whole_pos w1
      have hd : (b.drop ((q : Int)).toNat).length = b.length - q := by simp
      rw [Int.toNat_natCast] at hd ⊢
      by_cases hz : (q : Int) + wholeF (b.drop q) m < b.length
      · exact ih j _ (by omega) (by omega) (by omega) (by omega)
      · have he : nextF b ((q : Int) + wholeF (b.drop q) m).toNat m = -1 := next_end (by omega)
        have hs : ∀ z, scanGo b m z ((q : Int) + wholeF (b.drop q) m).toNat = [] := by
          intro z
          cases z with
          | zero => rfl
          | succ z => simp only [scanGo]; rw [he]; rfl
        rw [hs, hs]
def scanF (b : List Int) (m : Int) (a : Nat) : List Int := scanGo b m (b.length + 1 - a) a
theorem scan_end {b : List Int} {m : Int} {a : Nat} (h : nextF b a m < 0) : scanF b m a = [] := by
  unfold scanF
  cases b.length + 1 - a with
  | zero => rfl
  | succ n => simp only [scanGo]; rw [if_pos h]
theorem scan_step {b : List Int} {m : Int} (hb : Bys b) (hn : b.length ≤ 140737488355328) {a : Nat} (h : ¬ nextF b a m < 0) : scanF b m a = nextF b a m :: scanF b m (nextF b a m + wholeF (b.drop (nextF b a m).toNat) m).toNat := by
  rcases next_is b m _ a rfl with h1 | ⟨q, q1, q2, q3, q4⟩
  · rw [h1] at h; exact absurd (by decide) h
  · unfold scanF
    rw [show b.length + 1 - a = (b.length - a) + 1 by omega]
    simp only [scanGo]
    rw [if_neg h, q1]
    congr 1
    obtain ⟨w1, w2, w3⟩ := okF_whole (fun x hx => hb x (List.mem_of_mem_drop hx)) (by simp; omega) q4
    have hp := whole_pos w1
    rw [Int.toNat_natCast]
    have hd : (b.drop q).length = b.length - q := by simp
    exact scan_more hb hn _ _ _ (by omega) (by omega) (by omega) (by omega)
theorem scan_bys (b : List Int) (m : Int) : ∀ (n a : Nat), ∀ x ∈ scanGo b m n a, 0 ≤ x ∧ x < b.length := by
  intro n
  induction n with
  | zero => intro a x hx; simp [scanGo] at hx
  | succ n ih =>
    intro a x hx
    simp only [scanGo] at hx
    split at hx
    · simp at hx
    · rename_i h
      rcases List.mem_cons.1 hx with rfl | hx
      · rcases next_is b m _ a rfl with h1 | ⟨q, q1, q2, q3, q4⟩
        · rw [h1] at h; exact absurd (by decide) h
        · omega
      · exact ih _ x hx
theorem scan_len (b : List Int) (m : Int) : ∀ (n a : Nat), (scanGo b m n a).length ≤ n := by
  intro n
  induction n with
  | zero => intro a; simp [scanGo]
  | succ n ih =>
    intro a
    simp only [scanGo]
    split
    · simp
    · simp only [List.length_cons]; have := ih (nextF b a m + wholeF (b.drop (nextF b a m).toNat) m).toNat; omega
end Go.Proofs.Ytkhnfleejgfhgaa
