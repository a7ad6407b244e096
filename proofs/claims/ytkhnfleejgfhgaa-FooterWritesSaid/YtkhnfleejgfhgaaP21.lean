/-
  Plain laws of chapter 33: the footer with which bytes end. No program.
-/
import Derived.Test.YtkhnfleejgfhgaaP20
set_option linter.all false
set_option linter.unusedSimpArgs false
set_option linter.unusedVariables false
set_option linter.unnecessarySimpa false
namespace Go.Proofs.Ytkhnfleejgfhgaa

def loht : List Int := [76, 79, 72, 84]
/-- What is said of the bytes ahead of a trailer: how many they are, or the fault. -/
def sizeT (s : List Int) : Int × (Int × Int) :=
  if s.length < 12 then (0, (1, s.length)) else
  if ¬ (s.drop (s.length - 12)).drop 8 = loht then (0, (14, (s.length : Int) - 4)) else
  if ¬ fixOf (((s.drop (s.length - 12)).drop 4).take 4) = crcI ((s.drop (s.length - 12)).take 4) then (0, (6, (s.length : Int) - 8)) else
  if (s.length : Int) - 12 < fixOf ((s.drop (s.length - 12)).take 4) then (0, (3, (s.length : Int) - 12)) else (fixOf ((s.drop (s.length - 12)).take 4), (0, 0))
/-- The footer that the frame at a place is, up to an end, and the fault. -/
def findAt (s : List Int) (a e : Nat) : Ft × Int × (Int × Int) :=
  if ((RS.new ((s.take e).drop a)).frame 2097152).1.code = 0 then
    (if ((RS.new ((s.take e).drop a)).frame 2097152).1.at_ < (e : Int) - a then (ft0, 0, (9, (a : Int) + ((RS.new ((s.take e).drop a)).frame 2097152).1.at_))
    else if (readFt ((RS.new ((s.take e).drop a)).frame 2097152).2).2.1 = 0 then ((readFt ((RS.new ((s.take e).drop a)).frame 2097152).2).1, (a : Int), (0, 0))
    else (ft0, 0, ((readFt ((RS.new ((s.take e).drop a)).frame 2097152).2).2.1, (readFt ((RS.new ((s.take e).drop a)).frame 2097152).2).2.2 + (a + ((RS.new ((s.take e).drop a)).frame 2097152).1.at_ - 4 - ((RS.new ((s.take e).drop a)).frame 2097152).2.length))))
  else (ft0, 0, (((RS.new ((s.take e).drop a)).frame 2097152).1.code, ((RS.new ((s.take e).drop a)).frame 2097152).1.fat + a))
/-- The footer with which bytes end, the place of its frame, the fault. -/
def findFt (s : List Int) : Ft × Int × (Int × Int) :=
  if (sizeT s).2.1 = 0 then findAt s (s.length - 12 - (sizeT s).1.toNat) (s.length - 12) else (ft0, 0, (sizeT s).2)
theorem sizeT_good {s : List Int} (hs : Bys s) (h : (sizeT s).2.1 = 0) : 12 ≤ s.length ∧ (sizeT s).2 = (0, 0) ∧ 0 ≤ (sizeT s).1 ∧ (sizeT s).1 ≤ (s.length : Int) - 12 ∧ s.drop (s.length - 12) = trailB (sizeT s).1 := by
  unfold sizeT at h ⊢
  by_cases h1 : s.length < 12
  · rw [if_pos h1] at h; exact absurd h (by simp)
  · rw [if_neg h1] at h ⊢
    by_cases h2 : ¬ (s.drop (s.length - 12)).drop 8 = loht
    · rw [if_pos h2] at h; exact absurd h (by simp)
    · rw [if_neg h2] at h ⊢
      by_cases h3 : ¬ fixOf (((s.drop (s.length - 12)).drop 4).take 4) = crcI ((s.drop (s.length - 12)).take 4)
      · rw [if_pos h3] at h; exact absurd h (by simp)
      · rw [if_neg h3] at h ⊢
        by_cases h4 : (s.length : Int) - 12 < fixOf ((s.drop (s.length - 12)).take 4)
        · rw [if_pos h4] at h; exact absurd h (by simp)
        · rw [if_neg h4]
          have htl : (s.drop (s.length - 12)).length = 12 := by rw [List.length_drop]; omega
          have htb : Bys (s.drop (s.length - 12)) := fun x hx => hs x (List.mem_of_mem_drop hx)
          generalize s.drop (s.length - 12) = t at *
          have b1 : Bys (t.take 4) := fun x hx => htb x (List.mem_of_mem_take hx)
          have b2 : Bys ((t.drop 4).take 4) := fun x hx => htb x (List.mem_of_mem_drop (List.mem_of_mem_take hx))
          have l1 := low_fixOf b1
          have l2 := low_fixOf b2
          rw [show (t.take 4).length = 4 by rw [List.length_take]; omega] at l1
          rw [show ((t.drop 4).take 4).length = 4 by rw [List.length_take, List.length_drop]; omega] at l2
          have r1 := fixOf_range b1
          refine ⟨by omega, rfl, r1.1, by simp only; omega, ?_⟩
          simp only [Decidable.not_not] at h2 h3
          unfold trailB
          simp only
          rw [l1, ← h3, l2]
          have e1 : t = t.take 4 ++ t.drop 4 := (List.take_append_drop 4 t).symm
          have e2 : t.drop 4 = (t.drop 4).take 4 ++ (t.drop 4).drop 4 := (List.take_append_drop 4 _).symm
          have e3 : (t.drop 4).drop 4 = loht := by rw [List.drop_drop]; exact h2
          conv => lhs; rw [e1, e2, e3]
          rw [List.append_assoc]; rfl
theorem trailB_len (x : Int) : (trailB x).length = 12 := by
  unfold trailB; simp only [List.length_append, lowBytes_len, List.length_cons, List.length_nil]
theorem trailB_bys (x : Int) : Bys (trailB x) := by
  intro y hy
  unfold trailB at hy
  rcases List.mem_append.1 hy with hy | hy
  · rcases List.mem_append.1 hy with hy | hy
    · exact lowBytes_bys 4 _ y hy
    · exact lowBytes_bys 4 _ y hy
  · simp at hy; omega
theorem sizeT_own {b : List Int} {x : Int} (x0 : 0 ≤ x) (x1 : x < 4294967296) (hx : x ≤ b.length) : sizeT (b ++ trailB x) = (x, (0, 0)) := by
  have ht := trailB_len x
  have hl : (b ++ trailB x).length = b.length + 12 := by rw [List.length_append, ht]
  have hd : (b ++ trailB x).drop ((b ++ trailB x).length - 12) = trailB x := by rw [hl, Nat.add_sub_cancel, List.drop_left]
  have l4 := lowBytes_len 4 x
  have hcr := crcI_range (lowBytes_bys 4 x)
  have l5 := lowBytes_len 4 (crcI (lowBytes 4 x))
  have t1 : (trailB x).take 4 = lowBytes 4 x := by unfold trailB; rw [List.append_assoc, List.take_append_of_le_length (by omega), List.take_of_length_le (by omega)]
  have t2 : (trailB x).drop 4 = lowBytes 4 (crcI (lowBytes 4 x)) ++ [76, 79, 72, 84] := by unfold trailB; rw [List.append_assoc]; exact List.drop_left' l4
  have t3 : ((trailB x).drop 4).take 4 = lowBytes 4 (crcI (lowBytes 4 x)) := by rw [t2, List.take_append_of_le_length (by omega), List.take_of_length_le (by omega)]
  have t4 : (trailB x).drop 8 = loht := by
    have : (trailB x).drop 8 = ((trailB x).drop 4).drop 4 := by rw [List.drop_drop]
    rw [this, t2]; exact List.drop_left' l5
  unfold sizeT
  rw [hd, t4, t3, t1, fixOf_low 4 x x0 (by simpa using x1), fixOf_low 4 _ hcr.1 (by simpa using hcr.2), hl]
  rw [if_neg (by omega), if_neg (by simp), if_neg (by simp), if_neg (by omega)]
theorem footB_bys {f : Ft} (hf : f.ok) (hr : rightF f = true) : Bys (footB f) := by
  have hl := payB_len f
  intro y hy
  rcases List.mem_append.1 hy with hy | hy
  · exact frameB_bys (payB_bys hf hr) (by omega) y hy
  · exact trailB_bys _ y hy
theorem frameB_le' (p : List Int) : (frameB p).length ≤ p.length + 14 ∧ p.length + 5 ≤ (frameB p).length := by
  rw [frameB_len]; unfold blobB; rw [List.length_append]; have := vb_len (p.length : Int); omega
/-- What is written is found, whatever stands ahead. -/
theorem find_own {pre : List Int} {f : Ft} (hf : f.ok) (hr : rightF f = true) : findFt (pre ++ footB f) = (f, (pre.length : Int), (0, 0)) := by
  have hl := payB_len f
  have hfl := frameB_le' (payB f)
  have hpb := payB_bys hf hr
  have e : pre ++ footB f = (pre ++ frameB (payB f)) ++ trailB (frameB (payB f)).length := by unfold footB; rw [List.append_assoc]
  have hs := sizeT_own (b := pre ++ frameB (payB f)) (x := ((frameB (payB f)).length : Int)) (by omega) (by omega) (by rw [List.length_append]; omega)
  have ht := trailB_len ((frameB (payB f)).length : Int)
  have hn : (pre ++ footB f).length - 12 = (pre ++ frameB (payB f)).length := by rw [e, List.length_append, ht, Nat.add_sub_cancel]
  unfold findFt
  rw [hn, e, hs]
  simp only [if_true]
  have ha : (pre ++ frameB (payB f)).length - ((frameB (payB f)).length : Int).toNat = pre.length := by rw [Int.toNat_natCast, List.length_append, Nat.add_sub_cancel]
  rw [ha]
  have hd : ((pre ++ frameB (payB f) ++ trailB (frameB (payB f)).length).take (pre ++ frameB (payB f)).length).drop pre.length = frameB (payB f) := by rw [List.take_left, List.drop_left]
  have hm : ((payB f).length : Int) ≤ mfr 2097152 := by unfold mfr; omega
  have hok : ROk (RS.new (frameB (payB f))) := ROk.new (frameB_bys hpb (by omega)) (by omega)
  have hfo := frame_own (r := []) (m := 2097152) hok rfl hpb hm (by rw [new_rest, List.append_nil])
  unfold findAt
  rw [hd, hfo]
  simp only
  have hat : ((RS.new (frameB (payB f))).adv ((frameB (payB f)).length : Int)).at_ = (frameB (payB f)).length := by show (0 : Int) + _ = _; omega
  rw [if_pos (show ((RS.new (frameB (payB f))).adv ((frameB (payB f)).length : Int)).code = 0 from rfl), hat, if_neg (by rw [List.length_append]; omega), readFt_own hf hr]
  simp
/-- What is found is put so again. -/
theorem find_is {s : List Int} (hs : Bys s) (hn : s.length ≤ 140737488355328) (hc : (findFt s).2.2.1 = 0) : (findFt s).2.2 = (0, 0) ∧ rightF (findFt s).1 = true ∧ (findFt s).1.ok ∧ 0 ≤ (findFt s).2.1 ∧ (findFt s).2.1 + 12 ≤ s.length ∧ s.drop (findFt s).2.1.toNat = footB (findFt s).1 := by
  unfold findFt at hc ⊢
  by_cases h0 : (sizeT s).2.1 = 0
  · rw [if_pos h0] at hc ⊢
    obtain ⟨z1, z2, z3, z4, z5⟩ := sizeT_good hs h0
    obtain ⟨x, hx⟩ : ∃ x : Nat, (sizeT s).1 = (x : Int) := ⟨(sizeT s).1.toNat, by omega⟩
    rw [hx] at hc z4 z5 ⊢
    rw [Int.toNat_natCast] at hc ⊢
    obtain ⟨a, ha⟩ : ∃ a, s.length - 12 - x = a := ⟨_, rfl⟩
    rw [ha] at hc ⊢
    have hb : Bys ((s.take (s.length - 12)).drop a) := fun y hy => hs y (List.mem_of_mem_take (List.mem_of_mem_drop hy))
    have hbl : ((s.take (s.length - 12)).drop a).length = x := by rw [List.length_drop, List.length_take]; omega
    have hok : ROk (RS.new ((s.take (s.length - 12)).drop a)) := ROk.new hb (by omega)
    unfold findAt at hc ⊢
    by_cases h1 : ((RS.new ((s.take (s.length - 12)).drop a)).frame 2097152).1.code = 0
    · rw [if_pos h1] at hc ⊢
      by_cases h2 : ((RS.new ((s.take (s.length - 12)).drop a)).frame 2097152).1.at_ < ((s.length - 12 : Nat) : Int) - a
      · rw [if_pos h2] at hc; exact absurd hc (by simp)
      · rw [if_neg h2] at hc ⊢
        obtain ⟨i1, i2, i3, i4, i5⟩ := frame_is hok h1
        obtain ⟨k1, k2⟩ := frame_keep hok 2097152
        have hle := k1.at1
        rw [k2] at hle
        have e0 : (RS.new ((s.take (s.length - 12)).drop a)).l.take (RS.new ((s.take (s.length - 12)).drop a)).at_.toNat = [] := by simp [RS.new]
        rw [e0, List.nil_append] at i5
        have e1 : (RS.new ((s.take (s.length - 12)).drop a)).l = (s.take (s.length - 12)).drop a := rfl
        rw [e1] at i5 hle
        generalize hF : (RS.new ((s.take (s.length - 12)).drop a)).frame 2097152 = F at *
        have hfe : (s.take (s.length - 12)).drop a = frameB F.2 := by
          have e2 := List.take_of_length_le (l := (s.take (s.length - 12)).drop a) (i := F.1.at_.toNat) (by omega)
          rw [e2] at i5; exact i5
        have hfl := congrArg List.length hfe
        have hpl := frameB_le' F.2
        by_cases h3 : (readFt F.2).2.1 = 0
        · rw [if_pos h3]
          simp only
          have hc3 : (RS.new F.2).foot.1.code = 0 := by
            by_cases h : (RS.new F.2).foot.1.code = 0
            · exact h
            · unfold readFt at h3; rw [if_neg h] at h3; exact absurd h3 h
          obtain ⟨f1, f2, f3⟩ := foot_is i3 (by omega) hc3
          have hrf : readFt F.2 = ((RS.new F.2).foot.2, (0, 0)) := by unfold readFt; rw [if_pos hc3]
          rw [hrf]
          refine ⟨trivial, f1, f2, by omega, by omega, ?_⟩
          simp only [Int.toNat_natCast]
          have hsd : s.drop a = (s.take (s.length - 12)).drop a ++ s.drop (s.length - 12) := by
            conv => lhs; rw [← List.take_append_drop (s.length - 12) s]
            rw [List.drop_append_of_le_length (by rw [List.length_take]; omega)]
          have hxl : (x : Int) = ((frameB F.2).length : Int) := by omega
          rw [hsd, hfe, z5, hxl]
          unfold footB
          rw [← f3]
        · rw [if_neg h3] at hc; exact absurd hc h3
    · rw [if_neg h1] at hc; exact absurd hc h1
  · rw [if_neg h0] at hc; exact absurd hc h0
theorem find_bad {s : List Int} (hc : ¬ (findFt s).2.2.1 = 0) : (findFt s).1 = ft0 ∧ (findFt s).2.1 = 0 := by
  unfold findFt at hc ⊢
  by_cases h0 : (sizeT s).2.1 = 0
  · rw [if_pos h0] at hc ⊢
    unfold findAt at hc ⊢
    split
    · rename_i h1
      rw [if_pos h1] at hc
      split
      · exact ⟨rfl, rfl⟩
      · rename_i h2
        rw [if_neg h2] at hc
        split
        · rename_i h3; rw [if_pos h3] at hc; exact absurd rfl hc
        · exact ⟨rfl, rfl⟩
    · exact ⟨rfl, rfl⟩
  · rw [if_neg h0]; exact ⟨rfl, rfl⟩
end Go.Proofs.Ytkhnfleejgfhgaa
