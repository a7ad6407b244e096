/-
  Plain laws of chapter 8: a reader without a fault has no place of one; frames that are cut, or turned. No program.
-/
import Derived.Test.YtkhnfleejgfhgaaP13
import Derived.Test.YtkhnfleejgfhgaaP14
set_option linter.all false
set_option linter.unusedSimpArgs false
set_option linter.unusedVariables false
set_option linter.unnecessarySimpa false
namespace Go.Proofs.Ytkhnfleejgfhgaa

/-- Where there is no fault, its place is 0. -/
def Cl (s : RS) : Prop := s.code = 0 → s.fat = 0
theorem Cl.new (l : List Int) : Cl (RS.new l) := fun _ => rfl
theorem Cl.fail {s : RS} (h : Cl s) (c a : Int) : Cl (s.fail c a) := by
  unfold RS.fail
  split
  · intro hc
    simp only [flt] at hc ⊢
    by_cases h0 : c = 0
    · rw [if_pos h0]
    · rw [if_neg h0] at hc; exact absurd hc h0
  · exact h
theorem Cl.adv {s : RS} (h : Cl s) (i : Int) : Cl (s.adv i) := h
theorem Cl.skip {s : RS} (h : Cl s) (n : Int) : Cl (s.skip n).1 := by
  unfold RS.skip
  repeat' split
  all_goals first | exact h.fail _ _ | exact h
theorem Cl.take {s : RS} (h : Cl s) (n : Int) : Cl (s.take n).1 := by
  unfold RS.take; split <;> exact h.skip n
theorem Cl.byte {s : RS} (h : Cl s) : Cl s.byte.1 := by
  unfold RS.byte; split <;> exact h.skip 1
theorem Cl.vint {s : RS} (h : Cl s) : Cl s.vint.1 := by
  unfold RS.vint
  split
  · split
    · exact h
    · split
      · intro hc; simp at hc
      · rename_i h1 _; intro hc; exact absurd hc h1
  · exact h
theorem Cl.most {s : RS} (h : Cl s) (m : Int) : Cl (s.most m).1 := by
  unfold RS.most; split
  · exact h.vint.fail _ _
  · exact h.vint
theorem Cl.int {s : RS} (h : Cl s) (m : Int) : Cl (s.int m).1 := by
  unfold RS.int; split
  · exact h.most m
  · exact h.vint.fail _ _
theorem Cl.blob {s : RS} (h : Cl s) (m : Int) : Cl (s.blob m).1 := (h.int m).take _
theorem Cl.fixed {s : RS} (h : Cl s) (n : Int) : Cl (s.fixed n).1 := h.take n
theorem Cl.frame {s : RS} (h : Cl s) (m : Int) : Cl (s.frame m).1 := by
  have := (h.blob (mfr m)).fixed 4
  unfold RS.frame
  repeat' split
  · exact this
  · exact this.fail _ _
  · exact this
theorem getF_own {p r : List Int} {m : Int} (hp : Bys p) (hr : Bys r) (hn : (frameB p ++ r).length ≤ 140737488355328) (hm : (p.length : Int) ≤ mfr m) : getF (frameB p ++ r) m = (p, ((frameB p).length : Int), (0, 0)) := by
  have hpl : p.length < 18446744073709551616 := by have := mfr_le m; omega
  have hb : Bys (frameB p ++ r) := fun x hx => by rcases List.mem_append.1 hx with hx | hx; exact frameB_bys hp hpl x hx; exact hr x hx
  have h := frame_own (ROk.new hb hn) rfl hp hm (new_rest _)
  unfold getF
  rw [h, if_pos (show ((RS.new (frameB p ++ r)).adv ((frameB p).length : Int)).code = 0 from rfl)]
  show (p, (0 : Int) + ((frameB p).length : Int), (0, 0)) = _
  rw [Int.zero_add]
theorem take_short' {s : RS} {n : Int} (hc : s.code = 0) (h0 : 0 ≤ n) (h : s.left < n) : s.take n = (s.fail 1 s.l.length, []) := by
  have hs : s.skip n = (s.fail 1 s.l.length, false) := by
    unfold RS.skip; rw [if_pos hc, if_neg (by omega), if_pos h]
  unfold RS.take
  rw [hs]; rfl
theorem blob_short' {b x : List Int} {m : Int} {n : Int} {t : RS} (hi : (RS.new b).int (mfr m) = (t, n)) (hx : t.take n = (t.fail 1 t.l.length, x)) (hc : t.code = 0) : getF b m = ([], 0, (1, (t.l.length : Int))) := by
  have hB : (RS.new b).blob (mfr m) = (t.fail 1 t.l.length, x) := by unfold RS.blob; rw [hi]; exact hx
  have hf : (t.fail 1 t.l.length) = { t with code := 1, fat := t.l.length } := by unfold RS.fail; rw [if_pos hc]; simp [flt]
  have hfx : ((RS.new b).blob (mfr m)).1.fixed 4 = (t.fail 1 t.l.length, 0) := by
    rw [hB]; unfold RS.fixed; rw [take_code (by rw [hf]; simp)]; rfl
  have hF : (RS.new b).frame m = (t.fail 1 t.l.length, []) := by
    unfold RS.frame; rw [hfx]; simp only; rw [if_neg (by rw [hf]; simp)]
  unfold getF
  rw [hF]; simp only
  rw [if_neg (by rw [hf]; simp), hf]
/-- A beginning of a frame is too short. -/
theorem frame_cut {p : List Int} {m : Int} (hp : Bys p) (hm : (p.length : Int) ≤ mfr m) {k : Nat} (hk : k < (frameB p).length) : getF ((frameB p).take k) m = ([], 0, (1, (k : Int))) := by
  have hml := mfr_le m
  have hv := vb_len (p.length : Int)
  have h4 := lowBytes_len 4 (crcI p)
  have hfl : (frameB p).length = (vb (p.length : Int)).length + p.length + 4 := by rw [frameB_len]; unfold blobB; rw [List.length_append]
  have hB : Bys ((frameB p).take k) := fun x hx => frameB_bys hp (by omega) x (List.mem_of_mem_take hx)
  have hbl : ((frameB p).take k).length = k := by rw [List.length_take]; omega
  have hok : ROk (RS.new ((frameB p).take k)) := ROk.new hB (by omega)
  have hfe : frameB p = vb (p.length : Int) ++ (p ++ lowBytes 4 (crcI p)) := by unfold frameB blobB; rw [List.append_assoc]
  by_cases h1 : k < (vb (p.length : Int)).length
  · have e : (frameB p).take k = (vb (p.length : Int)).take k := by rw [hfe, List.take_append_of_le_length (by omega)]
    have hc := vint_cut hok rfl (by omega) (by omega) h1 ((new_rest _).trans e)
    have hi : (RS.new ((frameB p).take k)).int (mfr m) = ({ RS.new ((frameB p).take k) with at_ := ((frameB p).take k).length, code := 1, fat := ((frameB p).take k).length }, 0) := by
      unfold RS.int RS.most
      rw [hc, if_pos (by omega)]; simp only; rw [if_neg (by omega)]; rfl
    have hBl : (RS.new ((frameB p).take k)).blob (mfr m) = ({ RS.new ((frameB p).take k) with at_ := ((frameB p).take k).length, code := 1, fat := ((frameB p).take k).length }, []) := by
      unfold RS.blob; rw [hi]; exact take_code (by simp)
    have hfx : ((RS.new ((frameB p).take k)).blob (mfr m)).1.fixed 4 = ({ RS.new ((frameB p).take k) with at_ := ((frameB p).take k).length, code := 1, fat := ((frameB p).take k).length }, 0) := by
      rw [hBl]; unfold RS.fixed; rw [take_code (by simp)]; rfl
    have hF : (RS.new ((frameB p).take k)).frame m = ({ RS.new ((frameB p).take k) with at_ := ((frameB p).take k).length, code := 1, fat := ((frameB p).take k).length }, []) := by
      unfold RS.frame; rw [hfx]; simp only; rw [if_neg (by simp)]
    unfold getF; rw [hF]; simp only; rw [if_neg (by simp), hbl]
  · have e : (frameB p).take k = vb (p.length : Int) ++ (p ++ lowBytes 4 (crcI p)).take (k - (vb (p.length : Int)).length) := by
      rw [hfe, List.take_append, List.take_of_length_le (by omega)]
    have hi := int_own (s := RS.new ((frameB p).take k)) (x := (p.length : Int)) (m := mfr m) rfl (by omega) hm (by omega) ((new_rest _).trans e)
    have ht : ((RS.new ((frameB p).take k)).adv ((vb (p.length : Int)).length : Int)).left = (k : Int) - (vb (p.length : Int)).length := by
      show (((frameB p).take k).length : Int) - (0 + ((vb (p.length : Int)).length : Int)) = _
      rw [hbl]; omega
    by_cases h2 : k < (vb (p.length : Int)).length + p.length
    · have hx := take_short' (s := (RS.new ((frameB p).take k)).adv ((vb (p.length : Int)).length : Int)) (n := (p.length : Int)) rfl (by omega) (by rw [ht]; omega)
      have := blob_short' hi hx rfl
      rw [this]
      show ([], 0, (1, ((((frameB p).take k).length : Nat) : Int))) = _
      rw [hbl]
    · have hok2 := adv_ok hok ((new_rest _).trans e)
      have hr2 : ((RS.new ((frameB p).take k)).adv ((vb (p.length : Int)).length : Int)).rest = p ++ (lowBytes 4 (crcI p)).take (k - (vb (p.length : Int)).length - p.length) := by
        rw [adv_rest hok.at0, new_rest, e, List.drop_left, List.take_append, List.take_of_length_le (by omega)]
      have hx := take_own hok2 (show ((RS.new ((frameB p).take k)).adv ((vb (p.length : Int)).length : Int)).code = 0 from rfl) hr2
      obtain ⟨u, hu⟩ : ∃ u, ((RS.new ((frameB p).take k)).adv ((vb (p.length : Int)).length : Int)).adv (p.length : Int) = u := ⟨_, rfl⟩
      rw [hu] at hx
      have hBl : (RS.new ((frameB p).take k)).blob (mfr m) = (u, p) := by unfold RS.blob; rw [hi]; exact hx
      have huc : u.code = 0 := by rw [← hu]; rfl
      have hul : u.l.length = k := by rw [← hu]; exact hbl
      have hua : u.at_ = (vb (p.length : Int)).length + p.length := by rw [← hu]; show (0 : Int) + _ + _ = _; omega
      have hf : (u.fail 1 u.l.length) = { u with code := 1, fat := u.l.length } := by unfold RS.fail; rw [if_pos huc]; simp [flt]
      have hsh := take_short' (s := u) (n := 4) huc (by omega) (by unfold RS.left; rw [hul, hua]; omega)
      have hfx : ((RS.new ((frameB p).take k)).blob (mfr m)).1.fixed 4 = (u.fail 1 u.l.length, 0) := by
        rw [hBl]; unfold RS.fixed; rw [hsh]; rfl
      have hF : (RS.new ((frameB p).take k)).frame m = (u.fail 1 u.l.length, []) := by
        unfold RS.frame; rw [hfx]; simp only; rw [if_neg (by rw [hf]; simp)]
      unfold getF; rw [hF]; simp only; rw [if_neg (by rw [hf]; simp), hf]; simp only; rw [hul]
/-- A frame of whose payload and sum a burst was turned about is told. -/
theorem frame_turn {p r : List Int} {m : Int} {at_ d : Nat} (hp : Bys p) (hr : Bys r) (hm : (p.length : Int) ≤ mfr m) (hn : (frameB p ++ r).length ≤ 140737488355328) (ht : turnB (p ++ lowBytes 4 (crcI p)) at_ d ≠ p ++ lowBytes 4 (crcI p)) :
    getF (vb (p.length : Int) ++ turnB (p ++ lowBytes 4 (crcI p)) at_ d ++ r) m = ([], 0, (6, ((vb (p.length : Int)).length : Int) + p.length)) := by
  have hml := mfr_le m
  have hcr := crcI_range hp
  have h4 := lowBytes_len 4 (crcI p)
  have hy : Bys (p ++ lowBytes 4 (crcI p)) := fun x hx => by rcases List.mem_append.1 hx with hx | hx; exact hp x hx; exact lowBytes_bys 4 _ x hx
  have hbad := burst_sum hp (lowBytes_bys 4 (crcI p)) h4 (fixOf_low 4 _ hcr.1 (by simpa using hcr.2)) ht
  have hxb := turnB_bys hy at_ d
  have hxl := turnB_len (p ++ lowBytes 4 (crcI p)) at_ d
  generalize turnB (p ++ lowBytes 4 (crcI p)) at_ d = x at *
  rw [List.length_append] at hxl
  have hvb := vb_by (x := (p.length : Int)) (by omega) (by omega)
  have hfl : (frameB p).length = (vb (p.length : Int)).length + p.length + 4 := by rw [frameB_len]; unfold blobB; rw [List.length_append]
  have hB : Bys (vb (p.length : Int) ++ x ++ r) := fun y hy => by
    rcases List.mem_append.1 hy with hy | hy
    · rcases List.mem_append.1 hy with hy | hy
      · exact hvb y hy
      · exact hxb y hy
    · exact hr y hy
  have hbl : (vb (p.length : Int) ++ x ++ r).length = (frameB p ++ r).length := by simp only [List.length_append] at *; omega
  have hok : ROk (RS.new (vb (p.length : Int) ++ x ++ r)) := ROk.new hB (by omega)
  have e : (RS.new (vb (p.length : Int) ++ x ++ r)).rest = vb (p.length : Int) ++ (x ++ r) := by rw [new_rest, List.append_assoc]
  have hi := int_own (s := RS.new (vb (p.length : Int) ++ x ++ r)) (x := (p.length : Int)) (m := mfr m) rfl (by omega) hm (by omega) e
  have hok2 := adv_ok hok e
  have hxs : x = x.take p.length ++ x.drop p.length := (List.take_append_drop _ _).symm
  have hr2 : ((RS.new (vb (p.length : Int) ++ x ++ r)).adv ((vb (p.length : Int)).length : Int)).rest = x.take p.length ++ (x.drop p.length ++ r) := by
    rw [adv_rest hok.at0, e, List.drop_left, ← List.append_assoc, ← hxs]
  have htl : (x.take p.length).length = p.length := by rw [List.length_take]; omega
  have hdl : (x.drop p.length).length = 4 := by rw [List.length_drop]; omega
  have hx := take_own hok2 (show ((RS.new (vb (p.length : Int) ++ x ++ r)).adv ((vb (p.length : Int)).length : Int)).code = 0 from rfl) hr2
  rw [htl] at hx
  have hok3 := adv_ok hok2 hr2
  rw [htl] at hok3
  obtain ⟨u, hu⟩ : ∃ u, ((RS.new (vb (p.length : Int) ++ x ++ r)).adv ((vb (p.length : Int)).length : Int)).adv (p.length : Int) = u := ⟨_, rfl⟩
  have hr3 : u.rest = x.drop p.length ++ r := by
    rw [← hu]
    have := adv_rest (s := (RS.new (vb (p.length : Int) ++ x ++ r)).adv ((vb (p.length : Int)).length : Int)) hok2.at0 p.length
    rw [this, hr2]
    have e5 := List.drop_left' (l₁ := x.take p.length) (l₂ := x.drop p.length ++ r) htl
    exact e5
  rw [hu] at hx hok3
  have huc : u.code = 0 := by rw [← hu]; rfl
  have hua : u.at_ = (vb (p.length : Int)).length + p.length := by rw [← hu]; show (0 : Int) + _ + _ = _; omega
  have hx3 := take_own hok3 huc hr3
  rw [hdl] at hx3
  have hBl : (RS.new (vb (p.length : Int) ++ x ++ r)).blob (mfr m) = (u, x.take p.length) := by unfold RS.blob; rw [hi]; exact hx
  have hfx : ((RS.new (vb (p.length : Int) ++ x ++ r)).blob (mfr m)).1.fixed 4 = (u.adv 4, fixOf (x.drop p.length)) := by
    rw [hBl]; unfold RS.fixed
    have : u.take 4 = (u.adv 4, x.drop p.length) := hx3
    rw [this]
  have hf : ((u.adv 4).fail 6 u.at_) = { u.adv 4 with code := 6, fat := u.at_ } := by unfold RS.fail; rw [if_pos (show (u.adv 4).code = 0 from huc)]; simp [flt]
  have hF : (RS.new (vb (p.length : Int) ++ x ++ r)).frame m = ((u.adv 4).fail 6 u.at_, []) := by
    unfold RS.frame; rw [hfx, hBl]; simp only
    rw [if_pos (show (u.adv 4).code = 0 from huc), if_neg hbad]
  unfold getF; rw [hF]; simp only; rw [if_neg (by rw [hf]; simp), hf]; simp only; rw [hua]
theorem getF_is {b : List Int} {m : Int} (hb : Bys b) (hn : b.length ≤ 140737488355328) (hc : (getF b m).2.2.1 = 0) :
    (getF b m).2.2 = (0, 0) ∧ Bys (getF b m).1 ∧ ((getF b m).1.length : Int) ≤ mfr m ∧ 0 ≤ (getF b m).2.1 ∧ (getF b m).2.1 ≤ b.length ∧ b.take (getF b m).2.1.toNat = frameB (getF b m).1 := by
  have hok : ROk (RS.new b) := ROk.new hb hn
  by_cases h : ((RS.new b).frame m).1.code = 0
  · have e : getF b m = (((RS.new b).frame m).2, ((RS.new b).frame m).1.at_, (0, 0)) := by unfold getF; rw [if_pos h]
    obtain ⟨i1, i2, i3, i4, i5⟩ := frame_is hok h
    obtain ⟨k1, k2⟩ := frame_keep hok m
    have h5 := k1.at1
    have h6 := k1.at0
    rw [k2] at h5
    rw [e]
    refine ⟨rfl, i3, i2, h6, h5, ?_⟩
    have : (RS.new b).l.take (RS.new b).at_.toNat = [] := by simp [RS.new]
    rw [this, List.nil_append] at i5
    exact i5
  · have e : getF b m = ([], 0, (((RS.new b).frame m).1.code, ((RS.new b).frame m).1.fat)) := by unfold getF; rw [if_neg h]
    rw [e] at hc; exact absurd hc h
theorem getF_bad {b : List Int} {m : Int} (hc : ¬ (getF b m).2.2.1 = 0) : (getF b m).1 = [] ∧ (getF b m).2.1 = 0 := by
  unfold getF at hc ⊢
  split
  · rename_i h; rw [if_pos h] at hc; exact absurd rfl hc
  · exact ⟨rfl, rfl⟩
end Go.Proofs.Ytkhnfleejgfhgaa
