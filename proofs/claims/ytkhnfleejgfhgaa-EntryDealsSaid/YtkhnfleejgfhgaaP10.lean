/-
  Plain laws of chapter 8: frames. No program.
-/
import Derived.Test.YtkhnfleejgfhgaaP8
set_option linter.all false
set_option linter.unusedSimpArgs false
set_option linter.unusedVariables false
set_option linter.unnecessarySimpa false
namespace Go.Proofs.Ytkhnfleejgfhgaa

def nats (l : List Int) : List Nat := l.map Int.toNat
theorem nats_lt {l : List Int} (h : Bys l) : ∀ x ∈ nats l, x < 256 := by
  intro x hx
  simp only [nats, List.mem_map] at hx
  obtain ⟨y, hy, rfl⟩ := hx
  have := h y hy
  omega
/-- The sum of bytes. -/
def crcI (l : List Int) : Int := 4294967295 - (crcA 4294967295 (nats l) : Nat)
theorem crcI_range {l : List Int} (h : Bys l) : 0 ≤ crcI l ∧ crcI l < 4294967296 := by
  have := crcA_lt (c := 4294967295) (by omega) (nats_lt h)
  unfold crcI; omega
def frameB (p : List Int) : List Int := blobB p ++ lowBytes 4 (crcI p)
def mfr (m : Int) : Int := min m 2097152
/-- The reader behind a frame, and its payload. -/
def RS.frame (s : RS) (m : Int) : RS × List Int :=
  if ((s.blob (mfr m)).1.fixed 4).1.code = 0 then
    (if ((s.blob (mfr m)).1.fixed 4).2 = crcI (s.blob (mfr m)).2 then (((s.blob (mfr m)).1.fixed 4).1, (s.blob (mfr m)).2) else (((s.blob (mfr m)).1.fixed 4).1.fail 6 (s.blob (mfr m)).1.at_, []))
  else (((s.blob (mfr m)).1.fixed 4).1, [])
theorem frameB_len (p : List Int) : (frameB p).length = (blobB p).length + 4 := by unfold frameB; rw [List.length_append, lowBytes_len]
theorem fixed_keep {s : RS} (h : ROk s) (n : Int) : ROk (s.fixed n).1 ∧ (s.fixed n).1.l = s.l := ⟨h.take n, (h.ok.take n).2⟩
theorem frame_keep {s : RS} (h : ROk s) (m : Int) : ROk (s.frame m).1 ∧ (s.frame m).1.l = s.l := by
  obtain ⟨a, b⟩ := RS.ok.blob h (mfr m)
  obtain ⟨c, d⟩ := fixed_keep a 4
  unfold RS.frame
  repeat' split
  · exact ⟨c, d.trans b⟩
  · exact ⟨c.fail _ _, by rw [fail_l]; exact d.trans b⟩
  · exact ⟨c, d.trans b⟩
theorem frame_good {s : RS} {m : Int} (hc : (s.frame m).1.code = 0) : ((s.blob (mfr m)).1.fixed 4).1.code = 0 ∧ ((s.blob (mfr m)).1.fixed 4).2 = crcI (s.blob (mfr m)).2 ∧ s.frame m = (((s.blob (mfr m)).1.fixed 4).1, (s.blob (mfr m)).2) := by
  unfold RS.frame at hc ⊢
  by_cases h1 : ((s.blob (mfr m)).1.fixed 4).1.code = 0
  · rw [if_pos h1] at hc ⊢
    by_cases h2 : ((s.blob (mfr m)).1.fixed 4).2 = crcI (s.blob (mfr m)).2
    · rw [if_pos h2]; exact ⟨h1, h2, rfl⟩
    · rw [if_neg h2] at hc
      unfold RS.fail at hc
      rw [if_pos h1] at hc
      simp [flt] at hc
  · rw [if_neg h1] at hc; exact absurd hc h1
theorem frame_bad {s : RS} {m : Int} (hc : ¬ (s.frame m).1.code = 0) : (s.frame m).2 = [] := by
  unfold RS.frame at hc ⊢
  by_cases h1 : ((s.blob (mfr m)).1.fixed 4).1.code = 0
  · rw [if_pos h1] at hc ⊢
    by_cases h2 : ((s.blob (mfr m)).1.fixed 4).2 = crcI (s.blob (mfr m)).2
    · rw [if_pos h2] at hc; exact absurd h1 hc
    · rw [if_neg h2]
  · rw [if_neg h1]
/-- What has been read of a frame is put so again. -/
theorem frame_is {s : RS} (h : ROk s) {m : Int} (hc : (s.frame m).1.code = 0) : s.code = 0 ∧ ((s.frame m).2.length : Int) ≤ mfr m ∧ Bys (s.frame m).2 ∧ s.at_ < (s.frame m).1.at_ ∧ s.l.take (s.frame m).1.at_.toNat = s.l.take s.at_.toNat ++ frameB (s.frame m).2 := by
  obtain ⟨h1, h2, h3⟩ := frame_good hc
  obtain ⟨a, b⟩ := RS.ok.blob h (mfr m)
  have t := take_bytes a (n := 4) h1
  obtain ⟨t1, t2, t3, t4, t5⟩ := t
  obtain ⟨b1, b2, b3, b4⟩ := blob_is h t1
  have hs := blob_short h (mfr m)
  rw [h3]
  refine ⟨b1, b2, hs.2, ?_, ?_⟩
  · show s.at_ < ((s.blob (mfr m)).1.take 4).1.at_; omega
  · show s.l.take ((s.blob (mfr m)).1.take 4).1.at_.toNat = _
    rw [b] at t5
    rw [t5, b4, List.append_assoc]
    unfold frameB
    congr 2
    have hb : Bys ((s.blob (mfr m)).1.take 4).2 := take_bys a.bys 4
    have hl := low_fixOf hb
    have hlen : ((s.blob (mfr m)).1.take 4).2.length = 4 := by omega
    rw [hlen] at hl
    rw [← h2]
    exact hl.symm
theorem frame_own {s : RS} (h : ROk s) (hc : s.code = 0) {p r : List Int} {m : Int} (hp : Bys p) (hm : (p.length : Int) ≤ mfr m) (hr : s.rest = frameB p ++ r) : s.frame m = (s.adv ((frameB p).length : Int), p) := by
  have hn : p.length < 18446744073709551616 := by unfold mfr at hm; omega
  unfold frameB at hr
  rw [List.append_assoc] at hr
  have hb := blob_own h hc hm hn hr
  have hs2 := adv_ok h hr
  have hr2 : (s.adv ((blobB p).length : Int)).rest = lowBytes 4 (crcI p) ++ r := by rw [adv_rest h.at0, hr, List.drop_left]
  have ht := take_own hs2 (show (s.adv ((blobB p).length : Int)).code = 0 from hc) hr2
  rw [lowBytes_len] at ht
  have ht' : (s.adv ((blobB p).length : Int)).take 4 = ((s.adv ((blobB p).length : Int)).adv 4, lowBytes 4 (crcI p)) := ht
  have hcr := crcI_range hp
  have hf : (s.adv ((blobB p).length : Int)).fixed 4 = (s.adv ((frameB p).length : Int), crcI p) := by
    unfold RS.fixed
    rw [ht', fixOf_low 4 _ hcr.1 (by simpa using hcr.2), adv_adv, frameB_len]
    congr 2
  unfold RS.frame
  rw [hb]
  simp only
  rw [hf]
  simp only
  rw [if_pos (show (s.adv ((frameB p).length : Int)).code = 0 from hc), if_pos trivial]
theorem frameB_bys {p : List Int} (hp : Bys p) (h : p.length < 18446744073709551616) : Bys (frameB p) := by
  intro y hy
  rcases List.mem_append.1 hy with hy | hy
  · rcases List.mem_append.1 hy with hy | hy
    · exact vb_by (by omega) (by omega) y hy
    · exact hp y hy
  · exact lowBytes_bys 4 _ y hy
/-- A reader that stands within what is too short: a part of a number. -/
theorem vint_cut {s : RS} (h : ROk s) (hc : s.code = 0) {x : Int} (x0 : 0 ≤ x) (x1 : x < 18446744073709551616) {k : Nat} (hk : k < (vb x).length) (hr : s.rest = (vb x).take k) : s.vint = ({ s with at_ := s.l.length, code := 1, fat := s.l.length }, 0) := by
  have key : ∀ (n k : Nat) (y : Int) (i : Int), 0 ≤ y → y < 128 ^ (n + 1) → 0 ≤ i → (i = 0 ∨ 0 < y) → i + n ≤ 9 → (i + n = 9 → y < 2 * 128 ^ n) → k < (vbF n y).length → (vgo i ((vbF n y).take k)).1 = 1 := by
    intro n
    induction n with
    | zero =>
      intro k y i y0 y1 i0 iy _ _ hk
      have hk0 : k = 0 := by simp only [vbF, List.length_cons, List.length_nil] at hk; omega
      subst hk0; simp [vgo]
    | succ n ih =>
      intro k y i y0 y1 i0 iy i9 hy9 hk
      simp only [vbF] at hk ⊢
      by_cases hlt : y < 128
      · rw [if_pos hlt] at hk ⊢
        simp at hk; subst hk; simp [vgo]
      · rw [if_neg hlt] at hk ⊢
        cases k with
        | zero => simp [vgo]
        | succ k =>
          simp only [List.take_succ_cons, List.length_cons, Nat.add_lt_add_iff_right] at hk ⊢
          have hp : (0 : Int) < 128 ^ n := Int.pow_pos (by omega)
          rw [vgo_cons, if_neg (by omega), if_neg (by omega), if_neg (by omega)]
          rw [Int.pow_succ] at y1
          refine ih k (y / 128) (i + 1) (by omega) (by omega) (by omega) (.inr (by omega)) (by omega) (fun h => ?_) hk
          have := hy9 (by omega)
          rw [Int.pow_succ] at this
          omega
  have h1 : (vgo 0 ((vb x).take k)).1 = 1 := key 9 k x 0 x0 (by omega) (by omega) (.inl rfl) (by omega) (fun _ => by omega) hk
  unfold RS.vint
  rw [if_pos hc, hr, h1]
  rfl
end Go.Proofs.Ytkhnfleejgfhgaa
