/-
  Plain laws of chapter 31: beginnings of a header are short; a header of which a burst was turned about is told. No program.
-/
import Derived.Test.YtkhnfleejgfhgaaP18
import Derived.Test.YtkhnfleejgfhgaaP13
set_option linter.all false
set_option linter.unusedSimpArgs false
set_option linter.unusedVariables false
set_option linter.unnecessarySimpa false
namespace Go.Proofs.Ytkhnfleejgfhgaa

theorem take_stop {s : RS} (h : ¬ s.code = 0) (n : Int) : s.take n = (s, []) := by
  unfold RS.take RS.skip; rw [if_neg h]; rfl
theorem lets_stop {s : RS} (h : ¬ s.code = 0) : s.lets = s := by
  unfold RS.lets; rw [take_stop h, if_neg (by rintro ⟨c, _⟩; exact h c)]
theorem vers_stop {s : RS} (h : ¬ s.code = 0) : s.vers = (s, 0) := by
  unfold RS.vers; rw [take_stop h, if_neg h]
theorem epo_stop {s : RS} (h : ¬ s.code = 0) (ok : Int → Bool) : s.epo ok = (s, 0) := by
  unfold RS.epo; rw [vint_bad h, if_neg h]
theorem hbase_stop {s : RS} (h : ¬ s.code = 0) (v : Int) : s.hbase v = (s, 0) := by
  unfold RS.hbase; split
  · exact epo_stop h _
  · rfl
theorem hp_fail {s u : RS} (h : s.hplain.1 = u) (hu : ¬ u.code = 0) : s.header = (u, hd0) := by
  unfold RS.header RS.fixed
  rw [h, take_stop hu, if_neg hu]
theorem he_fail {s u : RS} {x : Int} (h : s.hbegin.1.epo epRight = (u, x)) (hu : ¬ u.code = 0) : s.header = (u, hd0) := by
  refine hp_fail ?_ hu
  unfold RS.hplain
  rw [h, hbase_stop hu]
theorem hb_fail {s u : RS} (h : s.hbegin.1 = u) (hu : ¬ u.code = 0) : s.header = (u, hd0) := he_fail (by rw [h, epo_stop hu]) hu
theorem left_rest {s : RS} (h : ROk s) : s.left = s.rest.length := by
  have h0 := h.at0
  have h1 := h.at1
  unfold RS.left RS.rest
  rw [List.length_drop]; omega
theorem fail_1 {s : RS} (h : s.code = 0) (a : Int) : (s.fail 1 a).code = 1 ∧ (s.fail 1 a).fat = a := by
  unfold RS.fail; rw [if_pos h]; exact ⟨rfl, rfl⟩
theorem hbegin_own {s : RS} {v : Int} {r : List Int} (hs : ROk s) (hc : s.code = 0) (h1 : 1 ≤ v ∧ v ≤ 3) (e1 : s.rest = thol ++ ([v] ++ r)) : s.hbegin = (s.adv 5, v) ∧ ROk (s.adv 5) ∧ (s.adv 5).rest = r := by
  have t1 := take_own hs hc e1
  have t1' : s.take 4 = (s.adv 4, thol) := t1
  have hl : s.lets = s.adv 4 := by unfold RS.lets; rw [t1']; simp
  have hs1 : ROk (s.adv 4) := adv_ok hs e1
  have e2 : (s.adv 4).rest = [v] ++ r := by
    have := adv_rest (s := s) hs.at0 4
    have e : s.adv ((4 : Nat) : Int) = s.adv 4 := rfl
    rw [e, e1] at this; exact this
  have t2 := take_own hs1 (show (s.adv 4).code = 0 from hc) e2
  have t2' : (s.adv 4).take 1 = ((s.adv 4).adv 1, [v]) := t2
  have e3 : (s.adv 5).rest = r := by
    have := adv_rest (s := s.adv 4) hs1.at0 1
    have e : (s.adv 4).adv ((1 : Nat) : Int) = s.adv 5 := by rw [adv_adv]; rfl
    rw [e, e2] at this; exact this
  refine ⟨?_, by have := adv_ok hs1 e2; rw [adv_adv] at this; exact this, e3⟩
  unfold RS.hbegin RS.vers
  rw [hl, t2']
  simp only [List.getD_cons_zero]
  rw [if_pos (show ((s.adv 4).adv 1).code = 0 from hc), if_pos h1, adv_adv]; rfl
def baseB (h : Hd) : List Int := if h.ver = 1 then vb h.base else []
theorem headerB_parts (h : Hd) : headerB h = thol ++ ([h.ver] ++ (vb h.ep ++ (baseB h ++ lowBytes 4 (crcI (plainB h))))) := by
  unfold headerB
  conv => lhs; arg 1; unfold plainB
  simp only [List.append_assoc]; rfl
theorem plainB_parts (h : Hd) : plainB h = thol ++ ([h.ver] ++ (vb h.ep ++ baseB h)) := by
  unfold plainB baseB
  simp only [List.append_assoc]
theorem plainB_len' (h : Hd) : (plainB h).length = 5 + ((vb h.ep).length + (baseB h).length) := by
  rw [plainB_parts]; simp only [List.length_append, thol, List.length_cons, List.length_nil]; omega
/-- A beginning of a header is short. -/
theorem header_cut {h : Hd} (hr : rightH h = true) (hb : 0 ≤ h.base) {k : Nat} (hk : k < (headerB h).length) :
    (RS.new ((headerB h).take k)).header.1.code = 1 ∧ (RS.new ((headerB h).take k)).header.1.fat = k ∧
    (k < 5 → (RS.new ((headerB h).take k)).hbegin.1.code = 1 ∧ (RS.new ((headerB h).take k)).hbegin.1.fat = k) ∧
    (5 ≤ k → (RS.new ((headerB h).take k)).hbegin.1.code = 0 ∧ (RS.new ((headerB h).take k)).hbegin.2 = h.ver) := by
  obtain ⟨h1, h2, h3, h4⟩ := rightH_iff.1 hr
  have hB := headerB_bys hr hb
  have hlen := headerB_len h
  have hpl := plainB_len h
  have hbl : ((headerB h).take k).length = k := by rw [List.length_take]; omega
  have hok : ROk (RS.new ((headerB h).take k)) := ROk.new (fun x hx => hB x (List.mem_of_mem_take hx)) (by omega)
  have hparts := headerB_parts h
  by_cases k5 : k < 5
  · have fin : ∀ u : RS, (RS.new ((headerB h).take k)).hbegin.1 = u → u.code = 1 → u.fat = k → _ := fun u e1 e2 e3 => by
      have e := hb_fail e1 (by rw [e2]; decide)
      refine (⟨by rw [e]; exact e2, by rw [e]; exact e3, fun _ => by rw [e1]; exact ⟨e2, e3⟩, fun h => by omega⟩ : (RS.new ((headerB h).take k)).header.1.code = 1 ∧ (RS.new ((headerB h).take k)).header.1.fat = k ∧
        (k < 5 → (RS.new ((headerB h).take k)).hbegin.1.code = 1 ∧ (RS.new ((headerB h).take k)).hbegin.1.fat = k) ∧
        (5 ≤ k → (RS.new ((headerB h).take k)).hbegin.1.code = 0 ∧ (RS.new ((headerB h).take k)).hbegin.2 = h.ver))
    by_cases k4 : k < 4
    · have t := take_short' (s := RS.new ((headerB h).take k)) (n := 4) rfl (by decide) (by rw [left_rest hok, new_rest, hbl]; omega)
      have hl1 : (RS.new ((headerB h).take k)).l.length = k := hbl
      rw [hl1] at t
      obtain ⟨c1, c2⟩ := fail_1 (s := RS.new ((headerB h).take k)) rfl (k : Int)
      have hlt : (RS.new ((headerB h).take k)).lets = (RS.new ((headerB h).take k)).fail 1 k := by
        unfold RS.lets; rw [t]; simp only; rw [if_neg (by rw [c1]; simp)]
      refine fin _ ?_ c1 c2
      unfold RS.hbegin
      rw [hlt, vers_stop (by rw [c1]; decide)]
    · obtain rfl : k = 4 := by omega
      have e4 : (headerB h).take 4 = thol := by rw [hparts]; exact List.take_left' rfl
      rw [e4] at hok ⊢
      have e1 : (RS.new thol).rest = thol ++ [] := by rw [new_rest, List.append_nil]
      have t1 := take_own hok rfl e1
      have t1' : (RS.new thol).take 4 = ((RS.new thol).adv 4, thol) := t1
      have hl : (RS.new thol).lets = (RS.new thol).adv 4 := by unfold RS.lets; rw [t1']; simp
      have hs1 : ROk ((RS.new thol).adv 4) := adv_ok hok e1
      have t2 := take_short' (s := (RS.new thol).adv 4) (n := 1) rfl (by decide) (by decide)
      have hl2 : (((RS.new thol).adv 4).l.length : Int) = (4 : Nat) := rfl
      rw [hl2] at t2
      obtain ⟨c1, c2⟩ := fail_1 (s := (RS.new thol).adv 4) rfl ((4 : Nat) : Int)
      have hv : (RS.new thol).hbegin = (((RS.new thol).adv 4).fail 1 (4 : Nat), 0) := by
        unfold RS.hbegin RS.vers
        rw [hl, t2]; simp only; rw [if_neg (by rw [c1]; decide)]
      have e := hb_fail (u := ((RS.new thol).adv 4).fail 1 (4 : Nat)) (by rw [hv]) (by rw [c1]; decide)
      rw [e, hv]
      exact ⟨c1, c2, fun _ => ⟨c1, c2⟩, fun h => by omega⟩
  · obtain ⟨j, rfl⟩ : ∃ j, k = 5 + j := ⟨k - 5, by omega⟩
    obtain ⟨Y, hY⟩ : ∃ Y, vb h.ep ++ (baseB h ++ lowBytes 4 (crcI (plainB h))) = Y := ⟨_, rfl⟩
    have e0 : (headerB h).take (5 + j) = thol ++ ([h.ver] ++ Y.take j) := by
      have e : headerB h = (thol ++ [h.ver]) ++ Y := by rw [hparts, hY, List.append_assoc]
      have l5 : (thol ++ [h.ver]).length = 5 := rfl
      rw [e, ← l5, List.take_length_add_append, List.append_assoc]
    have hl1 : (((RS.new ((headerB h).take (5 + j))).l.length : Nat) : Int) = ((5 + j : Nat) : Int) := by rw [show (RS.new ((headerB h).take (5 + j))).l = (headerB h).take (5 + j) from rfl, hbl]
    obtain ⟨w1, w2, w3⟩ := hbegin_own hok rfl h1 (by rw [new_rest, e0])
    have hbn : (RS.new ((headerB h).take (5 + j))).hbegin.1.code = 0 ∧ (RS.new ((headerB h).take (5 + j))).hbegin.2 = h.ver := by rw [w1]; exact ⟨rfl, rfl⟩
    suffices hx : (RS.new ((headerB h).take (5 + j))).header.1.code = 1 ∧ (RS.new ((headerB h).take (5 + j))).header.1.fat = ((5 + j : Nat) : Int) from ⟨hx.1, hx.2, fun h => by omega, fun _ => hbn⟩
    obtain ⟨s5, hs5⟩ : ∃ s5, (RS.new ((headerB h).take (5 + j))).adv 5 = s5 := ⟨_, rfl⟩
    have c5 : s5.code = 0 := by rw [← hs5]; rfl
    have l5 : ((s5.l.length : Nat) : Int) = ((5 + j : Nat) : Int) := by rw [← hs5]; exact hl1
    rw [hs5] at w1 w2 w3
    by_cases je : j < (vb h.ep).length
    · have r5 : s5.rest = (vb h.ep).take j := by rw [w3, ← hY, List.take_append_of_le_length (by omega)]
      have hv := vint_cut w2 c5 (x := h.ep) (by omega) (by omega) je r5
      have he : s5.epo epRight = ({ s5 with at_ := s5.l.length, code := 1, fat := s5.l.length }, 0) := by
        unfold RS.epo; rw [hv]; simp only; rw [if_neg (by decide)]
      have e := he_fail (s := RS.new ((headerB h).take (5 + j))) (u := { s5 with at_ := s5.l.length, code := 1, fat := s5.l.length }) (x := 0) (by rw [w1]; exact he) (by show ¬ (1 : Int) = 0; decide)
      rw [e]; exact ⟨rfl, l5⟩
    · have r5 : s5.rest = vb h.ep ++ (baseB h ++ lowBytes 4 (crcI (plainB h))).take (j - (vb h.ep).length) := by
        rw [w3, ← hY, List.take_append, List.take_of_length_le (by omega)]
      have he := epo_own (ok := epRight) c5 (by omega) (by omega) (epRight_iff.2 h2) r5
      have k6 := adv_ok w2 r5
      have r6 : (s5.adv ((vb h.ep).length : Int)).rest = (baseB h ++ lowBytes 4 (crcI (plainB h))).take (j - (vb h.ep).length) := by rw [adv_rest w2.at0, r5, List.drop_left]
      have l6 : (((s5.adv ((vb h.ep).length : Int)).l.length : Nat) : Int) = ((5 + j : Nat) : Int) := l5
      have c6 : (s5.adv ((vb h.ep).length : Int)).code = 0 := c5
      generalize s5.adv ((vb h.ep).length : Int) = s6 at *
      obtain ⟨m, hm⟩ : ∃ m, j - (vb h.ep).length = m := ⟨_, rfl⟩
      rw [hm] at r6
      have hpe : (RS.new ((headerB h).take (5 + j))).hplain.1 = (s6.hbase h.ver).1 := by
        unfold RS.hplain; rw [w1]; simp only; rw [he]
      have last : ∀ s7 : RS, (s6.hbase h.ver).1 = s7 → ROk s7 → s7.code = 0 → ((s7.l.length : Nat) : Int) = ((5 + j : Nat) : Int) → s7.rest.length < 4 → (RS.new ((headerB h).take (5 + j))).header.1.code = 1 ∧ (RS.new ((headerB h).take (5 + j))).header.1.fat = ((5 + j : Nat) : Int) := fun s7 e7 k7 c7 l7 r7 => by
        have t := take_short' (s := s7) (n := 4) c7 (by decide) (by rw [left_rest k7]; omega)
        obtain ⟨d1, d2⟩ := fail_1 c7 (s7.l.length : Int)
        have e : (RS.new ((headerB h).take (5 + j))).header = (s7.fail 1 s7.l.length, hd0) := by
          unfold RS.header RS.fixed
          rw [hpe, e7, t]; simp only; rw [if_neg (by rw [d1]; decide)]
        rw [e]; exact ⟨d1, d2.trans l7⟩
      have hll := lowBytes_len 4 (crcI (plainB h))
      have hp5 := plainB_len' h
      by_cases hv : h.ver = 1
      · have hbb : baseB h = vb h.base := by unfold baseB; rw [if_pos hv]
        rw [hbb] at r6 hp5
        by_cases jb : m < (vb h.base).length
        · have r6' : s6.rest = (vb h.base).take m := by rw [r6, List.take_append_of_le_length (by omega)]
          have hv' := vint_cut k6 c6 (x := h.base) hb (by omega) jb r6'
          have hep : s6.hbase h.ver = ({ s6 with at_ := s6.l.length, code := 1, fat := s6.l.length }, 0) := by
            unfold RS.hbase; rw [if_pos hv]; unfold RS.epo; rw [hv']; simp only; rw [if_neg (by decide)]
          have e := hp_fail (s := RS.new ((headerB h).take (5 + j))) (u := { s6 with at_ := s6.l.length, code := 1, fat := s6.l.length }) (hpe.trans (by rw [hep])) (by show ¬ (1 : Int) = 0; decide)
          rw [e]; exact ⟨rfl, l6⟩
        · have r6' : s6.rest = vb h.base ++ (lowBytes 4 (crcI (plainB h))).take (m - (vb h.base).length) := by rw [r6, List.take_append, List.take_of_length_le (by omega)]
          have hep := epo_own (ok := epPos) c6 hb (by omega) (epPos_iff.2 h3) r6'
          refine last _ (by unfold RS.hbase; rw [if_pos hv, hep]) (adv_ok k6 r6') c6 l6 ?_
          rw [adv_rest k6.at0, r6', List.drop_left, List.length_take]; omega
      · have hbb : baseB h = [] := by unfold baseB; rw [if_neg hv]
        rw [hbb, List.nil_append] at r6
        rw [hbb, List.length_nil] at hp5
        refine last s6 (by unfold RS.hbase; rw [if_neg hv]) k6 c6 l6 ?_
        rw [r6, List.length_take]; omega
theorem getD_mid (a b c : List Int) (j : Nat) (hj : j < b.length) : (a ++ (b ++ c)).getD (a.length + j) 0 = b.getD j 0 := by
  rw [List.getD_eq_getElem?_getD, List.getD_eq_getElem?_getD, List.getElem?_append_right (by omega), Nat.add_sub_cancel_left, List.getElem?_append_left hj]
theorem getD_pre {x y : List Int} {n : Nat} (h : x.take n = y) (i : Nat) (hi : i < y.length) : x.getD i 0 = y.getD i 0 := by
  subst h
  rw [List.length_take] at hi
  rw [List.getD_eq_getElem?_getD, List.getD_eq_getElem?_getD, List.getElem?_take_of_lt (by omega)]
theorem vbF_tops : ∀ (n : Nat) (x : Int), 0 ≤ x → x < 128 ^ (n + 1) → ∀ i, i < (vbF n x).length → (vbF n x).getD i 0 / 128 = if i + 1 < (vbF n x).length then 1 else 0 := by
  intro n
  induction n with
  | zero =>
    intro x x0 x1 i hi
    simp only [vbF, List.length_cons, List.length_nil] at hi ⊢
    obtain rfl : i = 0 := by omega
    simp only [List.getD_cons_zero]
    omega
  | succ n ih =>
    intro x x0 x1 i hi
    by_cases hx : x < 128
    · have e : vbF (n + 1) x = [x] := by simp only [vbF]; rw [if_pos hx]
      rw [e] at hi ⊢
      simp only [List.length_cons, List.length_nil] at hi ⊢
      obtain rfl : i = 0 := by omega
      simp only [List.getD_cons_zero]
      omega
    · have e : vbF (n + 1) x = (128 + x % 128) :: vbF n (x / 128) := by simp only [vbF]; rw [if_neg hx]
      rw [e] at hi ⊢
      rw [Int.pow_succ] at x1
      cases i with
      | zero =>
        have := (vbF_len n (x / 128)).1
        simp only [List.getD_cons_zero, List.length_cons]
        rw [if_pos (by omega)]; omega
      | succ i =>
        simp only [List.getD_cons_succ, List.length_cons] at hi ⊢
        rw [ih (x / 128) (by omega) (by omega) i (by omega)]
        split <;> split <;> omega
theorem vb_tops {x : Int} (x0 : 0 ≤ x) (x1 : x < 18446744073709551616) {i : Nat} (hi : i < (vb x).length) : (vb x).getD i 0 / 128 = if i + 1 < (vb x).length then 1 else 0 := vbF_tops 9 x x0 (by omega) i hi
/-- Numbers whose bytes' first digits are alike are of one length. -/
theorem vb_alike {x y : Int} (x0 : 0 ≤ x) (x1 : x < 18446744073709551616) (y0 : 0 ≤ y) (y1 : y < 18446744073709551616) {p q r s : List Int} (hpq : p.length = q.length)
    (h : ∀ i, i < (vb y).length → i < (vb x).length → (p ++ (vb x ++ r)).getD (p.length + i) 0 / 128 = (q ++ (vb y ++ s)).getD (p.length + i) 0 / 128) : (vb x).length = (vb y).length := by
  have lx := vb_len x
  have ly := vb_len y
  by_cases h1 : (vb x).length < (vb y).length
  · have e := h ((vb x).length - 1) (by omega) (by omega)
    rw [getD_mid _ _ _ _ (by omega), hpq, getD_mid _ _ _ _ (by omega), vb_tops x0 x1 (by omega), vb_tops y0 y1 (by omega), if_neg (by omega), if_pos (by omega)] at e
    omega
  · by_cases h2 : (vb y).length < (vb x).length
    · have e := h ((vb y).length - 1) (by omega) (by omega)
      rw [getD_mid _ _ _ _ (by omega), hpq, getD_mid _ _ _ _ (by omega), vb_tops x0 x1 (by omega), vb_tops y0 y1 (by omega), if_pos (by omega), if_neg (by omega)] at e
      omega
    · omega
theorem tbyte_no {x : Nat} {f : Nat → Bool} : ∀ n, (∀ j, j < n → f j = false) → tbyte x f n = x := by
  intro n
  induction n with
  | zero => intro _; rfl
  | succ n ih => intro h; unfold tbyte; rw [if_neg (by rw [h n (by omega)]; decide), ih fun j hj => h j (by omega)]
theorem tbyte_congr {x : Nat} {f g : Nat → Bool} : ∀ n, (∀ j, j < n → f j = g j) → tbyte x f n = tbyte x g n := by
  intro n
  induction n with
  | zero => intro _; rfl
  | succ n ih => intro h; unfold tbyte; rw [h n (by omega), ih fun j hj => h j (by omega)]
theorem turnN_app (a b : List Nat) (at_ d : Nat) : turnN (a ++ b) ((8 * a.length + at_ : Nat) : Int) d = a ++ turnN b at_ d := by
  refine List.ext_getElem (by simp [turnN]) fun k h1 h2 => ?_
  simp only [turnN, List.length_map, List.length_range, List.length_append] at h1
  simp only [turnN, List.getElem_map, List.getElem_range, List.getElem_append]
  by_cases hk : k < a.length
  · rw [dif_pos hk]
    have e : (a ++ b).getD k 0 = a[k] := by simp [List.getElem?_append_left hk, hk]
    rw [e]
    refine tbyte_no 8 fun j hj => ?_
    unfold isT
    rw [decide_eq_false (by omega)]; rfl
  · rw [dif_neg hk]
    have e : (a ++ b).getD k 0 = b.getD (k - a.length) 0 := by rw [List.getD_eq_getElem?_getD, List.getD_eq_getElem?_getD, List.getElem?_append_right (by omega)]
    rw [e]
    refine tbyte_congr 8 fun j hj => ?_
    unfold isT
    have e1 : (((8 * k + j : Nat) : Int) - ((8 * a.length + at_ : Nat) : Int)).toNat = (((8 * (k - a.length) + j : Nat) : Int) - (at_ : Int)).toNat := by omega
    rw [e1]
    congr 1
    rw [decide_eq_decide]
    omega
theorem turnB_app {a : List Int} (ha : Bys a) (b : List Int) (at_ d : Nat) : turnB (a ++ b) ((8 * a.length + at_ : Nat) : Int) d = a ++ turnB b at_ d := by
  unfold turnB
  have e := turnN_app (nats a) (nats b) at_ d
  rw [nats_len] at e
  rw [nats_append, e, List.map_append, nats_back ha]
/-- A header of which a burst was turned about, its numbers' lengths being left, is told. -/
theorem header_turn {h : Hd} (hr : rightH h = true) (hb : 0 ≤ h.base) {at_ d : Nat} {x : List Int} (hx : x = (headerB h).take 5 ++ turnB ((headerB h).drop 5) at_ d) (hne : x ≠ headerB h)
    (htop : ∀ i, 5 ≤ i → i < (headerB h).length - 4 → x.getD i 0 / 128 = (headerB h).getD i 0 / 128) : ¬ (RS.new x).header.1.code = 0 := by
  intro hc
  obtain ⟨h1, h2, h3, h4⟩ := rightH_iff.1 hr
  have hB := headerB_bys hr hb
  have hlen := headerB_len h
  have hpl := plainB_len h
  have hb5 : Bys ((headerB h).take 5) := fun y hy => hB y (List.mem_of_mem_take hy)
  have hbd : Bys ((headerB h).drop 5) := fun y hy => hB y (List.mem_of_mem_drop hy)
  have l5 : ((headerB h).take 5).length = 5 := by rw [List.length_take]; omega
  have hxl : x.length = (headerB h).length := by rw [hx, List.length_append, turnB_len, l5, List.length_drop]; omega
  have hxb : Bys x := by
    rw [hx]; intro y hy
    rcases List.mem_append.1 hy with hy | hy
    · exact hb5 y hy
    · exact turnB_bys hbd _ _ y hy
  have hxt : x = turnB (plainB h ++ lowBytes 4 (crcI (plainB h))) ((40 + at_ : Nat) : Int) d := by
    have e := turnB_app hb5 ((headerB h).drop 5) at_ d
    rw [List.take_append_drop, l5] at e
    rw [hx, ← e]; rfl
  have hok : ROk (RS.new x) := ROk.new hxb (by omega)
  obtain ⟨i1, i2, i3, i4, i5⟩ := header_is hok hc
  have e0 : (RS.new x).l.take (RS.new x).at_.toNat = [] := by simp [RS.new]
  have e1 : (RS.new x).l = x := rfl
  rw [e0, e1, List.nil_append] at i5
  generalize (RS.new x).header.2 = g at *
  generalize (RS.new x).header.1.at_.toNat = n at *
  obtain ⟨g1, g2, g3, g4⟩ := rightH_iff.1 i2
  have hgl := headerB_len g
  have hgp := plainB_len g
  have pg := headerB_parts g
  have ph := headerB_parts h
  have lg := plainB_len' g
  have lh := plainB_len' h
  have lng := lowBytes_len 4 (crcI (plainB g))
  -- the version
  have ev : g.ver = h.ver := by
    have a1 := getD_pre i5 4 (by omega)
    have a2 : (headerB g).getD 4 0 = g.ver := by rw [pg]; rfl
    have a3 : x.getD 4 0 = (headerB h).getD 4 0 := by
      rw [hx, List.getD_eq_getElem?_getD, List.getElem?_append_left (by omega), List.getElem?_take_of_lt (by omega), List.getD_eq_getElem?_getD]
    have a4 : (headerB h).getD 4 0 = h.ver := by rw [ph]; rfl
    rw [← a2, ← a1, a3, a4]
  have key : ∀ i, 5 ≤ i → i < (headerB h).length - 4 → i < (headerB g).length → (headerB g).getD i 0 / 128 = (headerB h).getD i 0 / 128 := fun i a b c => by
    rw [← getD_pre i5 i c]; exact htop i a b
  have le : (vb g.ep).length = (vb h.ep).length := by
    refine vb_alike (p := thol ++ [g.ver]) (q := thol ++ [h.ver]) (r := baseB g ++ lowBytes 4 (crcI (plainB g))) (s := baseB h ++ lowBytes 4 (crcI (plainB h))) (by omega) (by omega) (by omega) (by omega) rfl fun i a b => ?_
    have k := key (5 + i) (by omega) (by omega) (by omega)
    rw [pg, ph] at k
    rw [List.append_assoc, List.append_assoc]; exact k
  have lb : (baseB g).length = (baseB h).length := by
    by_cases hv : h.ver = 1
    · have b1 : baseB g = vb g.base := by unfold baseB; rw [if_pos (by omega)]
      have b2 : baseB h = vb h.base := by unfold baseB; rw [if_pos hv]
      rw [b1, b2]
      have z1 : (thol ++ [g.ver] ++ vb g.ep).length = 5 + (vb g.ep).length := by rw [List.length_append]; rfl
      have z2 : (thol ++ [h.ver] ++ vb h.ep).length = 5 + (vb h.ep).length := by rw [List.length_append]; rfl
      refine vb_alike (p := thol ++ [g.ver] ++ vb g.ep) (q := thol ++ [h.ver] ++ vb h.ep) (r := lowBytes 4 (crcI (plainB g))) (s := lowBytes 4 (crcI (plainB h))) i3 (by omega) hb (by omega) (by omega) fun i a b => ?_
      rw [b1] at lg
      rw [b2] at lh
      have k := key (5 + (vb g.ep).length + i) (by omega) (by omega) (by omega)
      rw [pg, ph, b1, b2] at k
      rw [z1]
      simp only [List.append_assoc]; exact k
    · unfold baseB; rw [if_neg hv, if_neg (by omega)]
  have hfull : x = headerB g := by
    have hl := congrArg List.length i5
    rw [List.length_take] at hl
    rw [← i5, List.take_of_length_le (by omega)]
  have hpg : (plainB g).length = (plainB h).length := by omega
  have hcr := crcI_range (plainB_bys i2 i3)
  have hcrh := crcI_range (plainB_bys hr hb)
  refine burst_sum (plainB_bys hr hb) (lowBytes_bys 4 (crcI (plainB h))) (lowBytes_len 4 _) (fixOf_low 4 _ hcrh.1 (by simpa using hcrh.2)) (at_ := 40 + at_) (d := d) (by rw [← hxt]; exact hne) ?_
  rw [← hxt, hfull]
  unfold headerB
  rw [← hpg, List.drop_left, List.take_left, fixOf_low 4 _ hcr.1 (by simpa using hcr.2)]
end Go.Proofs.Ytkhnfleejgfhgaa
