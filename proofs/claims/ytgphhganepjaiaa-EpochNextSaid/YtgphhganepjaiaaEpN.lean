/-
  Contracts of epoch.Next and epoch.Latest.
-/
import Derived.Test.YtgphhganepjaiaaEpB
import Derived.Test.YtgphhganepjaiaaCellEpochNext
import Derived.Lib.Hide
namespace Go.Proofs.Ytgphhganepjaiaa
open Go.RowKit Go.ChangeShapes Go.WideShapes Go.ChangeAt

def epNext (e : Int) : Int × Bool := if (epRight e && epRight (e + 1)) = true then (e + 1, true) else (0, false)
def epMost (l : List Int) : Int := l.foldl max 0
def epLatest (l : List Int) : Int × Bool := if l.all epRight = true then (epMost l, decide (0 < epMost l)) else (0, false)

theorem epMost_snoc (l : List Int) (x : Int) : epMost (l ++ [x]) = max (epMost l) x := by simp [epMost]
theorem epMost_nn (l : List Int) : 0 ≤ epMost l := by
  unfold epMost
  suffices ∀ (l : List Int) a, 0 ≤ a → 0 ≤ l.foldl max a from this l 0 (by omega)
  intro l
  induction l with
  | nil => intro a h; simpa using h
  | cons x l ih => intro a h; simp only [List.foldl_cons]; exact ih _ (by omega)

set_option maxHeartbeats 400000 in
theorem epoch_Next (e : Int) (h0 : 0 ≤ e) (h1 : e < 18446744073709551616) (w : World) :
    Calls Try.prog 31 #[.int .u64 e] w fun r w' => r = .returned (.tuple #[.int .u64 (epNext e).1, .bool (epNext e).2]) ∧ w = w' := by
  by_cases hr : epRight e = true
  · have hb : e < 4611686018427387904 := by simp [epRight] at hr; omega
    go_enter Try.func31, Try.ntmps31
    go_wp2_with (go_at_call 34; (with_reducible refine (epoch_Right _ (by omega) _).mono ?_); rintro r w' ⟨rfl, rfl⟩)
    all_goals (go_ret2; exact ⟨by simp_all [epNext], rfl⟩)
  · have hr' : epRight e = false := by simpa using hr
    clear hr
    go_enter Try.func31, Try.ntmps31
    go_wp2_with (go_at_call 34; (with_reducible refine (epoch_Right _ (by omega) _).mono ?_); rintro r w' ⟨rfl, rfl⟩)
    all_goals (go_ret2; exact ⟨by simp_all [epNext], rfl⟩)

set_option maxHeartbeats 400000 in
theorem epoch_Latest (v : Value) (l : List Int) (F : Nat → Prop) (w : World) (hv : RdI .u64 w F v l) (hl : U64s l) :
    Calls Try.prog 33 #[v] w fun r w' => r = .returned (.tuple #[.int .u64 (epLatest l).1, .bool (epLatest l).2]) ∧ w = w' := by
  obtain ⟨A, c, rfl, hlc, hcm, hA⟩ := hv
  unfold maxLen at hcm
  go_enter Try.func33, Try.ntmps33
  go_wp2
  go_loop [4, 9] (fun out i => ∃ k : Nat, k ≤ l.length ∧ i = .int .i64 k ∧ out = .int .u64 (epMost (l.take k)) ∧ (l.take k).all epRight = true) (fun _ i => l.length - (intOf i).toNat)
  case atStart => exact ⟨0, Nat.zero_le _, rfl, rfl, rfl⟩
  case round =>
    obtain ⟨k, hk, rfl, rfl, hall⟩ := hrel
    have Hall := Lib.hid hall
    clear hall
    have hnn := epMost_nn (l.take k)
    by_cases hlt : k < l.length
    · obtain ⟨b, o, rfl, _, hc⟩ := hA (by omega)
      obtain ⟨x, hx⟩ : ∃ x, l.getD k 0 = x := ⟨_, rfl⟩
      have hck := hc k hlt
      rw [hx] at hck
      have hxb : 0 ≤ x := hx ▸ (hl _ (getD_mem l k hlt)).1
      have hts := take_snoc l k hlt
      rw [hx] at hts
      have HX := Lib.hid hx
      have HT := Lib.hid hts
      clear hx hts hc hA hl
      obtain ⟨m, hm⟩ : ∃ m, epMost (l.take k) = m := ⟨_, rfl⟩
      rw [hm] at hnn ⊢
      have HM := Lib.hid hm
      clear hm
      by_cases hr : epRight x = true
      · go_wp2_with (go_at_call 34; (with_reducible refine (epoch_Right _ (by omega) _).mono ?_); rintro r w' ⟨rfl, rfl⟩)
        go_round
        case rel => exact ⟨k + 1, by omega, by go_num, by rw [HT.out, epMost_snoc, HM.out]; congr 1; split <;> omega, by rw [HT.out, List.all_append, Hall.out]; simp [hr]⟩
        case measure => simp [intOf]; omega
      · have hr' : epRight x = false := by simpa using hr
        clear hr
        go_wp2_with (go_at_call 34; (with_reducible refine (epoch_Right _ (by omega) _).mono ?_); rintro r w' ⟨rfl, rfl⟩)
        go_ret2
        have hno : l.all epRight = false := by
          rw [List.all_eq_false]
          exact ⟨x, HX.out ▸ getD_mem l k hlt, by simp [hr']⟩
        exact ⟨by simp [epLatest, hno], rfl⟩
    · go_wp2
      go_ret2
      have e : l.take k = l := List.take_of_length_le (by omega)
      have h2 := Hall.out
      rw [e] at h2
      exact ⟨by simp [epLatest, h2, e], rfl⟩

def epGood (n : Nat) (l : List Int) : Bool := decide (0 < n) && l.all epRight
theorem epMost_pos {l : List Int} (h : l.all epRight = true) (h0 : 0 < l.length) : 0 < epMost l := by
  have key : ∀ (l : List Int) a, (∀ x ∈ l, 1 ≤ x) → 0 < l.length → 0 < l.foldl max a := by
    intro l
    induction l with
    | nil => intro a _ h; simp at h
    | cons x l ih =>
      intro a hx _
      simp only [List.foldl_cons]
      have h1 := hx x (List.mem_cons_self ..)
      cases l with
      | nil => simp; omega
      | cons y l => exact ih _ (fun z hz => hx z (List.mem_cons_of_mem _ hz)) (by simp)
  refine key l 0 (fun x hx => ?_) h0
  have := List.all_eq_true.1 h x hx
  simp [epRight] at this
  omega
theorem epLatest_good {l : List Int} (h : epGood l.length l = true) : epLatest l = (epMost l, true) := by
  unfold epGood at h
  simp only [Bool.and_eq_true, decide_eq_true_eq] at h
  unfold epLatest
  rw [if_pos h.2]
  have := epMost_pos h.2 h.1
  simp [this]
theorem epLatest_not {l : List Int} (h : epGood l.length l = false) : epLatest l = (0, false) := by
  unfold epLatest
  by_cases h1 : l.all epRight = true
  · have h0 : l = [] := by
      unfold epGood at h
      rw [h1] at h
      cases l with
      | nil => rfl
      | cons x l => simp at h
    subst h0
    rfl
  · rw [if_neg h1]
theorem epGood_snoc (n : Nat) (l : List Int) (x : Int) : epGood n (l ++ [x]) = (epGood n l && epRight x) := by
  simp [epGood, Bool.and_assoc]
theorem epNext_yes {e : Int} (h1 : epRight e = true) (h2 : epRight (e + 1) = true) : epNext e = (e + 1, true) := by
  unfold epNext; rw [h1, h2]; rfl
theorem epNext_no {e : Int} (h : (epRight e && epRight (e + 1)) = false) : epNext e = (0, false) := by
  unfold epNext; rw [h]; rfl
theorem epRight_lt {e : Int} (h : epRight e = true) : e < 4611686018427387904 := by
  simp [epRight] at h; omega

set_option maxHeartbeats 2000000 in
theorem law_EpochNext (e : Int) (v : Value) (l : List Int) (F : Nat → Prop) (h0 : 0 ≤ e) (h1 : e < 18446744073709551616) (w : World) (hv : RdI .u64 w F v l) (hl : U64s l) :
    Calls Try.prog 4 #[.int .u64 e, v] w fun r w' => r = .returned (.bool true) ∧ Below w.heap.size w w' := by
  have hv0 := hv
  obtain ⟨A, c, rfl, hlc, hcm, hA⟩ := hv
  unfold maxLen at hcm
  by_cases hbig : 200 < l.length
  · go_enter Try.func4, Try.ntmps4
    go_wp2_with (go_at_call 30; (with_reducible refine (law17_live _).mono ?_); rintro r w' ⟨rfl, rfl⟩)
    go_ret
    exact ⟨rfl, Below.refl _ _⟩
  · have cases3 : (epRight e = true ∧ epRight (e + 1) = true ∧ e < 4611686018427387904 ∧ epNext e = (e + 1, true)) ∨ (epRight e = true ∧ epRight (e + 1) = false ∧ e < 4611686018427387904 ∧ epNext e = (0, false)) ∨ (epRight e = false ∧ epNext e = (0, false)) := by
      by_cases r1 : epRight e = true
      · by_cases r2 : epRight (e + 1) = true
        · exact .inl ⟨r1, r2, epRight_lt r1, epNext_yes r1 r2⟩
        · have r2' : epRight (e + 1) = false := by simpa using r2
          exact .inr (.inl ⟨r1, r2', epRight_lt r1, epNext_no (by rw [r2']; simp)⟩)
      · have r1' : epRight e = false := by simpa using r1
        exact .inr (.inr ⟨r1', epNext_no (by rw [r1']; simp)⟩)
    have HV := Lib.hid hv0
    clear hv0
    rcases cases3 with ⟨r1, r2, r3, r4⟩ | ⟨r1, r2, r3, r4⟩ | ⟨r1, r4⟩
    all_goals
      go_enter Try.func4, Try.ntmps4
      go_wp2_with (first | (go_at_call 31; (with_reducible refine (epoch_Next _ (by omega) (by omega) _).mono ?_); rintro r w' ⟨rfl, rfl⟩) | (go_at_call 32; (with_reducible refine (ref17_Right _ (by omega) _).mono ?_); rintro r w' ⟨rfl, rfl⟩))
      all_goals
        go_loop [7, 8, 9] (fun g m i => ∃ k : Nat, k ≤ l.length ∧ i = .int .i64 k ∧ m = .int .u64 (epMost (l.take k)) ∧ g = .bool (epGood l.length (l.take k))) (fun _ _ i => l.length - (intOf i).toNat)
        case atStart => exact ⟨0, Nat.zero_le _, rfl, rfl, by simp [epGood]⟩
        case round =>
          obtain ⟨k, hk, rfl, rfl, rfl⟩ := hrel
          obtain ⟨G, hG⟩ : ∃ G, epGood l.length (l.take k) = G := ⟨_, rfl⟩
          obtain ⟨m, hm⟩ : ∃ m, epMost (l.take k) = m := ⟨_, rfl⟩
          rw [hG, hm]
          have HG := Lib.hid hG
          have HM := Lib.hid hm
          clear hG hm
          by_cases hlt : k < l.length
          · obtain ⟨b, o, rfl, _, hc⟩ := hA (by omega)
            obtain ⟨x, hx⟩ : ∃ x, l.getD k 0 = x := ⟨_, rfl⟩
            have hck := hc k hlt
            rw [hx] at hck
            have hxb : 0 ≤ x := hx ▸ (hl _ (getD_mem l k hlt)).1
            have hts := take_snoc l k hlt
            rw [hx] at hts
            have HT := Lib.hid hts
            clear hx hts hc hA hl
            cases G
            all_goals
              go_wp2_with (go_at_call 32; (with_reducible refine (ref17_Right _ (by omega) _).mono ?_); rintro r w' ⟨rfl, rfl⟩)
              go_round
              case rel => exact ⟨k + 1, by omega, by go_num, by rw [HT.out, epMost_snoc, HM.out]; congr 1; split <;> omega, by rw [HT.out, epGood_snoc, HG.out]; simp⟩
              case measure => simp [intOf]; omega
          · have ek : l.take k = l := List.take_of_length_le (by omega)
            have hG := HG.out
            have hm := HM.out
            rw [ek] at hG hm
            cases G
            · have hL := epLatest_not hG
              clear hG hm
              go_wp2_with (first | (go_at_call 33; (with_reducible refine (epoch_Latest _ l F _ HV.out hl).mono ?_); rintro r w' ⟨rfl, rfl⟩) | (go_at_call 30; (with_reducible refine (law17_live _).mono ?_); rintro r w' ⟨rfl, rfl⟩))
              go_ret
              exact ⟨rfl, Below.refl _ _⟩
            · have hL := epLatest_good hG
              rw [hm] at hL
              clear hG hm
              go_wp2_with (first | (go_at_call 33; (with_reducible refine (epoch_Latest _ l F _ HV.out hl).mono ?_); rintro r w' ⟨rfl, rfl⟩) | (go_at_call 30; (with_reducible refine (law17_live _).mono ?_); rintro r w' ⟨rfl, rfl⟩))
              go_ret
              exact ⟨rfl, Below.refl _ _⟩

set_option maxRecDepth 100000 in
theorem EpochNext_lifted (os : Os) (started : os.Started) (H : Type) (enc : TypeId × Value → H) :
    ReturnsInHanded {} Try.checked os 4 .any (Rows.epochNextSpec.pre6 enc Try.prog Try.f4 Rows.epochNextRow.domain false) (Rows.epochNextSpec.post enc Try.prog Try.f4 false true false false) := by
  refine returnsInHanded_of_change (C := Try.checked) Try.own started (by kernel_rfl) Try.func4
    (ChangeSpec.witness6 (enc := enc) (C := Try.checked) false ⟨#[], #[.int .u64 0, .slice none 0 0], []⟩ 8 (by kernel_rfl) (by kernel_rfl) (by kernel_rfl) (by kernel_rfl)) ?_
  intro W base args ds gs before hval0 hW hcnd _
  have hval : ∀ (j : Nat) t v, Try.f4.params[j]? = some t → args[j]? = some v → Value.okWide Try.prog W .any base t v := hval0
  have hW' := hW
  obtain ⟨p, q, hA0, hV, rfl, hfz, hnd⟩ := hW
  have hA : DataW.TrodAll enc Try.prog W 0 (fun _ => true) true Try.f4.params.toList args.toList ds p := hA0
  rw [Try.params4] at hA hval
  obtain ⟨v0, vs0, d0, ds0, p0, q0, hargs, rfl, rfl, h0, r0⟩ := trodAll_cons hA
  obtain ⟨v1, vs1, d1, ds1, p1, q1, rfl, rfl, rfl, h1, r1⟩ := trodAll_cons r0
  obtain ⟨rfl, rfl, rfl⟩ := trodAll_nil r1
  obtain ⟨al⟩ := args
  simp only at hargs
  subst hargs
  obtain ⟨rfl, rfl⟩ := trodVars_none hV
  obtain ⟨e, rfl, rfl, rfl, we⟩ := open_int Try.underlying22 (hval 0 22 v0 rfl rfl) h0
  obtain ⟨l, hl, wl⟩ := open_sl Try.underlying28 Try.underlying22 (by kernel_rfl) (hval 1 28 v1 rfl rfl) h1
  refine (law_EpochNext e v1 l _ (u64_wf we).1 (u64_wf we).2 W hl (u64s_wf wl)).mono fun r W' ⟨he, hb⟩ => ?_
  subst he
  exact ⟨_, rfl, law_post Try.laidOut (fn := Try.f4) hW' rfl (by kernel_rfl) _ Try.underlying4 rfl rfl hb⟩
theorem EpochNext_holds : Rows.EpochNextSaid :=
  OpenClaim.holds_of_wide 4 Try.f4 rfl rfl rfl rfl rfl rfl rfl ⟨rfl, rfl, rfl, rfl, rfl⟩ rfl rfl rfl rfl rfl CellEpochNext.named Try.func4 CellEpochNext.closed CellEpochNext.inst CellEpochNext.wrap
    (fun os started H enc _ => EpochNext_lifted os started H enc)
#print axioms EpochNext_holds
end Go.Proofs.Ytgphhganepjaiaa
