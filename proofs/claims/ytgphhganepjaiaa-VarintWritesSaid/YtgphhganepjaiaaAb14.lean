/-
  A region whose order is drawn does what the text's order does, where no two operations whose order is open touch what the other one reads. Over any program.
-/
import Derived.Test.YtgphhganepjaiaaAb13
namespace Go.Proofs.Ytgphhganepjaiaa

theorem list_set_bool {l : List Bool} {i : Nat} (h : l[i]? = some false) : (l.set i true).countP (fun b => !b) + 1 = l.countP (fun b => !b) := by
  induction l generalizing i with
  | nil => simp at h
  | cons b l ih =>
    cases i with
    | zero => simp at h; subst h; simp
    | succ i =>
      simp at h
      have := ih h
      simp only [List.set_cons_succ, List.countP_cons]
      omega

section
variable {P : Program} {ops : Array Oper} {cs : List RO}

theorem reg_draw {id : Nat} {G0 : Gh} {S0 : List AObj} {w0 : World} {tm : List AV} {S : List AObj} {G : Gh} {a : Act} {w : World} {u : List (Nat × Nat)} (hc : compReg P ops true = some (cs, u)) (hz : Cz G0 S0 w0 tm S G a w) {QA : List AV → List AObj → Prop}
    (h : aReg P cs u [] tm S QA) (Q : Exit → Act → World → Prop) (hQ : ∀ tm' S' G' a' w', Cz G0 S0 w0 tm' S' G' a' w' → QA tm' S' → Q .normal a' w') : (Code.region id ops true).wp P Q a w := by
  unfold compReg at hc
  split at hc
  · cases hc
  rename_i cs' hcs
  simp only [if_true] at hc
  split at hc
  case isFalse => cases hc
  rename_i hcond
  injection hc with hc
  injection hc with e1 e2
  subst e1
  simp only [Bool.and_eq_true] at hcond
  obtain ⟨⟨hmix, hdir⟩, hslots⟩ := hcond
  obtain ⟨hl, hat⟩ := compOps_at hcs
  obtain ⟨r, hrec, hok, hfin⟩ := aReg_recs ops.toList cs' u [] tm S QA hl (fun j o c h1 h2 => (hat j o c h1 h2).1) h
  let n := ops.toList.length
  have hn : n = ops.size := by simp [n]
  let dst : Nat → Option Nat := fun j => (ops.toList[j]?).bind (·.dst)
  let bef := befL ops.toList []
  have hol : ∀ j, j < n → ∃ o c, ops.toList[j]? = some o ∧ ops[j]? = some o ∧ cs'[j]? = some c := fun j hj => by
    have h1 := List.getElem?_eq_getElem (show j < ops.toList.length from hj)
    exact ⟨_, _, h1, by simp, List.getElem?_eq_getElem (show j < cs'.length by rw [← hl]; exact hj)⟩
  -- what the records say
  have hup : ∀ i, i < n → (∀ p ∈ (r i).upd, p.1 ∈ (r i).rd) ∧ ∀ q ∈ (r i).rd, q < (sS r S i).length := fun i hi => by
    obtain ⟨o, c, h1, _, h3⟩ := hol i hi
    have hr := hrec i o c h1 h3
    unfold RecOk at hr
    split at hr
    · exact ⟨hr.2.2.1, hr.2.2.2.1⟩
    · obtain ⟨_, _, h4, h5, _⟩ := hr
      rw [h4, h5]; exact ⟨(fun p hp => by cases hp), (fun q hq => by cases hq)⟩
  have hupd : ∀ i, i < n → ∀ p ∈ (r i).upd, p.1 < (sS r S i).length := fun i hi p hp => (hup i hi).2 _ ((hup i hi).1 p hp)
  -- two operations whose order is open
  have hopen : ∀ i k, i < k → k < n → (bef.getD k 0).testBit i = false → (∀ q ∈ (wids r S i).map (·.1), q ∉ (r k).rd) ∧ (∀ q ∈ (wids r S k).map (·.1), q ∉ (r i).rd) := by
    intro i k hik hk hb
    have pure0 : ∀ j, j < n → touchB cs' j = false → (r j).rd = [] ∧ (wids r S j) = [] := fun j hj ht => by
      obtain ⟨o, c, h1, _, h3⟩ := hol j hj
      have hr := hrec j o c h1 h3
      simp only [touchB, h3] at ht
      unfold RecOk at hr
      split at hr
      · obtain ⟨e1, e2, e3⟩ := hr.2.2.2.2 ht
        exact ⟨e1, by simp [wids, e2, e3, newU]⟩
      · obtain ⟨_, _, e1, e2, e3⟩ := hr
        exact ⟨e1, by simp [wids, e2, e3, newU]⟩
    by_cases hti : touchB cs' i = true
    · by_cases htk : touchB cs' k = true
      · have hmem : (i, k) ∈ u := by
          rw [← e2]
          simp only [List.mem_filter, unord]
          exact ⟨⟨mem_pairs hik (by omega), by simpa [bef] using hb⟩, by simp [hti, htk]⟩
        have hd := List.all_eq_true.1 hok (i, k) hmem
        have hget : ∀ j, j < n → (([] : List (List Nat × List Nat)) ++ (List.range ops.toList.length).map fun j => frec (r j) (sS r S j).length).getD j ([], []) = ((r j).rd, (wids r S j).map (·.1)) := fun j hj => by
          have : (List.range ops.toList.length)[j]? = some j := List.getElem?_range hj
          rw [List.nil_append, List.getD_eq_getElem?_getD, List.getElem?_map, this]
          simp [frec, wids]
        rw [hget i (by omega), hget k hk] at hd
        simp only [Bool.and_eq_true, disj, List.all_eq_true, Bool.not_eq_true', List.contains_eq_mem, decide_eq_false_iff_not] at hd
        exact hd
      · obtain ⟨e1, e3⟩ := pure0 k hk (by simpa using htk)
        rw [e1, e3]
        exact ⟨(fun q _ hq => by cases hq), (fun q hq => by simp at hq)⟩
    · obtain ⟨e1, e3⟩ := pure0 i (by omega) (by simpa using hti)
      rw [e1, e3]
      exact ⟨(fun q hq => by simp at hq), (fun q _ hq => by cases hq)⟩
  -- two operations whose order is open share no temporary that one of them writes
  have hslot : ∀ i k, i < k → k < n → (bef.getD k 0).testBit i = false → ∀ o c o' c', ops.toList[i]? = some o → cs'[i]? = some c → ops.toList[k]? = some o' → cs'[k]? = some c' →
      (∀ d, o.dst = some d → d ∉ namesOf o' c') ∧ (∀ d, o'.dst = some d → d ∉ namesOf o c) := by
    intro i k hik hk hb o c o' c' h1 h2 h3 h4
    have hmem : (i, k) ∈ unord ops.size bef := by
      simp only [List.mem_filter, unord]
      exact ⟨mem_pairs hik (by omega), by simpa using hb⟩
    have hd := List.all_eq_true.1 hslots (i, k) hmem
    simp only [h1, h2, h3, h4, apartB, Bool.and_eq_true] at hd
    refine ⟨fun d hd' => ?_, fun d hd' => ?_⟩
    · have := hd.1; rw [hd'] at this; simpa using this
    · have := hd.2; rw [hd'] at this; simpa using this
  -- the state behind the operations that are done
  let N := (sS r S n).length
  have inv : ∀ (fuel : Nat) (listed : Array Bool) (tmD : List AV) (SD : List AObj) (G : Gh) (a : Act) (w : World), listed.size = n → listed.toList.countP (fun b => !b) ≤ fuel →
      (∀ i, i < n → listed.getD i false = true → ∀ e ∈ (ops.toList[i]?).elim [] dirs, listed.getD e false = true) →
      tmD.length = tm.length → (∀ t, t < tm.length → tmD[t]? = orW (lastW (fun i => listed.getD i false) (fT dst r t) n) tm[t]?) →
      SD.length = N → (∀ q, q < N → SD[q]? = some ((orW (lastW (fun i => listed.getD i false) (fS r S q) n) S[q]?).getD .dead)) →
      Cz G0 S0 w0 tmD SD G a w → wpAny P .any ops Q fuel listed a w := by
    -- all are done
    have fin : ∀ (listed : Array Bool) (tmD : List AV) (SD : List AObj) (G : Gh) (a : Act) (w : World), (∀ i, i < n → listed.getD i false = true) → tmD.length = tm.length →
        (∀ t, t < tm.length → tmD[t]? = orW (lastW (fun i => listed.getD i false) (fT dst r t) n) tm[t]?) → SD.length = N → (∀ q, q < N → SD[q]? = some ((orW (lastW (fun i => listed.getD i false) (fS r S q) n) S[q]?).getD .dead)) →
        Cz G0 S0 w0 tmD SD G a w → Q .normal a w := by
      intro listed tmD SD G a w hall htl ht hsl hs hz
      have e1 : tmD = sT dst r tm n := by
        apply List.ext_getElem?
        intro t
        by_cases hlt : t < tm.length
        · rw [ht t hlt, sT_at, if_pos hlt, lastW_congr (D' := fun _ => true) fun i hi _ => hall i hi]
        · rw [List.getElem?_eq_none (by omega), List.getElem?_eq_none (by rw [sT_length]; omega)]
      have e2 : SD = sS r S n := by
        apply List.ext_getElem?
        intro q
        by_cases hlt : q < N
        · have h1 := sS_at (r := r) (S := S) n hupd q
          have h2 := List.getElem?_eq_getElem (show q < (sS r S n).length from hlt)
          rw [hs q hlt, lastW_congr (D' := fun _ => true) fun i hi _ => hall i hi, ← h1, h2]; rfl
        · rw [List.getElem?_eq_none (by omega), List.getElem?_eq_none (by show N ≤ q; omega)]
      subst e1 e2
      exact hQ _ _ _ _ _ hz hfin
    -- none may come up: all are done
    have allDone : ∀ (listed : Array Bool), listed.size = n → Region.ready .any ops listed = [] → ∀ i, i < n → listed.getD i false = true := by
      intro listed hsz hr i
      induction i using Nat.strongRecOn with
      | _ i ihi =>
        intro hi
        obtain ⟨o, c, h1, h2, h3⟩ := hol i hi
        cases hb : listed.getD i false with
        | true => rfl
        | false =>
          exfalso
          have hmem : i ∈ Region.ready .any ops listed := by
            simp only [Region.ready, List.mem_filter, List.mem_range]
            refine ⟨by omega, ?_⟩
            have hb' : listed.getD i true = false := by
              simp only [Array.getD_eq_getD_getElem?] at hb ⊢
              rw [Array.getElem?_eq_getElem (show i < listed.size by omega)] at hb ⊢
              exact hb
            rw [hb', h2]
            simp only [Bool.not_false, Bool.true_and, Option.map_some, Option.getD_some]
            rw [Array.all_eq_true]
            intro k hk
            by_cases hbind : Region.binds .any o.after[k] = true
            · have hd : o.after[k].on ∈ dirs o := by
                simp only [dirs, List.mem_map, List.mem_filter]
                exact ⟨o.after[k], ⟨by simp, hbind⟩, rfl⟩
              have hz0 := List.all_eq_true.1 hdir (o, i) (by
                rw [List.mem_zipIdx_iff_getElem?]; exact h1)
              have hlt := List.all_eq_true.1 hz0 _ hd
              have hlt' : o.after[k].on < i := by simpa using hlt
              rw [ihi _ hlt' (by omega)]; simp
            · simp [hbind]
          rw [hr] at hmem; cases hmem
    have readyOf : ∀ (listed : Array Bool) (j : Nat), listed.size = n → j ∈ Region.ready .any ops listed → j < n ∧ listed[j]? = some false ∧ ∀ e ∈ (ops.toList[j]?).elim [] dirs, listed.getD e false = true := by
      intro listed j hsz hj
      simp only [Region.ready, List.mem_filter, List.mem_range, Bool.and_eq_true] at hj
      obtain ⟨hj1, hj2, hj3⟩ := hj
      obtain ⟨o, c, h1, h2, h3⟩ := hol j (by omega)
      refine ⟨by omega, ?_, ?_⟩
      · have := Array.getElem?_eq_getElem (show j < listed.size by omega)
        rw [this]
        simp only [Array.getD_eq_getD_getElem?, this, Option.getD_some] at hj2
        simpa using hj2
      · rw [h2] at hj3
        simp only [Option.map_some, Option.getD_some, Array.all_eq_true] at hj3
        rw [h1]
        intro e he
        simp only [Option.elim, dirs, List.mem_map, List.mem_filter] at he
        obtain ⟨ed, ⟨hm, hb⟩, rfl⟩ := he
        obtain ⟨k, hk, rfl⟩ := List.getElem_of_mem hm
        have := hj3 k (by simpa using hk)
        simp only [Array.getElem_toList] at hb ⊢
        rw [hb] at this
        simpa using this
    intro fuel
    induction fuel with
    | zero =>
      intro listed tmD SD G a w hsz hcnt _ htl ht hsl hs hz
      have hall : ∀ i, i < n → listed.getD i false = true := by
        intro i hi
        have h0 : listed.toList.countP (fun b => !b) = 0 := by omega
        rw [List.countP_eq_zero] at h0
        have hg := Array.getElem?_eq_getElem (show i < listed.size by omega)
        have := h0 listed[i] (by simp)
        simp only [Array.getD_eq_getD_getElem?, hg, Option.getD_some]
        simpa using this
      refine ⟨?_, fin listed tmD SD G a w hall htl ht hsl hs hz⟩
      cases hr : Region.ready .any ops listed with
      | nil => rfl
      | cons j rest =>
        obtain ⟨h1, h2, _⟩ := readyOf listed j hsz (by rw [hr]; simp)
        have := hall j h1
        simp [h2] at this
    | succ fuel ih =>
      intro listed tmD SD G a w hsz hcnt hcl htl ht hsl hs hz
      refine ⟨fun hr => fin listed tmD SD G a w (allDone listed hsz hr) htl ht hsl hs hz, fun j hj => ?_⟩
      obtain ⟨hjn, hjf, hjd⟩ := readyOf listed j hsz hj
      obtain ⟨o, c, h1, h2, h3⟩ := hol j hjn
      rw [h1] at hjd
      simp only [Option.elim] at hjd
      let D : Nat → Bool := fun i => listed.getD i false
      have hDj : D j = false := by simp [D, hjf]
      -- order
      have before_ : ∀ i, i < j → (bef.getD j 0).testBit i = true → D i = true := by
        intro i hij hb
        have := befL_closed (fun i => D i = true ∨ i = j) ops.toList [] (fun k o' ho hD e he => by
          left
          simp only [List.length_nil, Nat.zero_add] at hD
          rcases hD with hD | rfl
          · have hk : k < n := (List.getElem?_eq_some_iff.1 ho).1
            have := hcl k hk hD e; rw [ho] at this; exact this he
          · rw [h1] at ho; injection ho with ho; subst ho; exact hjd e he) (fun k hk => by simp at hk) j (by simp; omega) (.inr rfl) i hb
        rcases this with h | h
        · exact h
        · omega
      have after_ : ∀ i, j < i → i < n → (bef.getD i 0).testBit j = true → D i = false := by
        intro i hji hi hb
        cases hD : D i with
        | false => rfl
        | true =>
          have := befL_closed (fun i => D i = true) ops.toList [] (fun k o' ho hD e he => by
            simp only [List.length_nil, Nat.zero_add] at hD
            have hk : k < n := (List.getElem?_eq_some_iff.1 ho).1
            have := hcl k hk hD e; rw [ho] at this; exact this he) (fun k hk => by simp at hk) i (by simp; omega) hD j hb
          rw [hDj] at this; cases this
      -- the temporaries that the operation names
      have htmp : ∀ t, t ∈ namesOf o c → (∀ i, i < j → fT dst r t i ≠ none → D i = true) ∧ ∀ i, j < i → i < n → fT dst r t i ≠ none → D i = false := by
        intro t htn
        have hdst : ∀ i, fT dst r t i ≠ none → dst i = some t := fun i hi => by
          unfold fT at hi
          by_cases e : dst i = some t
          · exact e
          · simp [e] at hi
        refine ⟨fun i hij hi => ?_, fun i hji hi hne => ?_⟩
        · have hd := hdst i hi
          obtain ⟨o', c', g1, g1', g3⟩ := hol i (by omega)
          have hd' : o'.dst = some t := by simpa [dst, g1'] using hd
          cases hb : (bef.getD j 0).testBit i with
          | true => exact before_ i hij hb
          | false => exact ((hslot i j hij hjn hb o' c' o c g1 g3 h1 h3).1 t hd' htn).elim
        · have hd := hdst i hne
          obtain ⟨o', c', g1, g1', g3⟩ := hol i hi
          have hd' : o'.dst = some t := by simpa [dst, g1'] using hd
          cases hb : (bef.getD i 0).testBit j with
          | true => exact after_ i hji hi hb
          | false => exact ((hslot j i hji hi hb o c o' c' h1 h3 g1 g3).2 t hd' htn).elim
      have hsame : ∀ t, t ∈ namesOf o c → tmD[t]? = (sT dst r tm j)[t]? := by
        intro t htn
        obtain ⟨q1, q2⟩ := htmp t htn
        rw [sT_at]
        by_cases hlt : t < tm.length
        · rw [if_pos hlt, ht t hlt, lastW_cut (j := j) (by omega) (fun i hi1 hi2 hne => by
            by_cases e : i = j
            · subst e; exact hDj
            · exact q2 i (by omega) hi2 hne), lastW_congr (D' := fun _ => true) fun i hi hne => q1 i hi hne]
        · rw [if_neg hlt, List.getElem?_eq_none (by omega)]
      have hev : ∀ x ∈ o.op.operands, ev tmD x = ev (sT dst r tm j) x := by
        intro x hx
        cases x with
        | tmp t =>
          have : t ∈ namesOf o c := by
            simp only [namesOf, tmpsOf, List.mem_append, List.mem_filterMap]
            left; left
            exact ⟨.tmp t, by simpa using hx, rfl⟩
          simp only [ev, List.getD_eq_getElem?_getD, hsame t this]
        | _ => rfl
      -- the store's places that the operation touches
      have hplace : ∀ q, (q ∈ (r j).rd ∨ q ∈ (wids r S j).map (·.1)) → (∀ i, j < i → i < n → fS r S q i ≠ none → D i = false) := by
        intro q hq i hji hi hne
        have hqi : q ∈ (wids r S i).map (·.1) := by
          unfold fS at hne
          by_cases e : q ∈ (wids r S i).map (·.1)
          · exact e
          · simp [e] at hne
        cases hb : (bef.getD i 0).testBit j with
        | true => exact after_ i hji hi hb
        | false =>
          exfalso
          obtain ⟨g1, g2⟩ := hopen j i hji hi hb
          rcases hq with hq | hq
          · exact g2 q hqi hq
          · -- both turn or fill q
            simp only [wids, List.map_append, List.mem_append, List.mem_map] at hqi
            rcases hqi with ⟨p, hp, rfl⟩ | ⟨p, hp, rfl⟩
            · exact g1 _ hq ((hup i hi).1 p hp)
            · have h5 := (newU_mem hp).1
              have h6 := wids_lt (hupd j hjn) hq
              have h7 := sS_mono (r := r) (S := S) (j + 1) i (by omega)
              omega
      have hrdlt : ∀ q ∈ (r j).rd, q < (sS r S j).length := (hup j hjn).2
      have hNle : ∀ i, i ≤ n → (sS r S i).length ≤ N := fun i hi => sS_mono i n hi
      have hread : ∀ q ∈ (r j).rd, SD[q]? = (sS r S j)[q]? := by
        intro q hq
        have hlt := hrdlt q hq
        have hltN : q < N := Nat.lt_of_lt_of_le hlt (hNle j (by omega))
        have hpl := hplace q (.inl hq)
        have e1 : lastW D (fS r S q) n = lastW (fun _ => true) (fS r S q) j := by
          rw [lastW_cut (j := j) (by omega) (fun i hi1 hi2 hne => by
            by_cases e : i = j
            · subst e; exact hDj
            · exact hpl i (by omega) hi2 hne)]
          refine lastW_congr fun i hi hne => ?_
          have hqi : q ∈ (wids r S i).map (·.1) := by
            unfold fS at hne
            by_cases e : q ∈ (wids r S i).map (·.1)
            · exact e
            · simp [e] at hne
          cases hb : (bef.getD j 0).testBit i with
          | true => exact before_ i hi hb
          | false => exact ((hopen i j hi hjn hb).1 q hqi hq).elim
        have e2 := sS_at (r := r) (S := S) j (fun i hi => hupd i (by omega)) q
        rw [hs q hltN]
        show some ((orW (lastW D (fS r S q) n) S[q]?).getD .dead) = _
        rw [e1, ← e2, List.getElem?_eq_getElem hlt]; rfl
      have hfree : ∀ p ∈ newU (sS r S j).length (r j).new, SD[p.1]? = some .dead := by
        intro p hp
        obtain ⟨g1, g2, _⟩ := newU_mem hp
        have hw : p.1 ∈ (wids r S j).map (·.1) := by simp only [wids, List.map_append, List.mem_append, List.mem_map]; exact .inr ⟨p, hp, rfl⟩
        have hltN : p.1 < N := Nat.lt_of_lt_of_le (wids_lt (hupd j hjn) hw) (hNle (j + 1) (by omega))
        have hpl := hplace p.1 (.inr hw)
        have e1 : lastW D (fS r S p.1) n = none := lastW_none fun i hi hD => by
          cases hne : fS r S p.1 i with
          | none => rfl
          | some x =>
            exfalso
            have hqi : p.1 ∈ (wids r S i).map (·.1) := by
              unfold fS at hne
              by_cases e : p.1 ∈ (wids r S i).map (·.1)
              · exact e
              · simp [e] at hne
            rcases Nat.lt_trichotomy i j with h | h | h
            · have h6 := wids_lt (hupd i hi) hqi
              have h7 := sS_mono (r := r) (S := S) (i + 1) j (by omega)
              omega
            · subst h; rw [hDj] at hD; cases hD
            · have := hpl i h hi (by rw [hne]; simp)
              rw [this] at hD; cases hD
        rw [hs p.1 hltN]
        show some ((orW (lastW D (fS r S p.1) n) S[p.1]?).getD .dead) = _
        have h0 := sS_mono (r := r) (S := S) 0 j (by omega)
        simp only [sS] at h0
        rw [e1, List.getElem?_eq_none (by omega)]; rfl
      -- what is left is done likewise
      have next : ∀ (G' : Gh) (a' : Act) (w' : World), Cz G0 S0 w0 (setD tmD o.dst (r j).v) (updL SD (wids r S j)) G' a' w' → wpAny P .any ops Q fuel (listed.setIfInBounds j true) a' w' := by
        intro G' a' w' hz'
        have hDn : ∀ i, (listed.setIfInBounds j true).getD i false = if i = j then true else D i := by
          intro i
          by_cases e : i = j
          · subst e; simp [show i < listed.size by omega]
          · simp only [e, if_false, D, Array.getD_eq_getD_getElem?, Array.getElem?_setIfInBounds_ne (Ne.symm e)]
        refine ih _ _ _ G' a' w' (by simp [hsz]) ?_ (fun i hi hD e he => ?_) ?_ (fun t htl' => ?_) (by simp [hsl]) (fun q hq => ?_) hz'
        · have := list_set_bool (l := listed.toList) (i := j) (by simpa using hjf)
          simp only [Array.toList_setIfInBounds]; omega
        · rw [hDn] at hD ⊢
          split
          · rfl
          · by_cases e' : i = j
            · subst e'; rw [h1] at he; exact hjd e he
            · rw [if_neg e'] at hD; exact hcl i hi hD e he
        · cases ho : o.dst <;> simp [setD, htl]
        · have hcongr : ∀ f : Nat → Option AV, f j = none → lastW (fun i => (listed.setIfInBounds j true).getD i false) f n = lastW D f n := fun f hf => lastW_congr fun i hi hne => by
            rw [hDn]; split
            · rename_i e; subst e; exact (hne hf).elim
            · rfl
          have hdj : dst j = o.dst := by simp [dst, h2]
          by_cases hd : o.dst = some t
          · have hf : fT dst r t j = some (r j).v := by simp [fT, hdj, hd]
            have htn : t ∈ namesOf o c := by simp [namesOf, hd]
            rw [lastW_top (j := j) (v := (r j).v) hjn (by simp [hDn]) hf (fun i h5 h6 h7 => by rw [hDn, if_neg (by omega)]; exact (htmp t htn).2 i h5 h6 h7)]
            simp [setD, hd, orW, htl, htl']
          · have hf : fT dst r t j = none := by simp [fT, hdj, hd]
            rw [hcongr _ hf]
            show _ = orW (lastW (fun i => listed.getD i false) (fT dst r t) n) tm[t]?
            rw [← ht t htl']
            cases ho : o.dst with
            | none => rfl
            | some d => simp only [setD]; rw [List.getElem?_set_ne]; rintro rfl; exact hd ho
        · by_cases hqw : q ∈ (wids r S j).map (·.1)
          · have hlt := wids_lt (hupd j hjn) hqw
            have hf : fS r S q j = some ((sS r S (j + 1))[q]'hlt) := by simp [fS, hqw]
            rw [lastW_top (j := j) hjn (by simp [hDn]) hf (fun i h5 h6 h7 => by rw [hDn, if_neg (by omega)]; exact hplace q (.inr hqw) i h5 h6 h7)]
            have hst := sS_step (r := r) (S := S) j (hupd j hjn)
            have e3 := updL_same SD (sS r S j ++ List.replicate (r j).new.length .dead) (wids r S j) hqw (by omega) (by simp only [List.length_append, List.length_replicate]; simp only [sS, List.length_append, updL_length] at hlt; exact hlt)
            rw [e3, hst, List.getElem?_eq_getElem hlt]; rfl
          · have hf : fS r S q j = none := by simp [fS, hqw]
            rw [updL_other _ _ _ hqw, hs q hq]
            congr 3
            refine lastW_congr fun i hi hne => ?_
            rw [hDn]; split
            · rename_i e; subst e; exact (hne hf).elim
            · rfl
      obtain ⟨_, hg⟩ := hat j o c h1 h3
      have hr := hrec j o c h1 h3
      have hwant := wanted_of (ops := ops) hz hg (fun t wn e => by
        have : t ∈ namesOf o c := by simp [namesOf, e]
        simp only [List.getD_eq_getElem?_getD, hsame t this]; rfl) hr
      unfold wpOp
      rw [h2]
      simp only [hwant]
      unfold RecOk at hr
      cases hran : (r j).ran with
      | true =>
        rw [hran, if_pos rfl] at hr
        obtain ⟨_, he, hu, hrd, _⟩ := hr
        simp only [if_true]
        left
        refine he SD hread hfree G a w hz.left.wd (fun x hx => by rw [← hev x hx]; exact hz.ev x) _ _ fun v' w' G' hv hl => next G' _ w' ?_
        exact hz.put hl hv o.dst
      | false =>
        rw [hran, if_neg (by simp)] at hr
        obtain ⟨_, hv, hrd, hu, hnw⟩ := hr
        simp only [Bool.false_eq_true, if_false]
        refine next G _ w ?_
        have := hz.put (Left.refl hz.left.wd) (x := .lit undef) (v := undef) (.lit _) o.dst
        rw [← hv] at this
        have e0 : wids r S j = [] := by simp [wids, hu, hnw, newU]
        rw [e0, updL_nil]; exact this
  have hSN : S.length ≤ N := sS_mono (r := r) (S := S) 0 n (by omega)
  have hLD : ∀ {α : Type} (f : Nat → Option α), lastW (fun i => (Array.replicate ops.size false).getD i false) f n = none := by
    intro α f
    refine lastW_none fun i hi hD => ?_
    have hlt : i < ops.size := by omega
    simp [hlt] at hD
  have hD0 := Left.dead hz.left.wd (N - S.length)
  have hzD : Cz G0 S0 w0 tm (S ++ List.replicate (N - S.length) .dead) G a { w with drawn := w.drawn + 1 } := by
    have hl := hz.left.trans hD0
    refine ⟨⟨hl.le, hl.wd.drawn rfl, ⟨hl.kept.os, hl.kept.tape, hl.kept.output, hl.kept.size, hl.kept.block⟩, hl.own, hl.still⟩, hz.size, hz.rep, hz.defers, hz.wd0⟩
  refine wp_region_any hmix (inv ops.size (Array.replicate ops.size false) tm (S ++ List.replicate (N - S.length) .dead) G a _ (by simp [hn]) (Nat.le_trans List.countP_le_length (by simp)) (fun i hi h => by
    have : i < ops.size := by omega
    simp [this] at h) rfl (fun t ht => ?_) ?_ (fun q hq => ?_) hzD)
  · rw [hLD]; rfl
  · simp; omega
  · rw [hLD]
    simp only [orW]
    by_cases hlt : q < S.length
    · rw [List.getElem?_append_left hlt, List.getElem?_eq_getElem hlt]; rfl
    · rw [List.getElem?_append_right (by omega), List.getElem?_replicate, if_pos (by omega), List.getElem?_eq_none (show S.length ≤ q by omega)]; rfl
end
end Go.Proofs.Ytgphhganepjaiaa
