/-
  The operations do what is told of them: structs and slices that are built, append, make, calls. Over any program.
-/
import Derived.Test.YtgphhganepjaiaaAb7
namespace Go.Proofs.Ytgphhganepjaiaa

section
variable {P : Program} {o : Oper} {ρ : Operand → AV} {S : List AObj} {K : KT}

theorem fold_get (cs : List Value) (off k : Nat) (A : Array Value) (i : Nat) (h : off + k + cs.length ≤ A.size) :
    ((cs.zipIdx k).foldl (fun A (p : Value × Nat) => A.setIfInBounds (off + p.2) p.1) A)[i]? = (if off + k ≤ i ∧ i < off + k + cs.length then cs[i - off - k]? else A[i]?) ∧
    ((cs.zipIdx k).foldl (fun A (p : Value × Nat) => A.setIfInBounds (off + p.2) p.1) A).size = A.size := by
  induction cs generalizing k A with
  | nil => simp; intro h1 h2; omega
  | cons c cs ih =>
    simp only [List.length_cons] at h ⊢
    simp only [List.zipIdx_cons, List.foldl_cons]
    obtain ⟨h1, h2⟩ := ih (k + 1) (A.setIfInBounds (off + k) c) (by simp; omega)
    refine ⟨?_, by rw [h2]; simp⟩
    rw [h1]
    by_cases e : i = off + k
    · subst e
      rw [if_neg (by omega), if_pos (by omega)]
      have : off + k < A.size := by omega
      simp [this]
    · by_cases e2 : off + (k + 1) ≤ i ∧ i < off + (k + 1) + cs.length
      · rw [if_pos e2, if_pos (by omega), show i - off - k = (i - off - (k + 1)) + 1 by omega]; simp
      · rw [if_neg e2, if_neg (by omega), Array.getElem?_setIfInBounds_ne (Ne.symm e)]

/-- One step of fill. -/
theorem fill_step (place : Nat → Option (Nat × Nat)) (A : Array Value) (i off size : Nat) (v : Value) (rest : List (Nat × Value)) (hp : place i = some (off, size)) (hs : v.cells.size = size) (hle : off + size ≤ A.size) :
    ∃ B, Instr.fill place A ((i, v) :: rest) = Instr.fill place B rest ∧ B.size = A.size ∧ ∀ q, B[q]? = if off ≤ q ∧ q < off + size then v.cells[q - off]? else A[q]? := by
  have hf := fun q => fold_get v.cells.toList off 0 A q (by simp [hs]; omega)
  refine ⟨_, ?_, (hf 0).2, fun q => ?_⟩
  · simp only [Instr.fill, hp, hs]
    rw [if_neg (by simp; omega)]
    rw [← Array.foldl_toList]
    simp only [Array.toList_zipIdx]
  · rw [(hf q).1]
    simp [hs]

theorem fillA_sound {G : Gh} {place : Nat → Option (Nat × Nat)} : ∀ (ps : List (Nat × Nat × AV)) (vs : List (Nat × Value)) (cells : List AV) (A : Array Value) (out : List AV),
    fillA cells ps = some out → ps.length = vs.length → (∀ (j : Nat) (p : Nat × Nat × AV) (q : Nat × Value), ps[j]? = some p → vs[j]? = some q → place q.1 = some (p.1, p.2.1) ∧ Rep G p.2.2 q.2) →
    RepL G cells A.toList → (∀ v ∈ A.toList, v.oneCell' = true) → ∃ B, Instr.fill place A vs = some B ∧ RepL G out B.toList ∧ ∀ v ∈ B.toList, v.oneCell' = true := by
  intro ps
  induction ps with
  | nil =>
    intro vs cells A out h hl _ hr ho
    cases vs with
    | nil => simp [fillA] at h; subst h; exact ⟨A, rfl, hr, ho⟩
    | cons => simp at hl
  | cons p ps ih =>
    intro vs cells A out h hl hp hr ho
    cases vs with
    | nil => simp at hl
    | cons q vs =>
      obtain ⟨off, size, x⟩ := p
      obtain ⟨i, v⟩ := q
      obtain ⟨hpl, hx⟩ := hp 0 _ _ rfl rfl
      simp only [fillA] at h
      split at h
      · rename_i cs hcs
        split at h
        · rename_i hc
          obtain ⟨h1, h2, h3⟩ := hx.parts hcs
          have hsz : v.cells.size = size := by have := h2.1; simp at this; omega
          have hA : cells.length = A.size := by simpa using hr.1
          obtain ⟨B, hB1, hB2, hB3⟩ := fill_step place A i off size v vs hpl hsz (by omega)
          have hBl : ∀ q, B.toList[q]? = if off ≤ q ∧ q < off + size then v.cells[q - off]? else A.toList[q]? := fun q => by simpa using hB3 q
          refine hB1 ▸ ih vs (splice cells off cs) B out h (by simpa using hl) (fun j p q hj hq => hp (j + 1) p q (by simpa using hj) (by simpa using hq)) ⟨by rw [splice_length]; simp [hB2, hA], fun j y u hy hu => ?_⟩ (fun u hu => ?_)
          · rw [splice_get _ _ _ (by omega)] at hy
            rw [hBl] at hu
            rw [hc.1] at hy
            split at hy
            · rename_i hj; rw [if_pos hj] at hu; exact h2.2 _ y u hy (by simpa using hu)
            · rename_i hj; rw [if_neg hj] at hu; exact hr.2 j y u hy hu
          · obtain ⟨j, hj, rfl⟩ := List.getElem_of_mem hu
            have e := List.getElem?_eq_getElem hj
            rw [hBl] at e
            split at e
            · exact h3 _ (List.mem_of_getElem? (by simpa using e))
            · exact ho _ (List.mem_of_getElem? e)
        · cases h
      · cases h

theorem optM_get {α β : Type} {f : α → Option β} : ∀ {l : List α} {r : List β}, optM f l = some r → l.length = r.length ∧ ∀ (j : Nat) (x : α) (y : β), l[j]? = some x → r[j]? = some y → f x = some y := by
  intro l
  induction l with
  | nil => intro r h; simp [optM] at h; subst h; exact ⟨rfl, fun j x y hx => by simp at hx⟩
  | cons a l ih =>
    intro r h
    simp only [optM] at h
    split at h
    · rename_i y ys hy hys
      injection h with h; subst h
      obtain ⟨h1, h2⟩ := ih hys
      refine ⟨by simp [h1], fun j x z hx hz => ?_⟩
      cases j with
      | zero => simp at hx hz; subst hx hz; exact hy
      | succ j => simp at hx hz; exact h2 j x z hx hz
    · cases h

theorem mem_parts {ps : Array (Nat × Operand)} {t : TypeId} (hop : o.op = .build t ps) {j : Nat} {p : Nat × Operand} (h : ps.toList[j]? = some p) : p.2 ∈ o.op.operands := by
  simp only [hop, Op.operands, List.mem_toArray, List.mem_map]
  exact ⟨p, List.mem_of_getElem? h, rfl⟩

theorem repL_zero {G : Gh} (zs : List Value) : RepL G (zs.map AV.ofC1) zs := ⟨by simp, fun j x v hx hv => by
  obtain ⟨y, hy, rfl⟩ := map_get hx
  rw [hv] at hy; injection hy with hy; subst hy
  exact rep_ofC1 G v⟩

theorem snd_build_struct {t : TypeId} {ps : Array (Nat × Operand)} {fs : Array Field} {zs : List Value} {qs : List (Nat × Nat × Operand)} (hop : o.op = .build t ps) (ht : P.underlying t = some (.struct fs)) (hz : zeroO P t = some zs)
    (hfs : fs.all (fun f => (szO P f.type).isSome) = true) (hq : optM (fun p : Nat × Operand => (fs[p.1]?).bind fun f => (szO P f.type).map fun s => (f.offset, s, p.2)) ps.toList = some qs)
    (h : kBuild (zs.map AV.ofC1) (qs.map fun (a, b, x) => (a, b, ρ x)) K) : SND P o ρ S K := by
  unfold kBuild at h
  split at h
  · rename_i out hout
    obtain ⟨hq1, hq2⟩ := optM_get hq
    obtain ⟨it, z, hit, hz0, rfl, ho⟩ := zeroO_some hz
    refine snd_pure (fun G a w T _ hr => ?_) h
    let pl : List (Nat × Nat) := fs.toList.map fun f => (f.offset, (szO P f.type).getD 0)
    have hpl : fs.toList.mapM (fun f => (P.info? f.type).map fun i => (f.offset, i.size)) = some pl := by
      have hall : ∀ f ∈ fs.toList, (szO P f.type).isSome = true := fun f hf => by
        obtain ⟨j, hj, rfl⟩ := List.getElem_of_mem hf
        have := Array.all_eq_true.1 hfs j (by simpa using hj)
        simpa using this
      simp only [pl]
      generalize fs.toList = l at hall
      clear pl
      induction l with
      | nil => rfl
      | cons f l ih =>
        have hf := hall f (by simp)
        obtain ⟨s, hs⟩ := Option.isSome_iff_exists.1 hf
        obtain ⟨i, hi, rfl⟩ := szO_some hs
        rw [List.mapM_cons]
        simp [hi, hs, ih (fun g hg => hall g (by simp [hg]))]
    obtain ⟨B, hB, hBr, hBo⟩ := fillA_sound (G := G) (place := fun i => pl[i]?) _ (ps.toList.map fun p => (p.1, a.eval p.2)) _ z.cells out hout (by simp [hq1]) (fun j p q hp hq' => by
      obtain ⟨⟨a1, b1, x1⟩, hp1, rfl⟩ := map_get hp
      obtain ⟨p1, hq1', rfl⟩ := map_get hq'
      have e := hq2 j p1 _ hq1' hp1
      cases hf : fs[p1.1]? with
      | none => simp [hf] at e
      | some f =>
        cases hs : szO P f.type with
        | none => simp [hf, hs] at e
        | some s =>
          simp [hf, hs] at e
          obtain ⟨rfl, rfl, rfl⟩ := e
          refine ⟨by simp [pl, hf, hs], hr _ (mem_parts hop hq1')⟩) (repL_zero _) ho
    refine ⟨.agg B, ?_, .agg (by simpa using hBr.1) (fun j v hv => hBo v (List.mem_of_getElem? (by simpa using hv))) (fun j x v hx hv => hBr.2 j x v hx (by simpa using hv))⟩
    have hbt : P.built t (ps.map fun (i, x) => (i, a.eval x)).toList = some B := by
      simp only [Program.built, hit, ht, hz0, hpl]
      have : (ps.map fun (i, x) => (i, a.eval x)).toList = ps.toList.map fun p => (p.1, a.eval p.2) := by simp
      rw [this]
      simpa using hB
    simp only [execOp, hop, Sem.run_bind, run_build w t _ B hbt, Result.andThen_ok, Sem.run_pure]
  · exact h.elim

theorem snd_build_array {t e : TypeId} {n s : Nat} {ps : Array (Nat × Operand)} {zs : List Value} (hop : o.op = .build t ps) (ht : P.underlying t = some (.array n e)) (hz : zeroO P t = some zs) (hs : szO P e = some s)
    (h : kBuild (zs.map AV.ofC1) ((ps.toList.map fun p => (p.1 * s, s, p.2)).map fun (a, b, x) => (a, b, ρ x)) K) : SND P o ρ S K := by
  unfold kBuild at h
  split at h
  · rename_i out hout
    obtain ⟨it, z, hit, hz0, rfl, ho⟩ := zeroO_some hz
    obtain ⟨ie, hie, rfl⟩ := szO_some hs
    refine snd_pure (fun G a w T _ hr => ?_) h
    obtain ⟨B, hB, hBr, hBo⟩ := fillA_sound (G := G) (place := fun i => some (i * ie.size, ie.size)) _ (ps.toList.map fun p => (p.1, a.eval p.2)) _ z.cells out hout (by simp) (fun j p q hp hq' => by
      obtain ⟨p2, hp2, rfl⟩ := map_get hp
      obtain ⟨p3, hp3, rfl⟩ := map_get hp2
      obtain ⟨p1, hq1', rfl⟩ := map_get hq'
      rw [hp3] at hq1'; injection hq1' with e; subst e
      exact ⟨rfl, hr _ (mem_parts hop hp3)⟩) (repL_zero _) ho
    refine ⟨.agg B, ?_, .agg (by simpa using hBr.1) (fun j v hv => hBo v (List.mem_of_getElem? (by simpa using hv))) (fun j x v hx hv => hBr.2 j x v hx (by simpa using hv))⟩
    have hbt : P.built t (ps.map fun (i, x) => (i, a.eval x)).toList = some B := by
      simp only [Program.built, hit, ht, hz0, hie]
      have : (ps.map fun (i, x) => (i, a.eval x)).toList = ps.toList.map fun p => (p.1, a.eval p.2) := by simp
      rw [this]
      exact hB
    simp only [execOp, hop, Sem.run_bind, run_build w t _ B hbt, Result.andThen_ok, Sem.run_pure]
  · exact h.elim

/-- fill of a row, element by element. -/
theorem fill_row (k : Nat) : ∀ (us : List Value) (s : Nat) (A : Array Value), (∀ u ∈ us, u.cells.size = k) → (s + us.length) * k ≤ A.size →
    ∃ B, Instr.fill (fun i => some (i * k, k)) A ((List.range' s us.length).zip us) = some B ∧ B.size = A.size ∧ (∀ q, q < s * k → B[q]? = A[q]?) ∧ ∀ i j u, us[i]? = some u → j < k → B[(s + i) * k + j]? = u.cells[j]? := by
  intro us
  induction us with
  | nil => intro s A _ _; exact ⟨A, rfl, rfl, fun _ _ => rfl, fun i j u h => by simp at h⟩
  | cons u us ih =>
    intro s A hk hle
    simp only [List.length_cons] at hle
    have hmul : (s + (us.length + 1)) * k = s * k + k + us.length * k := by rw [Nat.add_mul, Nat.add_mul]; omega
    obtain ⟨B, hB1, hB2, hB3⟩ := fill_step (fun i => some (i * k, k)) A s (s * k) k u ((List.range' (s + 1) us.length).zip us) rfl (hk u (by simp)) (by omega)
    obtain ⟨C, hC1, hC2, hC3, hC4⟩ := ih (s + 1) B (fun v hv => hk v (by simp [hv])) (by rw [hB2, show s + 1 + us.length = s + (us.length + 1) by omega]; exact hle)
    refine ⟨C, ?_, by rw [hC2, hB2], fun q hq => ?_, fun i j v hv hj => ?_⟩
    · simp only [List.length_cons, List.range'_succ, List.zip_cons_cons]
      rw [hB1]; exact hC1
    · rw [hC3 q (by rw [Nat.add_mul]; omega), hB3, if_neg (by omega)]
    · cases i with
      | zero =>
        simp at hv; subst hv
        rw [Nat.add_zero, hC3 _ (by rw [Nat.add_mul]; omega), hB3, if_pos (by omega), show s * k + j - s * k = j by omega]
      | succ i =>
        simp at hv
        rw [show s + (i + 1) = s + 1 + i by omega]
        exact hC4 i j v hv hj

theorem snd_bsl {t e : TypeId} {n k : Nat} {ps : Array (Nat × Operand)} {zs : List Value} (hop : o.op = .buildSlice t n ps) (ht : P.underlying t = some (.slice e)) (hs : szO P e = some k) (hz : zeroO P e = some zs)
    (_hzl : zs.length = k) (_hk1 : 1 ≤ k) (hlim : n * k ≤ 16777216) (hps : ps.toList.map (·.1) = List.range n) (h : kBsl k ((ps.toList.map (·.2)).map ρ) K) : SND P o ρ S K := by
  obtain ⟨hall, hK⟩ := h
  have hlen : ps.toList.length = n := by have := congrArg List.length hps; simpa using this
  refine ⟨_, [], [], [], fun T _ _ G a w hw hr Kc Q hk => ?_, (fun p hp => by cases hp), (fun i hi => by simp at hi), hK⟩
  obtain ⟨it, z, hit, hz0, hzc, ho⟩ := zeroO_some hz
  have hrep : ∀ (j : Nat) (p : Nat × Operand), ps.toList[j]? = some p → Rep G (ρ p.2) (a.eval p.2) := fun j p hp => hr p.2 (by
    simp only [hop, Op.operands, List.mem_toArray, List.mem_map]
    exact ⟨p, List.mem_of_getElem? hp, rfl⟩)
  have hpart : ∀ (j : Nat) (p : Nat × Operand), ps.toList[j]? = some p → ∃ cs, (ρ p.2).parts = some cs ∧ cs.length = k := fun j p hp => by
    have := List.all_eq_true.1 hall (ρ p.2) (by simp only [List.mem_map]; exact ⟨p.2, ⟨p, List.mem_of_getElem? hp, rfl⟩, rfl⟩)
    unfold okEl at this
    split at this
    · rename_i cs hcs; exact ⟨cs, hcs, by simpa using this⟩
    · cases this
  let us : List Value := ps.toList.map fun p => a.eval p.2
  have husl : us.length = n := by simp [us, hlen]
  have husk : ∀ u ∈ us, u.cells.size = k := by
    intro u hu
    simp only [us, List.mem_map] at hu
    obtain ⟨p, hp, rfl⟩ := hu
    obtain ⟨j, hj, rfl⟩ := List.getElem_of_mem hp
    obtain ⟨cs, hcs, hl⟩ := hpart j _ (List.getElem?_eq_getElem hj)
    have := ((hrep j _ (List.getElem?_eq_getElem hj)).parts hcs).2.1.1
    rw [← hl, this]; exact (Array.length_toList (xs := _)).symm
  let A : Array Value := (Array.range (n * k)).map (z.cells[· % z.cells.size]!)
  have hAs : A.size = n * k := by simp [A]
  obtain ⟨B, hB1, hB2, hB3, hB4⟩ := fill_row k us 0 A husk (by rw [hAs, husl, Nat.zero_add]; exact Nat.le_refl _)
  have hzip : (List.range' 0 us.length).zip us = (ps.map fun (i, x) => (i, a.eval x)).toList := by
    rw [husl, ← List.range_eq_range', ← hps]
    simp only [us, Array.toList_map]
    rw [List.zip_map']
  have hrun : (execOp a.eval o).run P w = .ok (.value (.slice (some ⟨w.heap.size, 0, none⟩) n n)) (w.alloc (.cells B e)) := by
    simp only [execOp, hop, Instr.buildSlice, Sem.run_bind, run_underlying ht, Result.andThen_ok, run_sizeO hs]
    rw [if_neg (by omega)]
    have hz' : zs.length = z.cells.size := by rw [hzc]; simp
    by_cases hn : n * k = 0
    · have hA0 : A = (Array.range (n * k)).map (fun x => (#[] : Array Value)[x % (#[] : Array Value).size]!) := by
        apply Array.ext
        · simp [A]
        · intro i h1 h2; simp [A, hn] at h1
      rw [hzip, hA0] at hB1
      simp [hn] at hB1 ⊢
      simp [hB1, newRow]
    · rw [hzip] at hB1
      simp [hn, zeroValue, typeInfo, hit, hz0]
      simp [A] at hB1
      simp [hB1, newRow]
  unfold Oper.wp
  rw [hrun]
  have hstill := Left.still_ (vs := B.toList) hw (More.alloc w (.cells B e)) (fun i v hv => by simpa using hv)
  refine hk _ _ _ ?_ (by simpa [newU] using hstill)
  have hxl : ((ps.toList.map (·.2)).map ρ).length = n := by simpa using hlen
  have hBc : ∀ i j, i < n → j < k → ∃ p cs u, ps.toList[i]? = some p ∧ (ρ p.2).parts = some cs ∧ cs.length = k ∧ B[i * k + j]? = some u ∧ (a.eval p.2).cells[j]? = some u := by
    intro i j hi hj
    have hp := List.getElem?_eq_getElem (show i < ps.toList.length by omega)
    obtain ⟨cs, hcs, hl⟩ := hpart i _ hp
    have hu : us[i]? = some (a.eval (ps.toList[i]'(by omega)).2) := by simp only [us, List.getElem?_map, hp, Option.map_some]
    have e := hB4 i j _ hu hj
    have hsz := husk _ (List.mem_of_getElem? hu)
    have hv := Array.getElem?_eq_getElem (show j < (a.eval (ps.toList[i]'(by omega)).2).cells.size by omega)
    refine ⟨_, cs, _, hp, hcs, hl, ?_, hv⟩
    rw [Nat.zero_add] at e
    rw [e]; exact hv
  have := Rep.sl (G := G.newImm w.heap.size B.toList) (t := .full) (k := k) (xs := (ps.toList.map (·.2)).map ρ) (A := some ⟨w.heap.size, 0, none⟩) (c := n) (b := w.heap.size) (o := 0) (fun i j => (B[i * k + j]?).getD undef) (by rw [hxl]; omega) (fun _ => rfl)
    (fun i x hx => by
      obtain ⟨p', hp', rfl⟩ := map_get hx
      obtain ⟨p, hp, rfl⟩ := map_get hp'
      obtain ⟨cs, hcs, hl⟩ := hpart i p hp
      rw [← ((hrep i p hp).parts hcs).1]; exact hl)
    (fun i j hi hj => by
      obtain ⟨p, cs, u, hp, hcs, hl, hBu, hu⟩ := hBc i j (by omega) hj
      simp [Gh.newImm, hBu])
    (fun i j hi hj => by
      obtain ⟨p, cs, u, hp, hcs, hl, hBu, hu⟩ := hBc i j (by omega) hj
      simp only [hBu, Option.getD_some]
      exact ((hrep i p hp).parts hcs).2.2 u (List.mem_of_getElem? (by simpa using hu)))
    (fun i j x y hx hy => by
      obtain ⟨p', hp', rfl⟩ := map_get hx
      obtain ⟨p, hp, rfl⟩ := map_get hp'
      have hi : i < n := by rw [← hlen]; exact (List.getElem?_eq_some_iff.1 hp).1
      obtain ⟨cs, hcs, hl⟩ := hpart i p hp
      have hpt := (hrep i p hp).parts hcs
      rw [← hpt.1] at hy
      have hj : j < k := by rw [← hl]; exact (List.getElem?_eq_some_iff.1 hy).1
      obtain ⟨p2, cs2, u, hp2, hcs2, hl2, hBu, hu⟩ := hBc i j hi hj
      rw [hp] at hp2; injection hp2 with e; subst e
      simp only [hBu, Option.getD_some]
      exact (hpt.2.1.2 j y u hy (by simpa using hu)).mono hstill.le)
    (by rw [hxl]; rfl)
  rwa [hxl] at this

end
end Go.Proofs.Ytgphhganepjaiaa
