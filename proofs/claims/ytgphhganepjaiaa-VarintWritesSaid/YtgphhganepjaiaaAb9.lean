/-
  The operations do what is told of them: append, bytes of a string, make, calls, structs that are compared. Over any program.
-/
import Derived.Test.YtgphhganepjaiaaAb8
import Derived.Laws.IdiomStrings
namespace Go.Proofs.Ytgphhganepjaiaa

section
variable {P : Program} {o : Oper} {ρ : Operand → AV} {S : List AObj} {K : KT}

/-- append into the room that there is, whatever the block's type. -/
theorem run_append_room' (w : World) (t ty e t0 : TypeId) (i : TypeInfo) (ht : P.underlying t = some (.slice e)) (hi : P.info? e = some i) (g sLen sCap : Nat) (cur : Array Value) (hg : w.heap[g]? = some (.cells cur t0 (0, 0)))
    (a : Addr) (m c : Nat) (news : List Value) (hl : news.length = m * i.size) (hnews : ∀ j u, news[j]? = some u → w.cell? (a.add j) = some u) (h1 : ∀ u ∈ news, u.oneCell' = true)
    (hroom : sLen + m ≤ sCap) (hfit : sLen * i.size + news.length ≤ cur.size) :
    (Builtin.append_ #[t, t] ty #[.slice (some ⟨g, 0, none⟩) sLen sCap, .slice (some a) m c]).run P w =
      .ok (.slice (some ⟨g, 0, none⟩) (sLen + m) sCap) (w.setRow g (cur.toList.take (sLen * i.size) ++ news ++ cur.toList.drop (sLen * i.size + news.length)).toArray) := by
  have hf := run_firstCells_some (P := P) w i.size m a m c news hl hnews
  have hst := run_storeCells_at P g (sLen * i.size) t0 news 0 cur w hg (by simpa using hfit) h1
  simp only [Nat.add_zero] at hst
  simp [Builtin.append_, run_underlying ht, sizeOf, typeInfo, hi, Builtin.lenOf, hroom, hf, add_none, hst]
/-- append of nothing. -/
theorem run_append_zero (w : World) (t ty e : TypeId) (i : TypeInfo) (ht : P.underlying t = some (.slice e)) (hi : P.info? e = some i) (A B : Option Addr) (n c c2 : Nat) (hc : n ≤ c) :
    (Builtin.append_ #[t, t] ty #[.slice A n c, .slice B 0 c2]).run P w = .ok (.slice A n c) w := by
  cases A <;> cases B <;> simp [Builtin.append_, run_underlying ht, sizeOf, typeInfo, hi, Builtin.lenOf, Builtin.firstCells, hc, storeCells, loadCells, loadCellsFrom]

/-- The cells of a slice, one behind the other. -/
theorem sl_cells {G : Gh} {t : Tag} {k : Nat} {xs : List AV} {A : Option Addr} {n c : Nat} (r : Rep G (.sl t k xs) (.slice A n c)) (hk : 1 ≤ k) :
    ∃ vs : List Value, n = xs.length ∧ n ≤ c ∧ vs.length = xs.length * k ∧ (∀ u ∈ vs, u.oneCell' = true) ∧ (∀ (i j : Nat) (x y : AV), xs[i]? = some x → x.cells[j]? = some y → ∃ u, vs[i * k + j]? = some u ∧ Rep G y u) ∧ (∀ (i : Nat) (x : AV), xs[i]? = some x → x.cells.length = k) ∧
      (0 < xs.length → ∃ b o, A = some ⟨b, o, none⟩ ∧ ∀ (q : Nat) (u : Value), vs[q]? = some u → G.imm b (o + q) = some u) ∧ TagOk G t A n c := by
  cases r with
  | @sl _ _ _ _ _ b o vs hc hA hk' g1 g2 g3 ht =>
    have hdm : ∀ i j, j < k → (i * k + j) / k = i ∧ (i * k + j) % k = j := fun i j hj => by
      rw [Nat.mul_comm]
      exact ⟨by rw [Nat.mul_add_div (by omega), Nat.div_eq_of_lt hj]; rfl, by rw [Nat.mul_add_mod, Nat.mod_eq_of_lt hj]⟩
    have hq : ∀ q, q < xs.length * k → q / k < xs.length ∧ q % k < k := fun q hq => ⟨Nat.div_lt_of_lt_mul (by rw [Nat.mul_comm]; exact hq), Nat.mod_lt _ (by omega)⟩
    refine ⟨(List.range (xs.length * k)).map fun q => vs (q / k) (q % k), rfl, hc, by simp, fun u hu => ?_, fun i j x y hx hy => ?_, hk', fun h0 => ⟨b, o, hA h0, fun q u hu => ?_⟩, ht⟩
    · simp only [List.mem_map, List.mem_range] at hu
      obtain ⟨q, hq1, rfl⟩ := hu
      exact g2 _ _ (hq q hq1).1 (hq q hq1).2
    · have hi : i < xs.length := (List.getElem?_eq_some_iff.1 hx).1
      have hj : j < k := by rw [← hk' i x hx]; exact (List.getElem?_eq_some_iff.1 hy).1
      have hlt : i * k + j < xs.length * k := by
        have : (i + 1) * k ≤ xs.length * k := Nat.mul_le_mul_right _ (by omega)
        rw [Nat.add_mul] at this; omega
      refine ⟨vs i j, ?_, g3 i j x y hx hy⟩
      rw [List.getElem?_map, List.getElem?_range hlt, Option.map_some, (hdm i j hj).1, (hdm i j hj).2]
    · have hlt : q < xs.length * k := by have := (List.getElem?_eq_some_iff.1 hu).1; simpa using this
      rw [List.getElem?_map, List.getElem?_range hlt] at hu
      simp at hu
      rw [← hu]
      have := g1 _ _ (hq q hlt).1 (hq q hlt).2
      rwa [Nat.add_assoc, Nat.mul_comm, Nat.div_add_mod] at this

/-- A slice of known cells that lie still at a block's head. -/
theorem rep_of_cells {G : Gh} {t : Tag} {k b c : Nat} {zs : List AV} {vs : List Value} (hl : vs.length = zs.length * k) (hc : zs.length ≤ c) (h1 : ∀ u ∈ vs, u.oneCell' = true) (hk : ∀ (i : Nat) (x : AV), zs[i]? = some x → x.cells.length = k)
    (hi : ∀ (q : Nat) (u : Value), vs[q]? = some u → G.imm b q = some u) (hr : ∀ (i j : Nat) (x y : AV) (u : Value), zs[i]? = some x → x.cells[j]? = some y → vs[i * k + j]? = some u → Rep G y u) (ht : TagOk G t (some ⟨b, 0, none⟩) zs.length c) :
    Rep G (.sl t k zs) (.slice (some ⟨b, 0, none⟩) zs.length c) := by
  have hlt : ∀ i j, i < zs.length → j < k → i * k + j < vs.length := fun i j h h' => by
    have : (i + 1) * k ≤ zs.length * k := Nat.mul_le_mul_right _ (by omega)
    rw [Nat.add_mul] at this; omega
  refine .sl (b := b) (o := 0) (fun i j => vs.getD (i * k + j) undef) hc (fun _ => rfl) hk (fun i j hi' hj => ?_) (fun i j hi' hj => ?_) (fun i j x y hx hy => ?_) ht
  · rw [Nat.zero_add]; exact hi _ _ (by simp [hlt i j hi' hj])
  · exact h1 _ (List.mem_of_getElem? (i := i * k + j) (by simp [hlt i j hi' hj]))
  · have hi' : i < zs.length := (List.getElem?_eq_some_iff.1 hx).1
    have hj : j < k := by rw [← hk i x hx]; exact (List.getElem?_eq_some_iff.1 hy).1
    exact hr i j x y _ hx hy (by simp [hlt i j hi' hj])

theorem append_reps {G : Gh} {k : Nat} {xs ys : List AV} {vs us : List Value} (hv : vs.length = xs.length * k) (h1 : ∀ (i j : Nat) (x y : AV), xs[i]? = some x → x.cells[j]? = some y → ∃ u, vs[i * k + j]? = some u ∧ Rep G y u) (hxk : ∀ (i : Nat) (x : AV), xs[i]? = some x → x.cells.length = k)
    (h2 : ∀ (i j : Nat) (x y : AV), ys[i]? = some x → x.cells[j]? = some y → ∃ u, us[i * k + j]? = some u ∧ Rep G y u) (hyk : ∀ (i : Nat) (x : AV), ys[i]? = some x → x.cells.length = k) :
    (∀ (i : Nat) (x : AV), (xs ++ ys)[i]? = some x → x.cells.length = k) ∧ ∀ (i j : Nat) (x y : AV) (u : Value), (xs ++ ys)[i]? = some x → x.cells[j]? = some y → (vs ++ us)[i * k + j]? = some u → Rep G y u := by
  refine ⟨fun i x hx => ?_, fun i j x y u hx hy hu => ?_⟩
  · rw [List.getElem?_append] at hx
    split at hx
    · exact hxk i x hx
    · exact hyk _ x hx
  · rw [List.getElem?_append] at hx
    split at hx
    · rename_i hi
      obtain ⟨u', hu', hr⟩ := h1 i j x y hx hy
      have hlt := (List.getElem?_eq_some_iff.1 hu').1
      rw [List.getElem?_append_left hlt, hu'] at hu
      injection hu with e; subst e; exact hr
    · rename_i hi
      obtain ⟨u', hu', hr⟩ := h2 _ j x y hx hy
      have hle : xs.length * k ≤ i * k := Nat.mul_le_mul_right _ (by omega)
      have hs : (i - xs.length) * k = i * k - xs.length * k := Nat.sub_mul _ _ _
      rw [List.getElem?_append_right (by omega), show i * k + j - vs.length = (i - xs.length) * k + j by omega, hu'] at hu
      injection hu with e; subst e; exact hr

theorem snd_app {t e : TypeId} {s x : Operand} {c : Call} {i : TypeInfo} {zs : List Value} (hop : o.op = .call c) (hcal : c.callee = .builtin .append) (ha : c.args.toList = [s, x]) (hat : c.argTypes.toList = [t, t])
    (ht : P.underlying t = some (.slice e)) (hi : P.info? e = some i) (hz : zeroO P e = some zs) (hzl : zs.length = i.size) (hk1 : 1 ≤ i.size) (hb1 : 1 ≤ i.bytes) (h : kApp i.size i.bytes (ρ s) (ρ x) S K) : SND P o ρ S K := by
  have hargs : c.args = #[s, x] := by rw [← ha]
  have hats : c.argTypes = #[t, t] := by rw [← hat]
  obtain ⟨it, z, hit, hz0, hzc, ho⟩ := zeroO_some hz
  rw [hi] at hit; injection hit with hit; subst hit
  have hzs : z.cells.size = i.size := by rw [← hzl, hzc]; simp
  generalize hK' : i.size = k at *
  have hrun : ∀ (a : Act) (w : World) (v : Value) (w' : World), (Builtin.append_ #[t, t] o.type #[a.eval s, a.eval x]).run P w = .ok v w' → (execOp a.eval o).run P w = .ok (.value v) w' := by
    intro a w v w' hv
    simp [execOp, hop, resolve, hcal, hargs, hats, invoke, builtin, hv]
  unfold kApp at h
  split at h
  · rename_i tg ks xs tg2 ky ys hs hx
    obtain ⟨hks, hky, hbd, h⟩ := h
    have hsmall : xs.length + ys.length ≤ 140737488355328 := Nat.le_trans (Nat.le_mul_of_pos_right _ hb1) hbd
    -- the two slices
    have hboth : ∀ (G : Gh) (a : Act), (∀ x ∈ o.op.operands, Rep G (ρ x) (a.eval x)) → (∃ A n c', a.eval s = .slice A n c' ∧ Rep G (.sl tg k xs) (.slice A n c')) ∧ ∃ B m c', a.eval x = .slice B m c' ∧ Rep G (.sl tg2 k ys) (.slice B m c') := by
      intro G a hr
      have r1 := hr s (by simp [hop, Op.operands, Call.operands, hargs])
      have r2 := hr x (by simp [hop, Op.operands, Call.operands, hargs])
      rw [hs] at r1
      rw [hx] at r2
      have r1' : Rep G (.sl tg k xs) (a.eval s) := by
        rcases hks with rfl | rfl
        · exact r1
        · exact r1.rek
      have r2' : Rep G (.sl tg2 k ys) (a.eval x) := by
        rcases hky with rfl | rfl
        · exact r2
        · exact r2.rek
      generalize a.eval s = u1 at r1'
      generalize a.eval x = u2 at r2'
      refine ⟨?_, ?_⟩
      · cases r1' with
        | @sl _ _ _ A c' _ _ vs q1 q2 q3 q4 q5 q6 q7 => exact ⟨A, _, c', rfl, .sl vs q1 q2 q3 q4 q5 q6 q7⟩
      · cases r2' with
        | @sl _ _ _ A c' _ _ vs q1 q2 q3 q4 q5 q6 q7 => exact ⟨A, _, c', rfl, .sl vs q1 q2 q3 q4 q5 q6 q7⟩
    -- the arm in which a new array is made
    have grown : ∀ (G : Gh) (a : Act) (w : World) (T : List AObj) (id : Nat) (A B : Option Addr) (cs cx : Nat), Wd G T w → a.eval s = .slice A xs.length cs → a.eval x = .slice B ys.length cx → Rep G (.sl tg k xs) (.slice A xs.length cs) → Rep G (.sl tg2 k ys) (.slice B ys.length cx) →
        0 < ys.length → cs < xs.length + ys.length → (A = none → cs = 0) → (T[id]? = some .dead ∨ ∃ m, m < xs.length + ys.length ∧ T[id]? = some (.row k m)) →
        ∃ v' w' G', (execOp a.eval o).run P w = .ok (.value v') w' ∧ Rep G' (.sl (.row id) k (xs ++ ys)) v' ∧ Left G T w G' (T.set id (.row k (xs.length + ys.length))) w' := by
      intro G a w T id A B cs cx hw es ex r1 r2 hy0 hcap hA0 hid
      obtain ⟨vs, _, hvc, hvl, hv1, hv2, hvk, hv3, _⟩ := sl_cells r1 hk1
      obtain ⟨us, _, huc, hul, hu1, hu2, huk, hu3, _⟩ := sl_cells r2 hk1
      obtain ⟨b2, o2, rfl, hu4⟩ := hu3 hy0
      have hnews : ∀ j u, us[j]? = some u → w.cell? ((⟨b2, o2, none⟩ : Addr).add j) = some u := fun j u hu => by rw [add_none]; exact hw.imm _ _ _ (hu4 j u hu)
      let cap := grownCap w (xs.length + ys.length) cs e
      have hge : xs.length + ys.length ≤ cap := grownCap_ge w _ cs e
      let cells : Array Value := vs.toArray ++ us.toArray ++ Builtin.zeroCells z.cells (cap - (xs.length + ys.length))
      have hrun2 : (Builtin.append_ #[t, t] o.type #[a.eval s, a.eval x]).run P w = .ok (.slice (some ⟨w.heap.size, 0, none⟩) (xs.length + ys.length) cap) (w.drew.alloc (.cells cells e)) := by
        rw [es, ex]
        cases A with
        | none =>
          have hcs := hA0 rfl
          have hx0 : xs.length = 0 := by omega
          have hxn : xs = [] := List.eq_nil_of_length_eq_zero hx0
          have hvn : vs = [] := List.eq_nil_of_length_eq_zero (by rw [hvl, hx0]; omega)
          subst hcs hxn hvn
          have := run_append_nil (P := P) w t o.type e i z ht hi hz0 ⟨b2, o2, none⟩ ys.length cx us (by rw [hul, hK']) hnews hy0 (by simp at hsmall; omega) (by simp at hbd; omega)
          simpa [cells, cap] using this
        | some ad =>
          have holds : ∀ j v, vs[j]? = some v → w.cell? (ad.add j) = some v := fun j v hv => by
            have hx0 : 0 < xs.length := by
              rcases Nat.eq_zero_or_pos xs.length with h | h
              · have := (List.getElem?_eq_some_iff.1 hv).1; rw [hvl, h] at this; omega
              · exact h
            obtain ⟨b1, o1, e1, hv4⟩ := hv3 hx0
            injection e1 with e1; subst e1
            rw [add_none]; exact hw.imm _ _ _ (hv4 j v hv)
          exact run_append_grow (P := P) w t o.type e i z ht hi hz0 ad xs.length cs vs (by rw [hvl, hK']) holds ⟨b2, o2, none⟩ ys.length cx us (by rw [hul, hK']) hnews hcap (by omega) (growslice_fits hcap hbd)
      have hlen : (vs ++ us).length = (xs.length + ys.length) * k := by rw [List.length_append, hvl, hul, Nat.add_mul]
      have hcells : cells.size = cap * k := by
        simp only [cells, Array.size_append, List.size_toArray, size_zeroCells, hzs, hvl, hul, ← Nat.add_mul]
        congr 1; omega
      have hpre : ∀ (q : Nat) (v : Value), (vs ++ us)[q]? = some v → cells[q]? = some v := by
        intro q v hv
        have hlt := (List.getElem?_eq_some_iff.1 hv).1
        have : cells.toList[q]? = some v := by
          simp only [cells, Array.toList_append]
          rw [List.getElem?_append_left (by simpa using hlt)]
          exact hv
        simpa using this
      have hleft := Left.rowNew (id := id) (k := k) (n := xs.length + ys.length) (c := cap) (vs := vs ++ us) (t := e) hw hid hk1 (More.drew w (.cells cells e)) hge hcells hlen hpre
      refine ⟨_, _, _, hrun a w _ _ hrun2, ?_, hleft⟩
      have hap := append_reps (G := G) hvl hv2 hvk hu2 huk
      have := rep_of_cells (G := (G.newImm w.heap.size (vs ++ us)).newHist id (xs.length + ys.length) (.slice (some ⟨w.heap.size, 0, none⟩) (xs.length + ys.length) cap)) (t := .row id) (k := k) (b := w.heap.size) (c := cap) (zs := xs ++ ys) (vs := vs ++ us)
        (by rw [hlen]; simp) (by simpa using hge) (fun u hu => by rcases List.mem_append.1 hu with h | h; exact hv1 u h; exact hu1 u h) hap.1 (fun q u hu => by simpa [Gh.newImm, Gh.newHist] using hu) (fun i j x y u h1 h2 h3 => (hap.2 i j x y u h1 h2 h3).mono hleft.le) (by simp [TagOk, Gh.newHist])
      simpa using this
    split at h
    · -- its capacity is its length
      refine ⟨_, [], [], [.row k (xs.length + ys.length)], fun T _ hd G a w hw hr Kc Q hk => ?_, (fun p hp => by cases hp), (fun i hi => by simp at hi), h⟩
      have hid : T[S.length]? = some .dead := hd (S.length, .row k (xs.length + ys.length)) (by simp [newU])
      obtain ⟨⟨A, n, c', es, r1⟩, B, m, cx, ex, r2⟩ := hboth G a hr
      obtain ⟨vs, hn, hvc, hvl, hv1, hv2, hvk, hv3, htag⟩ := sl_cells r1 hk1
      have hm : m = ys.length := (sl_cells r2 hk1).choose_spec.1
      subst hn hm
      have htag' : c' = xs.length := htag
      by_cases hy0 : 0 < ys.length
      · obtain ⟨v', w', G', hrn, hrep, hleft⟩ := grown G a w T S.length A B c' cx hw es ex r1 r2 hy0 (by omega) (fun hA => by
          rcases Nat.eq_zero_or_pos xs.length with h | h
          · omega
          · obtain ⟨_, _, e, _⟩ := hv3 h; rw [hA] at e; cases e) (.inl hid)
        unfold Oper.wp
        rw [hrn]
        exact hk v' w' G' hrep (by simpa [newU] using hleft)
      · have hyn : ys = [] := List.eq_nil_of_length_eq_zero (by omega)
        subst hyn
        have hz := run_append_zero (P := P) w t o.type e i ht hi A B xs.length c' cx hvc
        have hrn := hrun a w _ _ (by rw [es, ex]; exact hz)
        unfold Oper.wp
        rw [hrn]
        subst htag'
        obtain ⟨hleft, hh⟩ := Left.rowFull (id := S.length) (k := k) (n := xs.length) (A := A) hw hid hk1
        refine hk _ w _ ?_ (by simpa [newU] using hleft)
        have := (r1.mono hleft.le).retag (t' := .row S.length) hh
        simpa using this
    · -- the present one of a row
      rename_i j
      obtain ⟨hSj, hK⟩ := h
      refine ⟨_, [j], [(j, .row k (xs.length + ys.length))], [], fun T hT _ G a w hw hr Kc Q hk => ?_, by simp, (fun q hq => by simp at hq; subst hq; exact (List.getElem?_eq_some_iff.1 hSj).1), hK⟩
      have hTj : T[j]? = some (.row k xs.length) := (hT j (by simp)).trans hSj
      have hlt : j < T.length := (List.getElem?_eq_some_iff.1 hTj).1
      obtain ⟨⟨A, n, c', es, r1⟩, B, m, cx, ex, r2⟩ := hboth G a hr
      obtain ⟨vs, hn, hvc, hvl, hv1, hv2, hvk, hv3, htag⟩ := sl_cells r1 hk1
      obtain ⟨us, hm, huc, hul, hu1, hu2, huk, hu3, _⟩ := sl_cells r2 hk1
      subst hn hm
      have htag' : G.hist j xs.length = some (.slice A xs.length c') := htag
      obtain ⟨_, A', cap', q1, q2, q3, q4⟩ := hw.row j k _ hTj
      rw [htag'] at q1; injection q1 with q1; injection q1 with e1 _ e3; subst e1 e3
      by_cases hy0 : 0 < ys.length
      · by_cases hroom : xs.length + ys.length ≤ c'
        · obtain ⟨b, cur, t0, e1, g2, g3, g4⟩ := q4 (by omega)
          subst e1
          obtain ⟨b2, o2, rfl, hu4⟩ := hu3 hy0
          have hnews : ∀ j u, us[j]? = some u → w.cell? ((⟨b2, o2, none⟩ : Addr).add j) = some u := fun j u hu => by rw [add_none]; exact hw.imm _ _ _ (hu4 j u hu)
          have hfit : xs.length * k + us.length ≤ cur.size := by rw [hul, g3, ← Nat.add_mul]; exact Nat.mul_le_mul_right _ hroom
          have hrn := run_append_room' (P := P) w t o.type e t0 i ht hi b xs.length c' cur g2 ⟨b2, o2, none⟩ ys.length cx us (by rw [hul, hK']) hnews hu1 hroom (by rw [hK']; exact hfit)
          rw [hK'] at hrn
          have hrn2 := hrun a w _ _ (by rw [es, ex]; exact hrn)
          unfold Oper.wp
          rw [hrn2]
          have hcl : ∀ q, q < xs.length * k → cur[q]? = (cur.toList.take (xs.length * k) ++ us ++ cur.toList.drop (xs.length * k + us.length)).toArray[q]? := fun q hq => by
            simp only [List.getElem?_toArray]
            rw [List.append_assoc, List.getElem?_append_left (by simp; omega), List.getElem?_take, if_pos hq]; simp
          have hnw : ∀ (q : Nat) (v : Value), us[q]? = some v → (cur.toList.take (xs.length * k) ++ us ++ cur.toList.drop (xs.length * k + us.length)).toArray[xs.length * k + q]? = some v := fun q v hv => by
            simp only [List.getElem?_toArray]
            have hq := (List.getElem?_eq_some_iff.1 hv).1
            have hq2 : (List.take (xs.length * k) cur.toList).length = xs.length * k := by simp; omega
            rw [List.append_assoc, List.getElem?_append_right (by omega), hq2, List.getElem?_append_left (by omega)]
            rw [show xs.length * k + q - xs.length * k = q by omega]; exact hv
          have hleft := Left.rowGrow (n' := xs.length + ys.length) (vs := us) hw hTj htag' (by omega) hroom (turn_setRow (cs' := (cur.toList.take (xs.length * k) ++ us ++ cur.toList.drop (xs.length * k + us.length)).toArray) g2) (by simp; omega)
            (fun q hq => by rw [cell_at g2]; exact hcl q hq) (by rw [hul]; congr 1; omega) hnw
          refine hk _ _ _ ?_ (by simpa [newU] using hleft)
          have hap := append_reps (G := G) hvl hv2 hvk hu2 huk
          have hlen : (vs ++ us).length = (xs.length + ys.length) * k := by rw [List.length_append, hvl, hul, Nat.add_mul]
          have := rep_of_cells (G := (G.moreImm b (xs.length * k) us).newHist j (xs.length + ys.length) (.slice (some ⟨b, 0, none⟩) (xs.length + ys.length) c')) (t := .row j) (k := k) (b := b) (c := c') (zs := xs ++ ys) (vs := vs ++ us)
            (by rw [hlen]; simp) (by simpa using hroom) (fun u hu => by rcases List.mem_append.1 hu with h | h; exact hv1 u h; exact hu1 u h) hap.1 (fun q u hu => by
              rw [List.getElem?_append] at hu
              split at hu
              · rename_i hq
                have hx0 : 0 < xs.length := by
                  rcases Nat.eq_zero_or_pos xs.length with h | h
                  · rw [hvl, h] at hq; omega
                  · exact h
                obtain ⟨b1, o1, e1, hv4⟩ := hv3 hx0
                injection e1 with e1; injection e1 with e1 e2; subst e1 e2
                have := hv4 q u hu
                rw [Nat.zero_add] at this
                simpa [Gh.newHist, Gh.moreImm, show ¬ xs.length * k ≤ q by omega] using this
              · rename_i hq
                simp only [Gh.newHist, Gh.moreImm]
                rw [if_pos ⟨trivial, by omega⟩, ← hvl]; exact hu) (fun i j x y u h1 h2 h3 => (hap.2 i j x y u h1 h2 h3).mono hleft.le) (by simp [TagOk, Gh.newHist])
          simpa using this
        · obtain ⟨v', w', G', hrn, hrep, hleft⟩ := grown G a w T j A B c' cx hw es ex r1 r2 hy0 (by omega) (fun hA => by
            rcases Nat.lt_or_ge xs.length c' with h | h
            · obtain ⟨b, _, _, e, _⟩ := q4 h; rw [hA] at e; cases e
            · rcases Nat.eq_zero_or_pos xs.length with h' | h'
              · omega
              · obtain ⟨_, _, e, _⟩ := hv3 h'; rw [hA] at e; cases e) (.inr ⟨_, by omega, hTj⟩)
          unfold Oper.wp
          rw [hrn]
          exact hk v' w' G' hrep (by simpa [newU] using hleft)
      · have hyn : ys = [] := List.eq_nil_of_length_eq_zero (by omega)
        subst hyn
        have hz := run_append_zero (P := P) w t o.type e i ht hi A B xs.length c' cx hvc
        have hrn := hrun a w _ _ (by rw [es, ex]; exact hz)
        unfold Oper.wp
        rw [hrn]
        refine hk _ w G (by simpa using r1) ?_
        have : T.set j (.row k xs.length) = T := by
          apply List.ext_getElem?
          intro q
          by_cases e : q = j
          · subst e; rw [List.getElem?_set_self hlt, hTj]
          · rw [List.getElem?_set_ne (Ne.symm e)]
        simpa [newU, this] using Left.refl hw
    · exact h.elim
  · exact h.elim

theorem snd_s2b {src dst e : TypeId} {x : Operand} (hop : o.op = .convert src dst x) (hs : P.underlying src = some .string) (hd : P.underlying dst = some (.slice e)) (he : P.underlying e = some (.int .u8)) (h : kS2b (ρ x) K) : SND P o ρ S K := by
  unfold kS2b at h
  split at h
  · rename_i s hx
    obtain ⟨_, hK⟩ := h
    refine ⟨_, [], [], [], fun T _ _ G a w hw hr Kc Q hk => ?_, (fun p hp => by cases hp), (fun i hi => by simp at hi), hK⟩
    have r := hr x (by simp [hop, Op.operands])
    rw [hx] at r
    have ex := rep_lit r
    have hrun := run_bytes_of_string (P := P) w src dst e s hs hd he
    have hrn : (execOp a.eval o).run P w = .ok (.value (.slice (some ⟨w.heap.size, 0, none⟩) s.size (grownCap w s.size 0 e)))
        (w.drew.alloc (.cells (bytesRow s (grownCap w s.size 0 e)) e ((bytesRow s (grownCap w s.size 0 e)).size, (bytesRow s (grownCap w s.size 0 e)).size + 1))) := by
      simp only [execOp, hop, ex, Sem.run_bind, hrun, Result.andThen_ok, Sem.run_pure]
    unfold Oper.wp
    rw [hrn]
    let vs : List Value := s.data.toList.map fun b => .int .u8 b.toNat
    have hpre : ∀ (i : Nat) (v : Value), vs[i]? = some v → (bytesRow s (grownCap w s.size 0 e))[i]? = some v := by
      intro i v hv
      have hlt := (List.getElem?_eq_some_iff.1 hv).1
      simp only [bytesRow]
      rw [Array.getElem?_append_left (by simpa [vs] using hlt)]
      simpa [vs] using hv
    have hleft := Left.still_ (vs := vs) hw (More.drew w (.cells (bytesRow s (grownCap w s.size 0 e)) e ((bytesRow s (grownCap w s.size 0 e)).size, (bytesRow s (grownCap w s.size 0 e)).size + 1))) hpre
    refine hk _ _ _ ?_ (by simpa [newU] using hleft)
    have hl : (s.data.toList.map fun b => AV.lit (.int .u8 b.toNat)).length = s.size := by simp
    have := rep_of_cells (G := G.newImm w.heap.size vs) (t := .none) (k := 1) (b := w.heap.size) (c := grownCap w s.size 0 e) (zs := s.data.toList.map fun b => AV.lit (.int .u8 b.toNat)) (vs := vs) (by simp [vs]) (by rw [hl]; exact grownCap_ge w _ 0 e)
      (fun u hu => by simp only [vs, List.mem_map] at hu; obtain ⟨b, _, rfl⟩ := hu; rfl) (fun i x hx => by obtain ⟨b, _, rfl⟩ := map_get hx; rfl) (fun q u hu => by simpa [Gh.newImm] using hu)
      (fun i j x y u h1 h2 h3 => by
        obtain ⟨b, hb, rfl⟩ := map_get h1
        cases j with
        | zero =>
          simp [AV.cells] at h2; subst h2
          simp [vs] at h3
          have hb' : s.data[i]? = some b := by simpa using hb
          rw [hb'] at h3; simp at h3; subst h3; exact .lit _
        | succ j => simp [AV.cells] at h2) trivial
    rwa [hl] at this
  · exact h.elim

theorem snd_mksl {t e : TypeId} {l c : Operand} {i : TypeInfo} {zs : List Value} (hop : o.op = .makeSlice t l c) (ht : P.underlying t = some (.slice e)) (hi : P.info? e = some i) (hz : zeroO P e = some zs) (hzl : zs.length = i.size) (hk1 : 1 ≤ i.size)
    (h : kMksl i.size i.bytes (ρ l) (ρ c) S.length K) : SND P o ρ S K := by
  unfold kMksl at h
  split at h
  · rename_i l' c' hl hc
    obtain ⟨rfl, h0, hbd, h63, hK⟩ := h
    obtain ⟨it, z, hit, hz0, hzc, ho⟩ := zeroO_some hz
    rw [hi] at hit; injection hit with hit; subst hit
    refine ⟨_, [], [], [.row i.size 0], fun T _ hd G a w hw hr Kc Q hk => ?_, (fun p hp => by cases hp), (fun i hi => by simp at hi), hK⟩
    have hid : T[S.length]? = some .dead := hd (S.length, .row i.size 0) (by simp [newU])
    have rl := hr l (by simp [hop, Op.operands])
    have rc := hr c (by simp [hop, Op.operands])
    rw [hl] at rl
    rw [hc] at rc
    have hwc : IntKind.i64.wrap c' = c' := IntWalk.i64_in _ (by omega)
    have hw0 : IntKind.i64.wrap 0 = 0 := rfl
    have hzs : z.cells.size = i.size := by rw [← hzl, hzc]; simp
    have hcm : (i.bytes : Int) * c' ≤ 140737488355328 := by rw [Int.mul_comm]; exact hbd
    have h1 : ¬ (281474976710656 < (i.bytes : Int) * c') := by omega
    have h2 : ¬ c' < 0 := by omega
    let cells : Array Value := (Array.range (c'.toNat * i.size)).map (z.cells[· % z.cells.size]!)
    have hrn : (execOp a.eval o).run P w = .ok (.value (.slice (some ⟨w.heap.size, 0, none⟩) 0 c'.toNat)) (w.alloc (.cells cells e)) := by
      have hsz := run_sizeO (P := P) (t := e) (n := i.size) (by simp [szO, hi])
      by_cases hn : c'.toNat * i.size = 0
      · have hcell : cells = #[] := by simp [cells, hn]
        simp [execOp, hop, Instr.makeSlice, rep_lit rl, rep_lit rc, run_underlying ht, asInt, asIntOf, typeInfo, hi, hwc, hw0, h1, h2, hsz, hn, newRow, hcell]
        have : Array.map (fun _ : Nat => (default : Value)) (Array.range 0) = #[] := by apply Array.ext <;> simp
        rw [this]
      · simp [execOp, hop, Instr.makeSlice, rep_lit rl, rep_lit rc, run_underlying ht, asInt, asIntOf, typeInfo, hi, hwc, hw0, h1, h2, hsz, hn, newRow, zeroValue, hz0, cells]
    unfold Oper.wp
    rw [hrn]
    have hleft := Left.rowNew (id := S.length) (k := i.size) (n := 0) (c := c'.toNat) (vs := []) (t := e) hw (.inl hid) hk1 (More.alloc w (.cells cells e)) (Nat.zero_le _) (by simp [cells]) (by simp) (by simp)
    refine hk _ _ _ ?_ (by simpa [newU] using hleft)
    have := rep_of_cells (G := (G.newImm w.heap.size []).newHist S.length 0 (.slice (some ⟨w.heap.size, 0, none⟩) 0 c'.toNat)) (t := .row S.length) (k := i.size) (b := w.heap.size) (c := c'.toNat) (zs := []) (vs := []) (by simp) (by simp) (by simp) (by simp) (by simp) (by simp) (by simp [TagOk, Gh.newHist])
    simpa using this
  · exact h.elim

theorem snd_call {c : Call} {f : Operand} (hop : o.op = .call c) (hcal : c.callee = .value f) (h : kCall P (ρ f) (c.args.toList.map ρ) S K) : SND P o ρ S K := by
  unfold kCall at h
  split at h
  · rename_i g first cap hf
    obtain ⟨v, rd, upd, new, he, hu, hrl, hK⟩ := h
    refine ⟨v, rd, upd, new, fun T hT hd G a w hw hr Kc Q hk => ?_, hu, hrl, hK⟩
    obtain ⟨⟨fn, hfn, hbody, hname⟩, hdoes⟩ := he T hT hu hd
    have rf := hr f (by simp [hop, Op.operands, Call.operands, hcal])
    rw [hf] at rf
    generalize ef : a.eval f = vf at rf
    cases rf with
    | @fn _ _ _ fv cv q1 q2 q3 q4 =>
      have hrn : (execOp a.eval o).run P w = .ok (.enter g (fv ++ c.args.map a.eval ++ cv)) w := by
        have hb' : ¬ fn.body.isNone = true := by simp [hbody]
        have hname' : ¬ fn.name = "runtime.NumGoroutine" := by simpa using hname
        simp [execOp, hop, resolve, hcal, ef, Deferred.ofValue, invoke, callFunc, hfn, hname']
        cases hbd : fn.body with
        | none => simp [hbd] at hbody
        | some _ => simp
      unfold Oper.wp
      rw [hrn]
      refine (hdoes G w _ hw ?_).mono ?_
      · simp only [Array.toList_append, Array.toList_map]
        refine RepL.append (RepL.append ⟨by simpa using q1, fun j x v hx hv => q3 j x v hx (by simpa using hv)⟩ ⟨by simp, fun j x v hx hv => ?_⟩) ⟨by simpa using q2, fun j x v hx hv => q4 j x v hx (by simpa using hv)⟩
        obtain ⟨y, hy, rfl⟩ := map_get hx
        obtain ⟨y', hy', rfl⟩ := map_get hv
        rw [hy] at hy'; injection hy' with e; subst e
        exact hr y (by simp [hop, Op.operands, Call.operands, hcal]; right; exact Array.mem_of_getElem? (by simpa using hy))
      · rintro e w' ⟨v', G', rfl, hv', hleft⟩
        exact hk v' w' G' hv' hleft
  · exact h.elim

end
end Go.Proofs.Ytgphhganepjaiaa
