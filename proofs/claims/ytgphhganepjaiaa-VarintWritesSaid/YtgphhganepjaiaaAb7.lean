/-
  The operations do what is told of them: parts of slices, of structs, of arrays, of strings; structs and slices that are built. Over any program.
-/
import Derived.Test.YtgphhganepjaiaaAb6
namespace Go.Proofs.Ytgphhganepjaiaa

section
variable {P : Program} {o : Oper} {ρ : Operand → AV} {S : List AObj} {K : KT}

theorem run_bounds (P : Program) (w : World) (isS : Bool) (len cap : Nat) (lo hi mx : Option Value) (l h m : Int) (hlo : lo = none ∧ l = 0 ∨ ∃ k, lo = some (.int k l)) (hhi : hi = none ∧ mx = none ∧ h = len ∨ ∃ k, hi = some (.int k h))
    (hmx : mx = none ∧ m = cap ∨ ∃ k, mx = some (.int k m)) (h0 : 0 ≤ l) (h1 : l ≤ h) (h2 : h ≤ m) (h3 : m ≤ cap) (h4 : mx = none → h ≤ cap) : (Instr.sliceBounds isS len cap lo hi mx).run P w = .ok (l.toNat, h.toNat, m.toNat) w := by
  have b : ∀ (k : IntKind) (i : Int) (y : Nat) (c : BoundsCode), 0 ≤ i → i ≤ y → (Instr.sliceBound (.int k i) y c).run P w = .ok i.toNat w := fun k i y c e1 e2 => run_sliceBound w k i y c e1 e2
  rcases hmx with ⟨rfl, rfl⟩ | ⟨km, rfl⟩
  · rcases hhi with ⟨rfl, _, rfl⟩ | ⟨kh, rfl⟩ <;> rcases hlo with ⟨rfl, rfl⟩ | ⟨kl, rfl⟩
    · simp [Instr.sliceBounds]
    · simp [Instr.sliceBounds, b kl l len _ h0 h1]
    · simp [Instr.sliceBounds, b kh h cap _ (by omega) h2]
    · simp [Instr.sliceBounds, b kh h cap _ (by omega) h2, b kl l h.toNat _ h0 (by omega)]
  · rcases hhi with ⟨_, e, _⟩ | ⟨kh, rfl⟩
    · cases e
    · rcases hlo with ⟨rfl, rfl⟩ | ⟨kl, rfl⟩
      · simp [Instr.sliceBounds, b km m cap _ (by omega) h3, b kh h m.toNat _ (by omega) (by omega)]
      · simp [Instr.sliceBounds, b km m cap _ (by omega) h3, b kh h m.toNat _ (by omega) (by omega), b kl l h.toNat _ h0 (by omega)]

theorem bnd_some {G : Gh} {a : Act} {x : Option Operand} {d l : Int} (h : bnd (x.map ρ) d = some l) (hr : ∀ y, x = some y → Rep G (ρ y) (a.eval y)) : x.map a.eval = none ∧ x = none ∧ l = d ∨ ∃ k, x.map a.eval = some (.int k l) ∧ x.isSome = true := by
  cases x with
  | none => left; simp [bnd] at h; exact ⟨rfl, rfl, h.symm⟩
  | some y =>
    right
    simp only [Option.map_some, bnd] at h
    have r := hr y rfl
    cases hy : ρ y with
    | lit v =>
      rw [hy] at h r
      cases v <;> simp [AV.i] at h
      subst h
      exact ⟨_, by rw [Option.map_some, rep_lit r], rfl⟩
    | _ => rw [hy] at h; simp [AV.i] at h

theorem rep_part {G : Gh} {t : Tag} {k : Nat} {xs : List AV} {A : Option Addr} {n c : Nat} (r : Rep G (.sl t k xs) (.slice A n c)) (l h m : Nat) (s : Nat) (hs : k = s ∨ xs = []) (h1 : l ≤ h) (h2 : h ≤ xs.length) (h3 : h ≤ m) :
    Rep G (.sl .none k ((xs.drop l).take (h - l))) (.slice (if m = l then A else A.map (·.add (l * s))) (h - l) (m - l)) ∧ n = xs.length := by
  cases r with
  | @sl _ _ _ _ _ b o vs hc hA hk g1 g2 g3 ht =>
    refine ⟨?_, rfl⟩
    have hlen : ((xs.drop l).take (h - l)).length = h - l := by simp; omega
    have hget : ∀ {i : Nat} {x : AV}, ((xs.drop l).take (h - l))[i]? = some x → xs[l + i]? = some x := fun {i x} e => by
      rw [List.getElem?_take] at e
      split at e
      · rwa [List.getElem?_drop] at e
      · cases e
    have := Rep.sl (G := G) (t := .none) (k := k) (xs := (xs.drop l).take (h - l)) (A := if m = l then A else A.map (·.add (l * s))) (c := m - l) (b := b) (o := o + l * k) (fun i j => vs (l + i) j) (by omega)
      (fun hp => by
        rw [hlen] at hp
        rw [if_neg (by omega), hA (by omega)]
        simp only [Option.map_some, Option.some.injEq]
        rcases hs with rfl | hs
        · exact add_none _ _ _
        · subst hs; simp at h2; omega)
      (fun i x hx => hk _ x (hget hx)) (fun i j hi hj => by rw [← g1 (l + i) j (by omega) hj, Nat.add_mul]; congr 1; omega) (fun i j hi hj => g2 _ j (by omega) hj) (fun i j x y hx hy => g3 _ j x y (hget hx) hy) trivial
    rwa [hlen] at this

theorem Rep.retag {G : Gh} {t t' : Tag} {k : Nat} {xs : List AV} {A : Option Addr} {n c : Nat} (r : Rep G (.sl t k xs) (.slice A n c)) (h : TagOk G t' A n c) : Rep G (.sl t' k xs) (.slice A n c) := by
  cases r with
  | sl vs hc hA hk g1 g2 g3 ht => exact .sl vs hc hA hk g1 g2 g3 h
theorem Rep.rek {G : Gh} {t : Tag} {k k' : Nat} {v : Value} (r : Rep G (.sl t k []) v) : Rep G (.sl t k' []) v := by
  cases r with
  | sl vs hc hA hk g1 g2 g3 ht => exact .sl (b := 0) (o := 0) vs hc (fun h => by simp at h) (fun i x h => by simp at h) (fun i j h => by simp at h) (fun i j h => by simp at h) (fun i j x y h => by simp at h) ht

theorem snd_slice {t e : TypeId} {x : Operand} {lo hi mx : Option Operand} (hop : o.op = .slice t x lo hi mx) (ht : P.underlying t = some (.slice e)) {s : Nat} (hs : szO P e = some s) (h : kSlice s (ρ x) (lo.map ρ) (hi.map ρ) (mx.map ρ) K) : SND P o ρ S K := by
  unfold kSlice at h
  split at h
  · rename_i tg ks xs hx
    split at h
    · rename_i l hh hl hhh
      obtain ⟨hk, h0, h1, h2, h⟩ := h
      have hrun : ∀ (a : Act) (w : World) (A : Option Addr) (n c : Nat) (m : Int), a.eval x = .slice A n c → (Instr.sliceBounds true n c (lo.map a.eval) (hi.map a.eval) (mx.map a.eval)).run P w = .ok (l.toNat, hh.toNat, m.toNat) w →
          (execOp a.eval o).run P w = .ok (.value (.slice (if m.toNat = l.toNat then A else A.map (·.add (l.toNat * s))) (hh.toNat - l.toNat) (m.toNat - l.toNat))) w := by
        intro a w A n c m hv hb
        simp [execOp, hop, Instr.sliceAt, Instr.slice, run_underlying ht, hv, hb, run_sizeO hs]
      have hd : (hh - l).toNat = hh.toNat - l.toNat := by omega
      split at h
      · rename_i hm
        have hmx : mx = none := by simpa using hm
        subst hmx
        refine snd_pure (fun G a w T _ hr => ?_) h
        have rx := hr x (by simp [hop, Op.operands])
        rw [hx] at rx
        have rlo : ∀ y, lo = some y → Rep G (ρ y) (a.eval y) := fun y hy => hr y (by simp [hop, Op.operands, hy])
        have rhi : ∀ y, hi = some y → Rep G (ρ y) (a.eval y) := fun y hy => hr y (by simp [hop, Op.operands, hy])
        have blo := bnd_some hl rlo
        have bhi := bnd_some hhh rhi
        generalize ev1 : a.eval x = vx at rx
        have rx0 := rx
        cases rx with
        | @sl _ _ _ A c b off vs hc hA hk' g1 g2 g3 ht' =>
          have hb := run_bounds P w true xs.length c (lo.map a.eval) (hi.map a.eval) none l hh c (by rcases blo with ⟨q1, _, q2⟩ | ⟨k, q, _⟩; exact .inl ⟨q1, q2⟩; exact .inr ⟨k, q⟩) (by rcases bhi with ⟨q1, _, q2⟩ | ⟨k, q, _⟩; exact .inl ⟨q1, rfl, q2⟩; exact .inr ⟨k, q⟩) (.inl ⟨rfl, rfl⟩) h0 h1 (by omega) (by omega) (fun _ => by omega)
          refine ⟨_, hrun a w A _ c c ev1 (by simpa using hb), ?_⟩
          have hp := (rep_part rx0 l.toNat hh.toNat c s hk (by omega) (by omega) (by omega)).1
          rw [hd]
          simp only [Int.toNat_natCast]
          refine hp.retag ?_
          unfold sTag
          split
          · rename_i e1 e2 _
            have q1 : lo = none := by simpa using e1
            have q2 : hi = none := by simpa using e2
            subst q1 q2
            simp [bnd] at hl hhh
            subst hl hhh
            have e4 : (if c = (0 : Int).toNat then A else A.map (·.add ((0 : Int).toNat * s))) = A := by
              split
              · rfl
              · cases A <;> simp [Addr.add]
            rw [e4]
            simpa using ht'
          · rename_i y e1 e2 _
            have q2 : hi = none := by simpa using e2
            subst q2
            simp [bnd] at hhh
            subst hhh
            cases tg with
            | full =>
              have hcn : c = xs.length := ht'
              show c - l.toNat = (xs.length : Int).toNat - l.toNat
              omega
            | _ => trivial
          · trivial
      · rename_i m hm
        obtain ⟨⟨hhi, hmi⟩, hK⟩ := h
        obtain ⟨mo, rfl⟩ : ∃ mo, mx = some mo := by cases mx with | none => simp at hm | some mo => exact ⟨mo, rfl⟩
        have hme : ρ mo = m := by simpa using hm
        refine snd_pure (fun G a w T _ hr => ?_) hK
        have rx := hr x (by simp [hop, Op.operands])
        rw [hx] at rx
        have rlo : ∀ y, lo = some y → Rep G (ρ y) (a.eval y) := fun y hy => hr y (by simp [hop, Op.operands, hy])
        have rhi : ∀ y, hi = some y → Rep G (ρ y) (a.eval y) := fun y hy => hr y (by simp [hop, Op.operands, hy])
        have rm := hr mo (by simp [hop, Op.operands])
        have blo := bnd_some hl rlo
        have bhi := bnd_some hhh rhi
        have bm : ∃ k, a.eval mo = .int k hh := by
          rw [hme] at rm
          cases m with
          | lit v => cases v <;> simp [AV.i] at hmi; subst hmi; exact ⟨_, rep_lit rm⟩
          | _ => simp [AV.i] at hmi
        obtain ⟨km, bm⟩ := bm
        generalize ev1 : a.eval x = vx at rx
        have rx0 := rx
        cases rx with
        | @sl _ _ _ A c b off vs hc hA hk' g1 g2 g3 ht' =>
          have hb := run_bounds P w true xs.length c (lo.map a.eval) (hi.map a.eval) (some (.int km hh)) l hh hh (by rcases blo with ⟨q1, _, q2⟩ | ⟨k, q, _⟩; exact .inl ⟨q1, q2⟩; exact .inr ⟨k, q⟩)
            (by rcases bhi with ⟨_, q1, _⟩ | ⟨k, q, _⟩; (rw [q1] at hhi; simp at hhi); exact .inr ⟨k, q⟩) (.inr ⟨km, rfl⟩) h0 h1 (Int.le_refl _) (by omega) (fun e => by cases e)
          refine ⟨_, hrun a w A _ c hh ev1 (by simpa [bm] using hb), ?_⟩
          have hp := (rep_part rx0 l.toNat hh.toNat hh.toNat s hk (by omega) (by omega) (by omega)).1
          rw [hd]
          exact hp.retag rfl
    · exact h.elim
  · exact h.elim

theorem snd_sstr {t : TypeId} {x : Operand} {lo hi : Option Operand} (hop : o.op = .slice t x lo hi none) (ht : P.underlying t = some .string) (h : kSstr (ρ x) (lo.map ρ) (hi.map ρ) K) : SND P o ρ S K := by
  unfold kSstr at h
  split at h
  · rename_i s hx
    split at h
    · rename_i l hh hl hhh
      obtain ⟨h0, h1, h2, h⟩ := h
      refine snd_pure (fun G a w T _ hr => ⟨_, ?_, .lit _⟩) h
      have rx := hr x (by simp [hop, Op.operands])
      rw [hx] at rx
      have rlo : ∀ y, lo = some y → Rep G (ρ y) (a.eval y) := fun y hy => hr y (by simp [hop, Op.operands, hy])
      have rhi : ∀ y, hi = some y → Rep G (ρ y) (a.eval y) := fun y hy => hr y (by simp [hop, Op.operands, hy])
      have blo := bnd_some hl rlo
      have bhi := bnd_some hhh rhi
      have hb := run_bounds P w false s.size s.size (lo.map a.eval) (hi.map a.eval) none l hh s.size (by rcases blo with ⟨q1, _, q2⟩ | ⟨k, q, _⟩; exact .inl ⟨q1, q2⟩; exact .inr ⟨k, q⟩) (by rcases bhi with ⟨q1, _, q2⟩ | ⟨k, q, _⟩; exact .inl ⟨q1, rfl, q2⟩; exact .inr ⟨k, q⟩) (.inl ⟨rfl, rfl⟩) h0 h1 (by omega) (by omega) (fun _ => by omega)
      simp [execOp, hop, Instr.sliceAt, Instr.slice, run_underlying ht, rep_lit rx, hb]
    · exact h.elim
  · exact h.elim

theorem snd_fadr {t : TypeId} {x : Operand} {f : Nat} {fs : Array Field} {fd : Field} {s : Nat} (hop : o.op = .fieldAddr t x f) (ht : P.underlying t = some (.struct fs)) (hf : fs[f]? = some fd) (hs : szO P fd.type = some s) (h1 : 1 ≤ s) (h : kFadr fd.offset (ρ x) K) : SND P o ρ S K := by
  have hrun : ∀ (a : Act) (w : World) (ad : Addr), a.eval x = .pointer (some ad) → (execOp a.eval o).run P w = .ok (.value (.pointer (some (ad.add fd.offset)))) w := by
    intro a w ad ha
    simp [execOp, hop, Instr.fieldAt, run_underlying ht, hf, ha, Instr.sureAddr, fieldPlace, run_sizeO hs, show s ≠ 0 by omega]
  unfold kFadr at h
  split at h
  · rename_i i off hx
    refine snd_pure (fun G a w T _ hr => ?_) h
    have r := hr x (by simp [hop, Op.operands])
    rw [hx] at r
    generalize ha : a.eval x = va at r
    cases r with
    | ref hb => exact ⟨_, hrun a w _ ha, by rw [add_none]; exact .ref hb⟩
  · rename_i cs hx
    refine snd_pure (fun G a w T _ hr => ?_) h
    have r := hr x (by simp [hop, Op.operands])
    rw [hx] at r
    generalize ha : a.eval x = va at r
    cases r with
    | @iptr _ b off vs g1 g2 g3 =>
      refine ⟨_, hrun a w _ ha, ?_⟩
      rw [add_none]
      exact .iptr (fun j => vs (fd.offset + j)) (fun j hj => by simp at hj; rw [← g1 (fd.offset + j) (by omega), Nat.add_assoc]) (fun j hj => by simp at hj; exact g2 _ (by omega)) (fun j y hy => by rw [List.getElem?_drop] at hy; exact g3 _ y hy)
  · exact h.elim

/-- v is a part of an aggregate. -/
def partOk (n : Option Nat) (xs : List AV) (off : Nat) (v : AV) : Prop :=
  match n with
  | none => xs[off]? = some v
  | some n => off + n ≤ xs.length ∧ v = .agg ((xs.drop off).take n)
/-- A part of an aggregate. -/
theorem run_part {t : TypeId} {n : Option Nat} (hn : aggO P t = some n) {G : Gh} {xs : List AV} {vs : Array Value} (r : Rep G (.agg xs) (.agg vs)) (off : Nat) {v : AV}
    (h : partOk n xs off v) (w : World) : ∃ u, (part t vs off).run P w = .ok u w ∧ Rep G v u := by
  cases r with
  | agg h0 h2 h3 =>
    cases n with
    | none =>
      have hlt : off < vs.size := by rw [← h0]; exact (List.getElem?_eq_some_iff.1 h).1
      have hv : vs[off]? = some vs[off] := Array.getElem?_eq_getElem hlt
      exact ⟨vs[off], by simp [part, run_isAgg_no hn, hv], h3 off v _ h hv⟩
    | some n =>
      obtain ⟨hle, rfl⟩ := h
      obtain ⟨_, hs⟩ := aggO_agg hn
      refine ⟨_, by simp [part, run_isAgg_yes hn, run_sizeO hs]; rfl, ?_⟩
      have hget : ∀ {j : Nat} {u : Value}, (vs.extract off (off + n))[j]? = some u → vs[off + j]? = some u ∧ j < n := fun {j u} e => by
        rw [Array.getElem?_extract] at e
        split at e
        · exact ⟨e, by omega⟩
        · cases e
      refine .agg (by simp; omega) (fun j u hu => h2 _ u (hget hu).1) (fun j y u hy hu => h3 (off + j) y u ?_ (hget hu).1)
      rw [List.getElem?_take, if_pos (hget hu).2, List.getElem?_drop] at hy; exact hy

theorem kFld_sound {off : Nat} {n : Option Nat} {xs : List AV} (h : kFld off n (.agg xs) K) : ∃ v, partOk n xs off v ∧ K v [] [] [] := by
  unfold kFld at h
  cases n with
  | none =>
    simp only at h
    split at h
    · rename_i v hv; exact ⟨v, hv, h⟩
    · exact h.elim
  | some n => exact ⟨_, ⟨h.1, rfl⟩, h.2⟩

theorem snd_fld {t : TypeId} {x : Operand} {f : Nat} {fs : Array Field} {fd : Field} {n : Option Nat} (hop : o.op = .field t x f) (ht : P.underlying t = some (.struct fs)) (hf : fs[f]? = some fd) (hn : aggO P fd.type = some n) (h : kFld fd.offset n (ρ x) K) : SND P o ρ S K := by
  cases hx : ρ x with
  | agg xs =>
    rw [hx] at h
    obtain ⟨v, hv, hK⟩ := kFld_sound h
    refine snd_pure (fun G a w T _ hr => ?_) hK
    have r := hr x (by simp [hop, Op.operands])
    rw [hx] at r
    generalize ha : a.eval x = va at r
    cases r with
    | @agg _ vs h0 h2 h3 =>
      obtain ⟨u, hu, hru⟩ := run_part (P := P) hn (Rep.agg h0 h2 h3) fd.offset hv w
      exact ⟨u, by simp [execOp, hop, Instr.field, run_underlying ht, hf, ha, asAgg, hu], hru⟩
  | _ => rw [hx] at h; exact h.elim

theorem snd_idx {t e : TypeId} {x ix : Operand} {len s : Nat} {n : Option Nat} (hop : o.op = .index t x ix) (ht : P.underlying t = some (.array len e)) (hs : szO P e = some s) (hn : aggO P e = some n) (h : kIdx len s n (ρ x) (ρ ix) K) : SND P o ρ S K := by
  unfold kIdx at h
  split at h
  · rename_i xs k i hx hix
    obtain ⟨h0, h1, h⟩ := h
    obtain ⟨v, hv, hK⟩ := kFld_sound h
    refine snd_pure (fun G a w T _ hr => ?_) hK
    have r := hr x (by simp [hop, Op.operands])
    have ri := hr ix (by simp [hop, Op.operands])
    rw [hx] at r
    rw [hix] at ri
    have ei := rep_lit ri
    generalize ha : a.eval x = va at r
    cases r with
    | @agg _ vs g0 g2 g3 =>
      obtain ⟨u, hu, hru⟩ := run_part (P := P) hn (Rep.agg g0 g2 g3) (i.toNat * s) hv w
      exact ⟨u, by simp [execOp, hop, Instr.index, run_underlying ht, ha, ei, asIntOf, h0, h1, run_sizeO hs, hu], hru⟩
  · exact h.elim

theorem snd_iadr {t e : TypeId} {x ix : Operand} {s : Nat} (hop : o.op = .indexAddr t x ix) (ht : P.underlying t = some (.slice e)) (hs : szO P e = some s) (h : kIadr s (ρ x) (ρ ix) K) : SND P o ρ S K := by
  unfold kIadr at h
  split at h
  · rename_i tg ks xs k i hx hix
    obtain ⟨rfl, h0, h1, hK⟩ := h
    refine snd_pure (fun G a w T _ hr => ?_) hK
    have r := hr x (by simp [hop, Op.operands])
    have ri := hr ix (by simp [hop, Op.operands])
    rw [hx] at r
    rw [hix] at ri
    have ei := rep_lit ri
    generalize ha : a.eval x = va at r
    cases r with
    | @sl _ _ _ A c b off vs hc hA hk g1 g2 g3 htg =>
      have hlt : i.toNat < xs.length := by omega
      have hxi : xs[i.toNat]? = some (xs.getD i.toNat .any) := by rw [List.getElem?_eq_getElem hlt]; simp [hlt]
      have hA' := hA (by omega)
      subst hA'
      refine ⟨.pointer (some ⟨b, off + i.toNat * ks, none⟩), ?_, ?_⟩
      · simp [execOp, hop, Instr.indexAt, run_underlying ht, ha, ei, asIntOf, h0, h1, run_sizeO hs, add_none]
      · have hcl := hk _ _ hxi
        exact .iptr (vs i.toNat) (fun j hj => g1 _ j hlt (by omega)) (fun j hj => g2 _ j hlt (by omega)) (fun j y hy => g3 _ j _ y hxi hy)
  · exact h.elim

theorem snd_aadr {t e : TypeId} {x ix : Operand} {len s : Nat} (hop : o.op = .indexAddr t x ix) (ht : P.underlying t = some (.array len e)) (hs : szO P e = some s) (h : kAadr len s (ρ x) (ρ ix) K) : SND P o ρ S K := by
  unfold kAadr at h
  split at h
  · rename_i i off k n hx hix
    obtain ⟨h0, h1, hK⟩ := h
    refine snd_pure (fun G a w T _ hr => ?_) hK
    have r := hr x (by simp [hop, Op.operands])
    have ri := hr ix (by simp [hop, Op.operands])
    rw [hx] at r
    rw [hix] at ri
    have ei := rep_lit ri
    generalize ha : a.eval x = va at r
    cases r with
    | @ref _ _ b hb =>
      refine ⟨.pointer (some ⟨b, off + n.toNat * s, none⟩), ?_, .ref hb⟩
      simp [execOp, hop, Instr.indexAt, run_underlying ht, ha, ei, asIntOf, Instr.sureAddr, h0, h1, run_sizeO hs, add_none]
  · exact h.elim

theorem snd_sidx {t : TypeId} {x ix : Operand} (hop : o.op = .index t x ix) (ht : P.underlying t = some .string) (h : kSidx (ρ x) (ρ ix) K) : SND P o ρ S K := by
  unfold kSidx at h
  split at h
  · rename_i s k i hx hix
    obtain ⟨h0, h1, hK⟩ := h
    refine snd_pure (fun G a w T _ hr => ⟨_, ?_, .lit _⟩) hK
    have r := hr x (by simp [hop, Op.operands])
    have ri := hr ix (by simp [hop, Op.operands])
    rw [hx] at r
    rw [hix] at ri
    have ex := rep_lit r
    have ei := rep_lit ri
    have hlt : i.toNat < s.size := by omega
    have hlt' : i.toNat < s.data.toList.length := by simpa using hlt
    have hg : s[i.toNat]? = some (s.data.toList.getD i.toNat 0) := by
      rw [ByteArray.getElem?_lt' s _ hlt]
      congr 1
      simp only [List.getD_eq_getElem?_getD, List.getElem?_eq_getElem hlt', Option.getD_some]
      rfl
    simp [execOp, hop, Instr.index, run_underlying ht, ex, ei, asIntOf, h0, hg]
  · exact h.elim

theorem snd_b2s {src dst e : TypeId} {x : Operand} (hop : o.op = .convert src dst x) (hs : P.underlying src = some (.slice e)) (he : P.underlying e = some (.int .u8)) (hd : P.underlying dst = some .string) (h : kB2s (ρ x) K) : SND P o ρ S K := by
  unfold kB2s at h
  split at h
  · rename_i tg k xs hx
    obtain ⟨hk, hu, hK⟩ := h
    refine snd_pure (fun G a w T hw hr => ⟨_, ?_, .lit _⟩) hK
    have r := hr x (by simp [hop, Op.operands])
    rw [hx] at r
    generalize ha : a.eval x = va at r
    cases r with
    | @sl _ _ _ A c b off vs hc hA hk' g1 g2 g3 htg =>
      have hbytes : ∀ (ns : List Int) (s : ByteArray), ns.foldl (fun r n => r.push (UInt8.ofNat n.toNat)) s = ⟨s.data ++ (ns.map fun n => UInt8.ofNat n.toNat).toArray⟩ := by
        intro ns
        induction ns with
        | nil => intro s; simp
        | cons n ns ih => intro s; rw [List.foldl_cons, ih]; simp [ByteArray.push]
      simp only [execOp, hop, ha]
      by_cases h0 : 0 < xs.length
      · have hA' := hA h0
        subst hA'
        have hk1 : k = 1 := by rcases hk with h | h; exact h; (subst h; simp at h0)
        subst hk1
        let ns : List Int := xs.map fun x => match x with | .lit (.int _ n) => n | _ => 0
        have hload : (loadCells ⟨b, off, none⟩ xs.length).run P w = .ok (ns.map (Value.int .u8)).toArray w := by
          rw [run_loadCells w ⟨b, off, none⟩ xs.length (fun j => vs j 0) (fun j hj => by rw [add_none]; have := hw.imm _ _ _ (g1 j 0 hj (by omega)); simpa using this)]
          congr 2
          apply List.ext_getElem?
          intro j
          by_cases hj : j < xs.length
          · have hxj := List.getElem?_eq_getElem hj
            have hone := List.all_eq_true.1 hu _ (List.getElem_mem hj)
            have hcell := hk' j _ hxj
            simp only [ns, List.getElem?_map, List.getElem?_range hj, Option.map_some, hxj]
            generalize hy : xs[j] = y at *
            cases y <;> simp [AV.isU8] at hone
            rename_i v
            cases v <;> try (simp at hone; done)
            rename_i kk n
            cases kk <;> try (simp at hone; done)
            have := g3 j 0 _ (.lit (.int .u8 n)) hxj (by simp [AV.cells])
            exact congrArg some (rep_lit this)
          · simp [ns, hj]
        have hb := run_bytesToString (P := P) w ⟨b, off, none⟩ xs.length c ns hload
        have hc2 := run_convert_bytes_string (P := P) w src dst e (some ⟨b, off, none⟩) xs.length c hs he hd
        simp only [Sem.run_bind, hc2, hb, Result.andThen_ok, Sem.run_pure]
        rw [hbytes]
        have : (ns.map fun n => UInt8.ofNat n.toNat) = xs.map AV.byte := by
          simp only [ns, List.map_map]
          apply List.map_congr_left
          intro y hy
          have hone := List.all_eq_true.1 hu _ hy
          cases y <;> simp [AV.isU8] at hone
          rename_i v
          cases v <;> try (simp at hone; done)
          rfl
        rw [this]
        simp [bytesOf]
      · have hx0 : xs = [] := List.eq_nil_of_length_eq_zero (by omega)
        subst hx0
        have hc2 := run_convert_bytes_string (P := P) w src dst e A ([] : List AV).length c hs he hd
        cases A with
        | none =>
          simp only [List.length_nil] at hc2 ⊢
          simp only [Sem.run_bind, hc2, Conv.bytesToString, Result.andThen_ok, Sem.run_pure]
          rfl
        | some ad =>
          have hb := run_bytesToString (P := P) w ad 0 c [] (by simp [loadCells, loadCellsFrom])
          simp only [List.length_nil] at hc2 ⊢
          simp only [Sem.run_bind, hc2, hb, Result.andThen_ok, Sem.run_pure]
          rfl
  · exact h.elim

end
end Go.Proofs.Ytgphhganepjaiaa
