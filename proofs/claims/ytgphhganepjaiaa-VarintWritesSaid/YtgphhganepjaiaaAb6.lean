/-
  The operations do what is told of them: stores, new objects, numbers, choices. Over any program.
-/
import Derived.Test.YtgphhganepjaiaaAb5
namespace Go.Proofs.Ytgphhganepjaiaa

section
variable {P : Program} {o : Oper} {ρ : Operand → AV} {S : List AObj} {K : KT}

theorem snd_mov {x : Operand} (hop : o.op = .move x ∨ o.op = .assign x) (h : K (ρ x) [] [] []) : SND P o ρ S K :=
  snd_pure (fun G a w T _ hr => by
    rcases hop with hop | hop
    · exact ⟨_, by simp [execOp, hop], hr x (by simp [hop, Op.operands])⟩
    · exact ⟨_, by simp [execOp, hop], hr x (by simp [hop, Op.operands])⟩) h

theorem rep_bool {G : Gh} {b : Bool} {v : Value} (h : Rep G (.lit (.bool b)) v) : v = .bool b := by cases h; rfl
theorem rep_lit {G : Gh} {u v : Value} (h : Rep G (.lit u) v) : v = u := by cases h; rfl

theorem snd_pick {c x y : Operand} (hop : o.op = .pick c x y) (h : kPick (ρ c) (ρ x) (ρ y) K) : SND P o ρ S K := by
  unfold kPick at h
  split at h
  · rename_i t hc
    refine snd_pure (fun G a w T _ hr => ?_) h
    have rc := hr c (by simp [hop, Op.operands])
    have rx := hr x (by simp [hop, Op.operands])
    have ry := hr y (by simp [hop, Op.operands])
    rw [hc] at rc
    refine ⟨if t then a.eval x else a.eval y, by simp [execOp, hop, rep_bool rc, asBool], ?_⟩
    cases t <;> simpa
  · exact h.elim

theorem snd_new {e : TypeId} (hop : o.op = .alloc e) {zs : List Value} (hz : zeroO P e = some zs) (h : K (.ref S.length 0) [] [] [.cells (zs.map AV.ofC1)]) : SND P o ρ S K := by
  obtain ⟨i, z, hi, hz0, rfl, ho⟩ := zeroO_some hz
  refine snd_newobj (fun G a w T _ hr => ⟨z.cells.toList, e, w.alloc (.cells z.cells.toList.toArray e), ?_, More.alloc _ _, ⟨by simp, fun j x v hx hv => ?_⟩, ho⟩) h
  · simp [execOp, hop, Instr.alloc, zeroValue, typeInfo, hi, hz0, newVar, newRow]
  · obtain ⟨y, hy, rfl⟩ := map_get hx
    rw [hv] at hy; injection hy with hy; subst hy
    exact rep_ofC1 G v

theorem snd_box {e : TypeId} {x : Operand} (hop : o.op = .box e x) (h : kBox (ρ x) S.length K) : SND P o ρ S K := by
  unfold kBox at h
  split at h
  · rename_i cs hc
    refine snd_newobj (fun G a w T _ hr => ?_) h
    obtain ⟨_, h2, h3⟩ := (hr x (by simp [hop, Op.operands])).parts hc
    refine ⟨_, e, w.alloc (.cells (a.eval x).cells.toList.toArray e), ?_, More.alloc _ _, h2, h3⟩
    simp [execOp, hop, Instr.box, newVar, newRow]
  · exact h.elim

theorem splice_length (xs : List AV) (o : Nat) (cs : List AV) : (splice xs o cs).length = xs.length := by
  induction cs generalizing xs o with
  | nil => rfl
  | cons c cs ih => rw [splice, ih]; simp
theorem splice_get (xs : List AV) (o : Nat) (cs : List AV) (h : o + cs.length ≤ xs.length) (j : Nat) : (splice xs o cs)[j]? = if o ≤ j ∧ j < o + cs.length then cs[j - o]? else xs[j]? := by
  induction cs generalizing xs o with
  | nil => rw [splice, if_neg (by simp)]
  | cons c cs ih =>
    simp only [List.length_cons] at h ⊢
    rw [splice, ih _ _ (by simp; omega)]
    by_cases h1 : o + 1 ≤ j ∧ j < o + 1 + cs.length
    · rw [if_pos h1, if_pos (by omega), show j - o = (j - (o + 1)) + 1 by omega]; simp
    · rw [if_neg h1]
      by_cases h2 : j = o
      · subst h2; rw [if_pos (by omega)]; simp [show j < xs.length by omega]
      · rw [if_neg (by omega), List.getElem?_set_ne (Ne.symm h2)]

theorem turn_setRow {w : World} {b : Nat} {cs cs' : Array Value} {t : TypeId} (h : w.heap[b]? = some (.cells cs t (0, 0))) : Turn w (w.setRow b cs') b (.cells cs' t (0, 0)) :=
  ⟨rfl, rfl, rfl, by simp, fun i hi => setRow_other w b i cs' hi, setRow_heap w b cs cs' t _ h⟩

theorem snd_store {t : TypeId} {x y : Operand} (hop : o.op = .store t x y) {n : Nat} (hn : szO P t = some n) (h : kStore n (ρ x) (ρ y) S K) : SND P o ρ S K := by
  unfold kStore at h
  split at h
  · rename_i i off hx
    split at h
    · rename_i xs hS
      split at h
      · rename_i cs hcs
        obtain ⟨hl, hle, hK⟩ := h
        refine ⟨_, [i], [(i, _)], [], fun T hT _ G a w hw hr Kc Q hk => ?_, by simp, (fun j hj => by simp at hj; subst hj; exact (List.getElem?_eq_some_iff.1 hS).1), hK⟩
        have hTi : T[i]? = some (.cells xs) := (hT i (by simp)).trans hS
        have rx := hr x (by simp [hop, Op.operands])
        have ry := hr y (by simp [hop, Op.operands])
        rw [hx] at rx
        obtain ⟨_, h2, h3⟩ := ry.parts hcs
        generalize ha : a.eval x = va at rx
        generalize hb : a.eval y = vb at h2 h3
        cases rx with
        | @ref _ _ b hloc =>
          obtain ⟨b', cur, t', g1, g2, g3, g4, _⟩ := hw.obj i xs hTi
          rw [hloc] at g1; injection g1 with g1; subst g1
          have hlen : vb.cells.toList.length = n := by rw [← h2.1, hl]
          have hst := run_storeCells_at P b off t' vb.cells.toList 0 cur w g2 (by rw [hlen]; omega) h3
          simp only [Nat.add_zero] at hst
          have hsz : vb.cells.size = n := by simpa using hlen
          have hrun : (execOp a.eval o).run P w = .ok .skip (w.setRow b (cur.toList.take off ++ vb.cells.toList ++ cur.toList.drop (off + vb.cells.toList.length)).toArray) := by
            simp only [execOp, hop, Instr.storeAt, ha, hb, Instr.sureAddr, storeVar, Sem.run_bind, Sem.run_pure, Result.andThen_ok, run_sizeO hn, hsz, ne_eq, not_true, if_false, hst]
          unfold Oper.wp
          rw [hrun]
          refine hk undef _ G (.any _) ?_
          have hcl : cur.size = xs.length := g3
          have := Left.turn (xs' := splice xs off cs) hw hTi hloc (turn_setRow g2) (by simp [splice_length]; omega) (w' := w.setRow b (cur.toList.take off ++ vb.cells.toList ++ cur.toList.drop (off + vb.cells.toList.length)).toArray) (fun k u v hu hv => by
            rw [splice_get xs off cs (by omega)] at hu
            simp only [List.getElem?_toArray] at hv
            by_cases hk1 : off ≤ k ∧ k < off + cs.length
            · rw [if_pos hk1] at hu
              rw [List.append_assoc, List.getElem?_append_right (by simp; omega), List.getElem?_append_left (by simp; omega)] at hv
              have hq : (List.take off cur.toList).length = off := by simp; omega
              rw [hq] at hv
              exact ⟨h3 v (List.mem_of_getElem? hv), h2.2 _ u v hu hv⟩
            · rw [if_neg hk1] at hu
              refine g4 k u v hu ?_
              by_cases hk2 : k < off
              · rw [List.append_assoc, List.getElem?_append_left (by simp; omega), List.getElem?_take, if_pos hk2] at hv
                simpa using hv
              · rw [List.getElem?_append_right (by simp; omega), List.getElem?_drop] at hv
                rw [← hv]
                simp only [List.length_append, List.length_take, Array.length_toList]
                rw [Array.getElem?_toList]
                congr 1
                omega)
          simpa [newU] using this
      · exact h.elim
    · exact h.elim
  · exact h.elim

theorem snd_nil {x : Operand} (hop : o.op = .nilCheck x) (h : kNil (ρ x) K) : SND P o ρ S K := by
  unfold kNil at h
  split at h
  · rename_i i off hx
    refine snd_pure (fun G a w T _ hr => ?_) h
    have r := hr x (by simp [hop, Op.operands])
    rw [hx] at r
    refine ⟨a.eval x, ?_, r⟩
    generalize ha : a.eval x = va at r
    cases r
    simp [execOp, hop, ha]
  · rename_i cs hx
    refine snd_pure (fun G a w T _ hr => ?_) h
    have r := hr x (by simp [hop, Op.operands])
    rw [hx] at r
    refine ⟨a.eval x, ?_, r⟩
    generalize ha : a.eval x = va at r
    cases r
    simp [execOp, hop, ha]
  · exact h.elim

theorem snd_bin {op : BinOp} {t t' : TypeId} {x y : Operand} (hop : o.op = .binOp op t x y t') (h : kBin op (ρ x) (ρ y) K) : SND P o ρ S K := by
  unfold kBin at h
  split at h
  · rename_i k n k' m hx hy
    have key : ∀ {v : Value}, (∀ (a : Act) (w : World), a.eval x = .int k n → a.eval y = .int k' m → (execOp a.eval o).run P w = .ok (.value v) w) → K (.lit v) [] [] [] → SND P o ρ S K := by
      intro v hv hK
      refine snd_pure (fun G a w T _ hr => ⟨v, ?_, .lit v⟩) hK
      have rx := hr x (by simp [hop, Op.operands])
      have ry := hr y (by simp [hop, Op.operands])
      rw [hx] at rx; rw [hy] at ry
      exact hv a w (rep_lit rx) (rep_lit ry)
    cases op <;> simp only [kInt] at h
    case quo => obtain ⟨rfl, h0, h⟩ := h; exact key (fun a w e1 e2 => by simp [execOp, hop, e1, e2, eqGuard, binOp, Op.intDiv, h0]) h
    case rem => obtain ⟨rfl, h0, h⟩ := h; exact key (fun a w e1 e2 => by simp [execOp, hop, e1, e2, eqGuard, binOp, Op.intDiv, h0]) h
    case shl => obtain ⟨h0, h⟩ := h; exact key (fun a w e1 e2 => by simp [execOp, hop, e1, e2, eqGuard, binOp, Op.shift, show ¬ m < 0 by omega]) h
    case shr => obtain ⟨h0, h⟩ := h; exact key (fun a w e1 e2 => by simp [execOp, hop, e1, e2, eqGuard, binOp, Op.shift, show ¬ m < 0 by omega]) h
    all_goals
      obtain ⟨rfl, h⟩ := h
      exact key (fun a w e1 e2 => by simp [execOp, hop, e1, e2, eqGuard, binOp, Op.intArith, Op.intBits, Op.intCmp, bitsI]) h
  · rename_i s u hx hy
    have key : ∀ {v : Value}, (∀ (a : Act) (w : World), a.eval x = .string s → a.eval y = .string u → (execOp a.eval o).run P w = .ok (.value v) w) → K (.lit v) [] [] [] → SND P o ρ S K := by
      intro v hv hK
      refine snd_pure (fun G a w T _ hr => ⟨v, ?_, .lit v⟩) hK
      have rx := hr x (by simp [hop, Op.operands])
      have ry := hr y (by simp [hop, Op.operands])
      rw [hx] at rx; rw [hy] at ry
      exact hv a w (rep_lit rx) (rep_lit ry)
    cases op <;> simp only [kStr] at h
    case eql => exact key (fun a w e1 e2 => by simp [execOp, hop, e1, e2, eqGuard, binOp, Op.stringOp]) h
    case neq => exact key (fun a w e1 e2 => by simp [execOp, hop, e1, e2, eqGuard, binOp, Op.stringOp]) h
  · exact h.elim

theorem run_equal_bool {t : TypeId} (ht : P.underlying t = some .bool) (a b : Bool) (w : World) : (Op.equal t (.bool a) (.bool b)).run P w = .ok (a == b) w := by
  have : ∀ d, (Op.equalIn (d + 1) t (.bool a) (.bool b)).run P w = .ok (a == b) w := fun d => by simp [Op.equalIn, run_underlying ht]
  exact this 9999
theorem snd_eqb {op : BinOp} {t t' : TypeId} {x y : Operand} {neg : Bool} (hop : o.op = .binOp op t x y t') (ht : P.underlying t = some .bool) (hn : op = if neg then .neq else .eql) (h : kEqb neg (ρ x) (ρ y) K) : SND P o ρ S K := by
  unfold kEqb at h
  split at h
  · rename_i p q hx hy
    refine snd_pure (fun G a w T _ hr => ⟨_, ?_, .lit _⟩) h
    have rx := hr x (by simp [hop, Op.operands])
    have ry := hr y (by simp [hop, Op.operands])
    rw [hx] at rx; rw [hy] at ry
    have e1 := rep_lit rx
    have e2 := rep_lit ry
    cases neg <;> simp at hn <;> subst hn <;> simp [execOp, hop, e1, e2, eqGuard, binOp, run_equal_bool ht]
  · exact h.elim

theorem snd_eqp {op : BinOp} {t t' e : TypeId} {x y : Operand} {neg : Bool} (hop : o.op = .binOp op t x y t') (ht : P.underlying t = some (.pointer e)) (hn : op = if neg then .neq else .eql) (h : kEqp neg (ρ x) (ρ y) K) : SND P o ρ S K := by
  have heq : ∀ (p : Option Addr) (w : World), (Op.equal t (.pointer p) (.pointer none)).run P w = .ok p.isNone w := by
    intro p w
    have : ∀ d, (Op.equalIn (d + 1) t (.pointer p) (.pointer none)).run P w = .ok p.isNone w := fun d => by cases p <;> simp [Op.equalIn, run_underlying ht]
    exact this 9999
  unfold kEqp at h
  split at h
  · rename_i i off hx hy
    refine snd_pure (fun G a w T _ hr => ⟨_, ?_, .lit _⟩) h
    have rx := hr x (by simp [hop, Op.operands])
    have ry := hr y (by simp [hop, Op.operands])
    rw [hx] at rx; rw [hy] at ry
    have e2 := rep_lit ry
    generalize e1 : a.eval x = vx at rx
    cases rx
    cases neg <;> simp at hn <;> subst hn <;> simp [execOp, hop, e1, e2, eqGuard, binOp, heq]
  · rename_i hx hy
    refine snd_pure (fun G a w T _ hr => ⟨_, ?_, .lit _⟩) h
    have rx := hr x (by simp [hop, Op.operands])
    have ry := hr y (by simp [hop, Op.operands])
    rw [hx] at rx; rw [hy] at ry
    have e1 := rep_lit rx
    have e2 := rep_lit ry
    cases neg <;> simp at hn <;> subst hn <;> simp [execOp, hop, e1, e2, eqGuard, binOp, heq]
  · exact h.elim

theorem snd_un {op : UnOp} {t : TypeId} {x : Operand} (hop : o.op = .unOp op t x) (h : kUn op (ρ x) K) : SND P o ρ S K := by
  unfold kUn at h
  split at h
  · rename_i k n hx
    refine snd_pure (fun G a w T _ hr => ⟨_, ?_, .lit _⟩) h
    have rx := hr x (by simp [hop, Op.operands])
    rw [hx] at rx
    simp [execOp, hop, rep_lit rx, Op.unary, Op.intArith]
  · rename_i k n hx
    refine snd_pure (fun G a w T _ hr => ⟨_, ?_, .lit _⟩) h
    have rx := hr x (by simp [hop, Op.operands])
    rw [hx] at rx
    simp [execOp, hop, rep_lit rx, Op.unary, Op.intBits, bitsI]
  · rename_i b hx
    refine snd_pure (fun G a w T _ hr => ⟨_, ?_, .lit _⟩) h
    have rx := hr x (by simp [hop, Op.operands])
    rw [hx] at rx
    simp [execOp, hop, rep_lit rx, Op.unary]
  · exact h.elim

theorem snd_cvt {src dst : TypeId} {x : Operand} {k k0 : IntKind} (hop : o.op = .convert src dst x) (hs : P.underlying src = some (.int k0)) (hd : P.underlying dst = some (.int k)) (h : kCvt k (ρ x) K) : SND P o ρ S K := by
  unfold kCvt at h
  split at h
  · rename_i k' n hx
    refine snd_pure (fun G a w T _ hr => ⟨_, ?_, .lit _⟩) h
    have rx := hr x (by simp [hop, Op.operands])
    rw [hx] at rx
    simp [execOp, hop, rep_lit rx, convert, run_underlying hs, run_underlying hd, Conv.intToInt]
  · exact h.elim

theorem snd_ext {x : Operand} {i : Nat} (hop : o.op = .extract x i) (h : kExt (ρ x) i K) : SND P o ρ S K := by
  unfold kExt at h
  split at h
  · rename_i xs hx
    split at h
    · rename_i y hy
      refine snd_pure (fun G a w T _ hr => ?_) h
      have r := hr x (by simp [hop, Op.operands])
      rw [hx] at r
      generalize ha : a.eval x = va at r
      cases r with
      | @tup _ vs h0 h3 =>
        have hlt : i < vs.size := by rw [← h0]; exact (List.getElem?_eq_some_iff.1 hy).1
        have hv : vs[i]? = some vs[i] := Array.getElem?_eq_getElem hlt
        exact ⟨vs[i], by simp [execOp, hop, ha, Instr.extract, hv], h3 i y _ hy hv⟩
    · exact h.elim
  · exact h.elim

theorem snd_mx {isMax : Bool} {_t : TypeId} {x y : Operand} {c : Call} (hop : o.op = .call c) (hcal : c.callee = .builtin (if isMax then .max else .min)) (ha : c.args.toList = [x, y]) (h : kMx isMax (ρ x) (ρ y) K) : SND P o ρ S K := by
  unfold kMx at h
  split at h
  · rename_i k n k' m hx hy
    refine snd_pure (fun G a w T _ hr => ⟨_, ?_, .lit _⟩) h
    have hargs : c.args = #[x, y] := by rw [← ha]
    have rx := hr x (by simp [hop, Op.operands, Call.operands, hargs])
    have ry := hr y (by simp [hop, Op.operands, Call.operands, hargs])
    rw [hx] at rx; rw [hy] at ry
    have e1 := rep_lit rx
    have e2 := rep_lit ry
    cases isMax <;> simp [execOp, hop, resolve, hcal, hargs, invoke, builtin, Builtin.max_, Builtin.min_, Builtin.max2, Builtin.min2, e1, e2]
  · exact h.elim

theorem snd_mkf {f : FuncId} {fs cs : Array Operand} (hop : o.op = .makeFunc (.func f) fs cs) (h : K (.fn f (fs.toList.map ρ) (cs.toList.map ρ)) [] [] []) : SND P o ρ S K := by
  refine snd_pure (fun G a w T _ hr => ⟨.func (.func f) (fs.map a.eval) (cs.map a.eval), by simp [execOp, hop, Instr.makeFunc], ?_⟩) h
  refine .fn (by simp) (by simp) (fun j x v hx hv => ?_) (fun j x v hx hv => ?_)
  · obtain ⟨y, hy, rfl⟩ := map_get hx
    have hy' : fs[j]? = some y := by simpa using hy
    have : v = a.eval y := by simpa [hy'] using hv.symm
    subst this
    exact hr y (by simp [hop, Op.operands]; left; exact Array.mem_of_getElem? hy')
  · obtain ⟨y, hy, rfl⟩ := map_get hx
    have hy' : cs[j]? = some y := by simpa using hy
    have : v = a.eval y := by simpa [hy'] using hv.symm
    subst this
    exact hr y (by simp [hop, Op.operands]; right; exact Array.mem_of_getElem? hy')

theorem snd_len {x : Operand} {t e : TypeId} {c : Call} (hop : o.op = .call c) (hcal : c.callee = .builtin .len) (ha : c.args.toList = [x]) (hat : c.argTypes.toList = [t]) (ht : P.underlying t = some (.slice e)) (h : kLen false (ρ x) K) : SND P o ρ S K := by
  have hargs : c.args = #[x] := by rw [← ha]
  have hats : c.argTypes = #[t] := by rw [← hat]
  unfold kLen at h
  split at h
  · rename_i tg k xs _ hx
    refine snd_pure (fun G a w T _ hr => ⟨_, ?_, .lit _⟩) h
    have rx := hr x (by simp [hop, Op.operands, Call.operands, hargs])
    rw [hx] at rx
    generalize e1 : a.eval x = vx at rx
    cases rx with
    | sl => simp [execOp, hop, resolve, hcal, hargs, hats, invoke, builtin, Builtin.len_, e1, run_underlying ht, goInt]
  · rename_i hc _; cases hc
  · exact h.elim
theorem snd_lens {x : Operand} {t : TypeId} {c : Call} (hop : o.op = .call c) (hcal : c.callee = .builtin .len) (ha : c.args.toList = [x]) (hat : c.argTypes.toList = [t]) (ht : P.underlying t = some .string) (h : kLen true (ρ x) K) : SND P o ρ S K := by
  have hargs : c.args = #[x] := by rw [← ha]
  have hats : c.argTypes = #[t] := by rw [← hat]
  unfold kLen at h
  split at h
  · rename_i hc _; cases hc
  · rename_i s _ hx
    refine snd_pure (fun G a w T _ hr => ⟨_, ?_, .lit _⟩) h
    have rx := hr x (by simp [hop, Op.operands, Call.operands, hargs])
    rw [hx] at rx
    have e1 := rep_lit rx
    simp [execOp, hop, resolve, hcal, hargs, hats, invoke, builtin, Builtin.len_, e1, run_underlying ht, goInt]
  · exact h.elim

theorem snd_lenc {t e : TypeId} {n : Nat} {x : Operand} {c : Call} (hop : o.op = .call c) (hcal : c.callee = .builtin .len) (ha : c.args.toList = [x]) (hat : c.argTypes.toList = [t]) (ht : P.underlying t = some (.array n e)) (h : K (.lit (.int .i64 n)) [] [] []) : SND P o ρ S K := by
  have hargs : c.args = #[x] := by rw [← ha]
  have hats : c.argTypes = #[t] := by rw [← hat]
  refine snd_pure (fun G a w T _ hr => ⟨_, ?_, .lit _⟩) h
  simp [execOp, hop, resolve, hcal, hargs, hats, invoke, builtin, Builtin.len_, run_underlying ht, goInt]

end
end Go.Proofs.Ytgphhganepjaiaa
